import PyProof.Rows.All
import Wide.All
import OpenK.AllK
import Wide.FinOn
import HandS.ForMost
import HandS.Exc
import HandS.TryOnly
import HandS.ExcOwn
import HandS.WordsExc
import HandS.Walk
import HandS.IsInst
import HandS.ExcIs
import HandS.TupAny
import HandS.Deep
import HandS.Rev
import HandS.Zip
import KE.KDictKeyed
import HandS.Conv
import KE.GoesMore
import PyProof.EnumMake
import PyProof.EnumFor
import PyProof.WalksMore
import HandS.Strs
import HandS.TupLe
import HandS.Small
import PySem.Challenge.RW_errandend_k04_looked_through
set_option Elab.async false
set_option linter.all false
set_option maxRecDepth 100000
set_option maxHeartbeats 8000003
/-! DL0: own syntax and own interpreter over plain values. -/
namespace DL
open PySem L2

abbrev P := PyData
mutual
def pbeq : P → P → Bool
  | .none, .none => true
  | .bool a, .bool b => a == b
  | .int a, .int b => decide (a = b)
  | .str a, .str b => decide (a = b)
  | .list a, .list b => pbeqs a b
  | .tuple a, .tuple b => pbeqs a b
  | .dict a, .dict b => pbeqd a b
  | _, _ => false
def pbeqs : List P → List P → Bool
  | [], [] => true
  | a :: as, b :: bs => pbeq a b && pbeqs as bs
  | _, _ => false
def pbeqd : List (P × P) → List (P × P) → Bool
  | [], [] => true
  | (a, b) :: as, (c, d) :: bs => pbeq a c && pbeq b d && pbeqd as bs
  | _, _ => false
end
mutual
theorem pbeq_self : ∀ a : P, pbeq a a = true
  | .none => rfl
  | .bool _ => by simp [pbeq]
  | .int _ => by simp [pbeq]
  | .str _ => by simp [pbeq]
  | .list a => by rw [pbeq]; exact pbeqs_self a
  | .tuple a => by rw [pbeq]; exact pbeqs_self a
  | .dict a => by rw [pbeq]; exact pbeqd_self a
theorem pbeqs_self : ∀ a : List P, pbeqs a a = true
  | [] => rfl
  | a :: as => by rw [pbeqs, pbeq_self a, pbeqs_self as]; rfl
theorem pbeqd_self : ∀ a : List (P × P), pbeqd a a = true
  | [] => rfl
  | (a, b) :: as => by rw [pbeqd, pbeq_self a, pbeq_self b, pbeqd_self as]; rfl
end
mutual
theorem eq_of_pbeq : ∀ a b : P, pbeq a b = true → a = b
  | .none, b, h => by cases b <;> first | rfl | (simp [pbeq] at h)
  | .bool a, b, h => by cases b <;> simp [pbeq] at h <;> rw [h]
  | .int a, b, h => by cases b <;> simp [pbeq] at h <;> rw [h]
  | .str a, b, h => by cases b <;> simp [pbeq] at h <;> rw [h]
  | .list a, b, h => by cases b <;> simp [pbeq] at h; rw [eq_of_pbeqs a _ h]
  | .tuple a, b, h => by cases b <;> simp [pbeq] at h; rw [eq_of_pbeqs a _ h]
  | .dict a, b, h => by cases b <;> simp [pbeq] at h; rw [eq_of_pbeqd a _ h]
theorem eq_of_pbeqs : ∀ a b : List P, pbeqs a b = true → a = b
  | [], b, h => by cases b <;> first | rfl | (simp [pbeqs] at h)
  | a :: as, b, h => by
    cases b with
    | nil => simp [pbeqs] at h
    | cons b bs =>
      rw [pbeqs, Bool.and_eq_true] at h
      rw [eq_of_pbeq a b h.1, eq_of_pbeqs as bs h.2]
theorem eq_of_pbeqd : ∀ a b : List (P × P), pbeqd a b = true → a = b
  | [], b, h => by cases b <;> first | rfl | (simp [pbeqd] at h)
  | (a, c) :: as, b, h => by
    cases b with
    | nil => simp [pbeqd] at h
    | cons b bs =>
      obtain ⟨b1, b2⟩ := b
      rw [pbeqd, Bool.and_eq_true, Bool.and_eq_true] at h
      rw [eq_of_pbeq a b1 h.1.1, eq_of_pbeq c b2 h.1.2, eq_of_pbeqd as bs h.2]
end
instance : DecidableEq P := fun a b => if h : pbeq a b = true then .isTrue (eq_of_pbeq a b h) else .isFalse fun e => h (e ▸ pbeq_self a)

/-! ### values -/
/-- a datum, or a list of data that is owned here -/
inductive D1 where
  | p (x : P)
  | ml (xs : List P)
/-- the fields of the one class -/
inductive Fld where
  | table | most | book | todo | found | ended
  deriving DecidableEq
def Fld.name : Fld → Str
  | .table => "table" | .most => "most" | .book => "book" | .todo => "todo" | .found => "found" | .ended => "ended"
/-- a datum; a list, dict (t: keys are tuples), list of lists, instance that is owned here -/
inductive D where
  | p (x : P)
  | ml (xs : List P)
  | dc (t : Bool) (kvs : List (P × P))
  | ne (xs : List D1)
  | ins (fs : List (Fld × D1))
  /-- a list that is only read (the script) -/
  | rl (xs : List P)
/-- a slot: nothing known; owned; lent by the caller (may be changed); lent to be read; an exception of the class c -/
inductive Sl where
  | no
  | ow (d : D)
  | bo (d : D)
  | ro (d : D)
  | xc (c : String)
abbrev Env := List Sl
def gt : Env → Nat → Sl
  | [], _ => .no
  | x :: _, 0 => x
  | _ :: r, n + 1 => gt r n
def D1.d : D1 → D
  | .p x => .p x
  | .ml xs => .ml xs
def D.d1 : D → Option D1
  | .p x => some (.p x)
  | .ml xs => some (.ml xs)
  | _ => none
def seqL : D → Option (List P)
  | .p (.list xs) => some xs
  | .ml xs => some xs
  | _ => none
def frz : D → Option P
  | .p x => some x
  | .ml xs => some (.list xs)
  | .dc false kvs => some (.dict kvs)
  | _ => none
def Sl.rd : Sl → Option D
  | .ow d => some d
  | .bo d => some d
  | .ro d => some d
  | _ => none

/-! ### lists -/
def cutL {α : Type} (xs : List α) (lo hi : Option Int) : List α := (xs.drop (HT.sIx xs.length 0 lo)).take (HT.sIx xs.length xs.length hi - HT.sIx xs.length 0 lo)
def dget (kvs : List (P × P)) (k : P) : Option P := (kvs.find? fun kv => decide (kv.1 = k)).map (·.2)
def dput (kvs : List (P × P)) (k v : P) : List (P × P) :=
  if (dget kvs k).isSome then kvs.map (fun kv => if kv.1 = k then (kv.1, v) else kv) else kvs ++ [(k, v)]

/-! ### syntax -/
inductive BOp where | add | sub | mul | fdiv | mod | pow
inductive COp where | lt | le | gt | ge | eq | ne | is | isn | in_ | nin
inductive B1 where | len | tuple | list | int | any | all | lenset
inductive M0 where | pop | reverse | clear | strip
inductive M1 where | append | popAt | extend | startswith | index | split | find | join | count | partition
inductive Ty where | int | bool | str | tuple | list | ve | xc (c : String)
inductive E where
  | k (x : P) | g (x : String) (v : P)
  | v (i : Nat) | mv (i : Nat) | fz (i : Nat) | bw (i : Nat) | rw (i : Nat)
  | fr (e : E) | tup (es : E) | lst (es : E) | lsn (es : E)
  | nil | cons (e es : E) | no
  | bin (o : BOp) (a b : E) | neg (a : E) | cmp (o : COp) (a b : E) | chn (o o' : COp) (a b c : E)
  | an (a b : E) | orr (a b : E) | nt (a : E) | ife (c a b : E)
  | ix (a i : E) | sl (a lo hi : E) | mvi (i : Nat) (k : E) | lns (e : E) | dix (kvs : List (Str × Str)) (i : E)
  | call (f : String) (es : E)
  | b1 (f : B1) (e : E) | mx2 (a b : E) | mx3 (a b c : E) | isi (e : E) (t : List Ty) (one : Bool)
  | m0 (m : M0) (o : E) | m1 (m : M1) (o a : E) | dgt (o a b : E)
  | lc (elt : E) (i : Nat) (it c : E) | lc2 (elt : E) (i j : Nat) (it c : E)
  | dc (t : Bool) | dsp (es : E)
  | fld (o : E) (f : Fld) | mk (es : E) | mth (m : String) (o es : E)
  | lrg (e : E) | rg1 (e : E) | rg2 (a b : E) | rev (e : E) | zip (a b : E) | enu (e : E)
inductive S where
  | skip | seq (a b : S) | gh (i : Nat)
  | set (i : Nat) (e : E) | setC (i : Nat) (elt : E) (j : Nat) (it c : E) | setI (o k e : E) | setF (i : Nat) (f : Fld) (e : E)
  | ex (e : E) | ret (e : E) | retN | ite (c : E) (a b : S)
  | for1 (i : Nat) (it : E) (b : S) | for2 (i j : Nat) (it : E) (b : S) | whl (c : E) (b : S)
  | rai (c m : String) | tryE (b : S) (xs : List String) (c : String) (i : Nat) (h : S) | tryO (b : S) (xs : List String) (c : String) (h : S)
  | try3 (b : S) (xs : List String) (i : Nat) (c1 c2 c3 : String) (h1 h2 h3 : S) | pass | dead

/-! ### results -/
inductive R (α : Type) where
  | ok (a : α) (env : Env)
  | ex (c : String) (env : Env)
  | st
def R.bind {α β : Type} (r : R α) (f : α → Env → R β) : R β := match r with
  | .ok a e => f a e
  | .ex c e => .ex c e
  | .st => .st
@[simp] theorem R.bind_ok {α β : Type} (a : α) (e : Env) (f : α → Env → R β) : (R.ok a e).bind f = f a e := by
  have h : ∀ r : R α, r = .ok a e → r.bind f = f a e := by rintro _ rfl; rfl
  exact h _ rfl
@[simp] theorem R.bind_ex {α β : Type} (c : String) (e : Env) (f : α → Env → R β) : (R.ex c e).bind f = .ex c e := rfl
@[simp] theorem R.bind_st {α β : Type} (f : α → Env → R β) : (R.st : R α).bind f = .st := rfl
def R.of {α : Type} (o : Option α) (env : Env) : R α := match o with
  | some a => .ok a env
  | none => .st
@[simp] theorem R.of_some {α : Type} (a : α) (env : Env) : R.of (some a) env = .ok a env := by
  have h : ∀ r : Option α, r = some a → R.of r env = .ok a env := by rintro _ rfl; rfl
  exact h _ rfl
@[simp] theorem R.of_none {α : Type} (env : Env) : R.of (none : Option α) env = .st := rfl
inductive RS where
  | nx (env : Env) | rt (d : D) (env : Env) | ex (c : String) (env : Env) | st
inductive CR where
  | ok (d : D) (outs : Env) | ex (c : String) | st
structure Calls where
  call : String → Env → CR
  wf : Nat

/-! ### operations -/
def intD : D → Option Int
  | .p (.int i) => some i
  | _ => none
def strD : D → Option Str
  | .p (.str x) => some x
  | _ => none
def opAdd (a b : D) : Option D := match a with
  | .p (.int i) => (match b with | .p (.int j) => some (.p (.int (i + j))) | _ => none)
  | .p (.str x) => (match b with | .p (.str y) => if x.length + y.length ≤ sizeLine then some (.p (.str (x ++ y))) else none | _ => none)
  | .p (.tuple xs) => (match b with | .p (.tuple ys) => if xs.length + ys.length ≤ sizeLine then some (.p (.tuple (xs ++ ys))) else none | _ => none)
  | _ => (match seqL a with
    | some xs => (match seqL b with | some ys => if xs.length + ys.length ≤ sizeLine then some (.ml (xs ++ ys)) else none | none => none)
    | none => none)
def opI (f : Int → Int → Option Int) (a b : D) : Option D := match a with
  | .p (.int i) => (match b with | .p (.int j) => (f i j).map fun k => .p (.int k) | _ => none)
  | _ => none
def big (i : Int) : Bool := decide (-(2 ^ 64) < i) && decide (i < 2 ^ 64)
def op2 : BOp → D → D → Option D
  | .add => opAdd
  | .sub => opI fun i j => some (i - j)
  | .mul => opI fun i j => if big i || big j then some (i * j) else none
  | .fdiv => opI fun i j => if 0 < j ∧ j < 1073741824 then some (i / j) else none
  | .mod => opI fun i j => if 0 < j then some (i % j) else none
  | .pow => opI fun i j => if 0 ≤ j ∧ j ≤ 1000000 ∧ i.natAbs < 2 ^ 64 then some (i ^ j.toNat) else none
def isScal : P → Bool
  | .none | .bool _ | .int _ | .str _ => true
  | _ => false
def scalP : P → P → Bool
  | .int _, .bool _ => false
  | .bool _, .int _ => false
  | a, b => isScal a && isScal b
def eqP (a b : P) : Option Bool := if scalP a b = true ∨ (SeqAt.shaped a = true ∧ SeqAt.shaped b = true) then some (PyData.eqv a b) else none
def cmpI (f : Int → Int → Bool) (a b : D) : Option Bool := match a with
  | .p (.int i) => (match b with | .p (.int j) => some (f i j) | _ => none)
  | _ => none
def datum : D → Option P
  | .p x => some x
  | .ml xs => some (.list xs)
  | _ => none
def opEq (a b : D) : Option Bool := match datum a with
  | some x => (match datum b with | some y => eqP x y | none => none)
  | none => none
def isFlat : P → Bool
  | .int _ | .str _ | .none => true
  | _ => false
/-- a key that dicts here may have -/
def keyP : P → Option Key
  | .int i => some (.inl i)
  | .str x => some (.inr x)
  | _ => none
mutual
/-- a key of nested tuples -/
def keyN : P → Option NestedKey
  | .none => some .none
  | .int i => some (.num i)
  | .str x => some (.text x)
  | .tuple ds => (keyNs ds).map NestedKey.tup
  | _ => none
def keyNs : List P → Option (List NestedKey)
  | [] => some []
  | d :: ds => match keyN d with
    | some k => (keyNs ds).map (k :: ·)
    | none => none
end
def keyT : P → Option NestedKey
  | .tuple ds => (match keyNs ds with
    | some ks => if (NestedKey.tup ks).depth ≤ 8 then some (.tup ks) else none
    | none => none)
  | _ => none
def dicD : D → Option (List (P × P))
  | .p (.dict kvs) => some kvs
  | .dc false kvs => some kvs
  | _ => none
/-- a pair of whole numbers -/
def pr2 : P → Option (Int × Int)
  | .tuple [.int i, .int j] => some (i, j)
  | _ => none
/-- the order of whole numbers, and of pairs of such -/
def cmpP (f : Int → Int → Bool) (a b : D) : Option Bool := match cmpI f a b with
  | some k => some k
  | none => (match a with
    | .p x => (match b with
      | .p y => (match pr2 x with
        | some u => (match pr2 y with
          | some v => some (if u.1 = v.1 then f u.2 v.2 else f u.1 v.1)
          | none => none)
        | none => none)
      | _ => none)
    | _ => none)
/-- x in y -/
def opIn (a b : D) : Option Bool := match b with
  | .dc true kvs => (match a with
    | .p x => if (keyT x).isSome = true then some (dget kvs x).isSome else none
    | _ => none)
  | .p (.str z) => (match a with
    | .p (.str x) => if x.cps.size = 1 then some (decide (x.cps.getD 0 0 ∈ z.cps.toList)) else none
    | _ => none)
  | .p (.tuple ys) => (match a with
    | .p x => if isFlat x = true ∧ ys.all isFlat = true then some (ys.any fun y => decide (y = x)) else none
    | _ => none)
  | _ => (match dicD b with
    | some kvs => (match a with
      | .p x => (match keyP x with
        | some _ => some (dget kvs x).isSome
        | none => none)
      | _ => none)
    | none => (match seqL b with
      | some ys => (match a with
        | .p x => if isFlat x = true ∧ ys.all isFlat = true then some (ys.any fun y => decide (y = x))
          else if SeqAt.shaped x = true ∧ SeqAt.shaped (.list ys) = true then some (ys.any fun z => PyData.eqv z x) else none
        | _ => none)
      | none => none))
def opIs (a b : D) : Option Bool := match b with
  | .p .none => (match a with
    | .p .none => some true
    | _ => some false)
  | .p (.bool y) => (match a with | .p (.bool x) => some (decide (x = y)) | _ => none)
  | _ => none
def opC : COp → D → D → Option Bool
  | .lt => cmpI fun i j => decide (i < j)
  | .le => cmpP fun i j => decide (i ≤ j)
  | .gt => cmpP fun i j => decide (j < i)
  | .ge => cmpI fun i j => decide (j ≤ i)
  | .eq => opEq
  | .ne => fun a b => (opEq a b).map (!·)
  | .is => opIs
  | .isn => fun a b => (opIs a b).map (!·)
  | .in_ => opIn
  | .nin => fun a b => (opIn a b).map (!·)
/-- a[i] -/
def opIx (a i : D) : Option P := match a with
  | .p (.tuple xs) => (match i with | .p (.int j) => atI xs j | _ => none)
  | .p (.list xs) => (match i with | .p (.int j) => atI xs j | _ => none)
  | .ml xs => (match i with | .p (.int j) => atI xs j | _ => none)
  | .rl xs => (match i with | .p (.int j) => atI xs j | _ => none)
  | .ne xs => (match i with
    | .p (.int j) => (match atI xs j with
      | some (.p x) => some x
      | _ => none)
    | _ => none)
  | .p (.str z) => (match i with | .p (.int j) => if z.length ≤ sizeLine then (atI z.cps.toList j).map fun c => .str ⟨#[c]⟩ else none | _ => none)
  | .p (.dict kvs) => (match i with | .p x => if (keyP x).isSome = true then dget kvs x else none | _ => none)
  | .dc false kvs => (match i with | .p x => if (keyP x).isSome = true then dget kvs x else none | _ => none)
  | .dc true kvs => (match i with | .p x => if (keyT x).isSome = true then dget kvs x else none | _ => none)
  | _ => none
def opSl (a : D) (lo hi : Option Int) : Option D := match a with
  | .p (.str z) => if z.length ≤ sizeLine then some (.p (.str (cutS z lo hi))) else none
  | .p (.tuple xs) => some (.p (.tuple (cutL xs lo hi)))
  | .p (.list xs) => some (.ml (cutL xs lo hi))
  | .ml xs => some (.ml (cutL xs lo hi))
  | _ => none
def boolsP : List P → Option (List Bool)
  | [] => some []
  | .bool b :: r => (boolsP r).map (b :: ·)
  | _ :: _ => none
def opB1 : B1 → D → Option D
  | .len, a => (match a with
    | .p (.str z) => if z.length ≤ sizeLine then some (.p (.int z.length)) else none
    | .p (.tuple xs) => some (.p (.int xs.length))
    | .p (.list xs) => some (.p (.int xs.length))
    | .ml xs => some (.p (.int xs.length))
    | .rl xs => some (.p (.int xs.length))
    | .ne xs => some (.p (.int xs.length))
    | .p (.dict kvs) => some (.p (.int kvs.length))
    | .dc _ kvs => some (.p (.int kvs.length))
    | _ => none)
  | .tuple, a => (match a with
    | .p (.tuple xs) => some (.p (.tuple xs))
    | .p (.list xs) => some (.p (.tuple xs))
    | .ml xs => some (.p (.tuple xs))
    | _ => none)
  | .list, a => (match a with
    | .p (.tuple xs) => some (.ml xs)
    | .p (.list xs) => some (.ml xs)
    | .ml xs => some (.ml xs)
    | _ => none)
  | .int, a => (match a with
    | .p (.int i) => some (.p (.int i))
    | .p (.bool b) => some (.p (.int (if b then 1 else 0)))
    | _ => none)
  | .any, a => (match seqL a with
    | some xs => (boolsP xs).map fun bs => .p (.bool (bs.any id))
    | none => none)
  | .all, a => (match seqL a with
    | some xs => (boolsP xs).map fun bs => .p (.bool (bs.all id))
    | none => none)
  | .lenset, _ => none
def truth : D → Option Bool
  | .p .none => some false
  | .p (.bool b) => some b
  | .p (.int i) => some (i != 0)
  | .p (.str z) => if z.length ≤ sizeLine then some (z.length != 0) else none
  | .p (.tuple xs) => some (!xs.isEmpty)
  | .p (.list xs) => some (!xs.isEmpty)
  | .ml xs => some (!xs.isEmpty)
  | _ => none
def tyOf : D → Option Ty
  | .p .none => none
  | .p (.bool _) => some .bool
  | .p (.int _) => some .int
  | .p (.str _) => some .str
  | .p (.tuple _) => some .tuple
  | .p (.list _) => some .list
  | .ml _ => some .list
  | _ => none
/-- isinstance of a value whose type is t (none: None's) -/
def isTy (t : Option Ty) (c : Ty) : Bool := match t, c with
  | some .bool, .bool => true
  | some .bool, .int => true
  | some .int, .int => true
  | some .str, .str => true
  | some .tuple, .tuple => true
  | some .list, .list => true
  | _, _ => false
def isXc (c : String) : Ty → Bool
  | .ve => true
  | .xc d => d == c || d == "ErrandError"
  | _ => false
def lookF (f : Fld) : List (Fld × D1) → Option D1
  | [] => none
  | (g, d) :: r => if g = f then some d else lookF f r
def putFl (f : Fld) (d : D1) : List (Fld × D1) → List (Fld × D1)
  | [] => [(f, d)]
  | (g, e) :: r => if g = f then (f, d) :: r else (g, e) :: putFl f d r
def negIx : E → Option Int
  | .k (.int j) => some j
  | .neg (.k (.int j)) => some (-j)
  | _ => none
/-- what stands at a place, where e is one -/
def brw (e : E) (env : Env) : Option D := match e with
  | .v i => (gt env i).rd
  | .fld (.v i) f => (match (gt env i).rd with | some (.ins fs) => (lookF f fs).map D1.d | _ => none)
  | .ix (.v i) k => (match (gt env i).rd with
    | some (.ne xs) => (match negIx k with | some j => (atI xs j).map D1.d | none => none)
    | _ => none)
  | _ => none
/-- a place is changed by f -/
def Sl.upd (s : Sl) (f : D → Option (D × D)) : Option (D × Sl) := match s with
  | .ow d => (f d).map fun r => (r.1, .ow r.2)
  | .bo d => (f d).map fun r => (r.1, .bo r.2)
  | _ => none
def inFld (fl : Fld) (f : D → Option (D × D)) (d : D) : Option (D × D) := match d with
  | .ins fs => (match lookF fl fs with
    | some d1 => (match f d1.d with
      | some (r, d') => d'.d1.map fun x => (r, .ins (putFl fl x fs))
      | none => none)
    | none => none)
  | _ => none
def inIx (j : Int) (f : D → Option (D × D)) (d : D) : Option (D × D) := match d with
  | .ne xs => (match ixN xs.length j with
    | some n => (match xs[n]? with
      | some d1 => (match f d1.d with
        | some (r, d') => d'.d1.map fun x => (r, .ne (xs.set n x))
        | none => none)
      | none => none)
    | none => none)
  | _ => none
def modP (e : E) (env : Env) (f : D → Option (D × D)) : Option (D × Env) := match e with
  | .v i => ((gt env i).upd f).map fun r => (r.1, env.set i r.2)
  | .fld (.v i) fl => ((gt env i).upd (inFld fl f)).map fun r => (r.1, env.set i r.2)
  | .ix (.v i) k => (match negIx k with
    | some j => ((gt env i).upd (inIx j f)).map fun r => (r.1, env.set i r.2)
    | none => none)
  | _ => none
abbrev nonD : D := .p .none
/-- the last item of a list and the rest -/
def popL {α : Type} (xs : List α) : Option (α × List α) := match xs[xs.length - 1]? with
  | some y => some (y, xs.dropLast)
  | none => none
def mut0 : M0 → D → Option (D × D)
  | .pop, d => (match d with
    | .ml xs => (popL xs).map fun r => (.p r.1, .ml r.2)
    | .ne xs => (popL xs).map fun r => (r.1.d, .ne r.2)
    | _ => none)
  | .reverse, d => (match d with | .ml xs => some (nonD, .ml xs.reverse) | _ => none)
  | .clear, d => (match d with | .ml _ => some (nonD, .ml []) | _ => none)
  | .strip, _ => none
def mut1 (m : M1) (a : D) (d : D) : Option (D × D) := match m with
  | .append => (match d with
    | .ml xs => (match a with | .p x => if xs.length < sizeLine then some (nonD, .ml (xs ++ [x])) else none | _ => none)
    | .ne xs => (match a.d1 with | some x => if xs.length < sizeLine then some (nonD, .ne (xs ++ [x])) else none | none => none)
    | _ => none)
  | .extend => (match d with
    | .ml xs => (match seqL a with | some ys => if xs.length + ys.length ≤ sizeLine then some (nonD, .ml (xs ++ ys)) else none | none => none)
    | _ => none)
  | .popAt => (match d with
    | .ml xs => (match a with
      | .p (.int i) => if -(2 ^ 63) ≤ i ∧ i < 2 ^ 63 then (match ixN xs.length i with
        | some n => (match xs[n]? with | some y => some (.p y, .ml (xs.eraseIdx n)) | none => none)
        | none => none) else none
      | _ => none)
    | _ => none)
  | _ => none
def setAt (k a : P) (d : D) : Option (D × D) := match d with
  | .ml xs => (match k with | .int i => (ixN xs.length i).map fun n => (nonD, .ml (xs.set n a)) | _ => none)
  | .dc false kvs => if (keyP k).isSome = true ∧ kvs.length < sizeLine then some (nonD, .dc false (dput kvs k a)) else none
  | .dc true kvs => if (keyT k).isSome = true ∧ kvs.length < sizeLine then some (nonD, .dc true (dput kvs k a)) else none
  | .ne xs => (match k with
    | .int i => (match ixN xs.length i with
      | some n => (match xs[n]? with
        | some (.p _) => some (nonD, .ne (xs.set n (.p a)))
        | _ => none)
      | none => none)
    | _ => none)
  | _ => none
def strsP : List P → Option (List Str)
  | [] => some []
  | .str b :: r => (strsP r).map (b :: ·)
  | _ :: _ => none
/-- each once, as first met -/
def uq (xs : List Str) : List Str := xs.foldl (fun l x => if x ∈ l then l else l ++ [x]) []
/-- what the display answers -/
def dixD (kvs : List (Str × Str)) (d : D) : Option D := match d with
  | .p (.str s) => (kvs.lookup s).map fun z => .p (.str z)
  | _ => none
/-- len(set(t)) of a tuple of texts -/
def lnsD (d : D) : Option D := match d with
  | .p (.tuple xs) => (match strsP xs with
    | some ss => if ss.length ≤ 64 then some (.p (.int ((uq ss).length : Nat))) else none
    | none => none)
  | _ => none
def joinLen (a : Str) (ys : List Str) : Nat := (ys.map (·.length)).sum + ys.length * a.length
def idxP (x : P) : List P → Option Nat
  | [] => none
  | y :: r => if y = x then some 0 else (idxP x r).map (· + 1)
def read0 : M0 → D → Option D
  | .strip, .p (.str z) => if z.length ≤ sizeLine then some (.p (.str (Txt.strip z))) else none
  | _, _ => none
def str2 (o a : D) : Option (Str × Str) := match o, a with
  | .p (.str x), .p (.str y) => some (x, y)
  | _, _ => none
/-- what is joined: a list or a tuple -/
def joinArg (a : D) : Option (List P) := match a with
  | .p (.tuple xs) => some xs
  | a => seqL a
def rdJoin (x : Str) (a : D) : Option D := match joinArg a with
  | some ys => (match strsP ys with
    | some zs => if joinLen x zs ≤ 16777216 then some (.p (.str (Txt.join x zs))) else none
    | none => none)
  | none => none
def rdIndex (o a : D) : Option D := match o, a with
  | .p (.tuple xs), .p x => if isFlat x = true ∧ xs.all isFlat = true then (idxP x xs).map fun (n : Nat) => .p (.int (n : Int)) else none
  | _, _ => none
def partP (x y : Str) : P := match Txt.partition x y with
  | (u, v, w) => .tuple [.str u, .str v, .str w]
def cntP (x : P) (xs : List P) : Nat := xs.countP fun y => decide (y = x)
def rdCount (o a : D) : Option D := match o, a with
  | .p (.list xs), .p x => if isFlat x = true ∧ xs.all isFlat = true then some (.p (.int (cntP x xs : Nat))) else none
  | _, _ => none
def read1 (m : M1) (o a : D) : Option D := match m with
  | .startswith => (str2 o a).map fun r => .p (.bool (Txt.startswith r.1 r.2))
  | .find => (str2 o a).map fun r => .p (.int (Txt.find r.1 r.2))
  | .split => (str2 o a).bind fun r => if (r.2.length == 0) = false ∧ r.1.length + 2 ≤ sizeLine then some (.ml ((Txt.split r.1 r.2).map PyData.str)) else none
  | .partition => (str2 o a).bind fun r => if (r.2.length == 0) = false ∧ r.1.length ≤ sizeLine then some (.p (partP r.1 r.2)) else none
  | .join => (match o with
    | .p (.str x) => rdJoin x a
    | _ => none)
  | .index => rdIndex o a
  | .count => rdCount o a
  | _ => none
/-- a dict with tuples as keys -/
def isDN : D → Bool
  | .dc true _ => true
  | _ => false
def opGet (d : D) (k z : P) : Option D := match d with
  | .dc true kvs => if (keyT k).isSome = true then some (.p ((dget kvs k).getD z)) else none
  | _ => none
def pairUp : List P → Option (List (P × P))
  | [] => some []
  | k :: v :: r => (pairUp r).map ((k, v) :: ·)
  | _ => none
def asP (r : R D) : R P := r.bind fun d env => match d with
  | .p x => .ok x env
  | _ => .st
def isRw : E → Bool
  | .rw _ => true
  | _ => false
/-- a place: a slot, an attribute of the instance in a slot, an item by a written number of the list in a slot -/
def isPl : E → Bool
  | .v _ => true
  | .fld (.v _) _ => true
  | .ix (.v _) k => (negIx k).isSome
  | _ => false
/-- nothing that stands is changed by it -/
def quiet : E → Bool
  | .k _ | .g _ _ | .v _ => true
  | .fld a _ => quiet a
  | .neg a => quiet a
  | .bin _ a b => quiet a && quiet b
  | .ix a b => quiet a && quiet b
  | .lns a => quiet a
  | .sl a b c => quiet a && quiet b && quiet c
  | .no => true
  | .b1 _ a => quiet a
  | .tup a => quiet a
  | .nil => true
  | .cons a b => quiet a && quiet b
  | .rw _ => true
  | .mth _ o es => isRw o && quiet es
  | .ife (.cmp _ a b) x y => quiet a && quiet b && quiet x && quiet y
  | _ => false
/-- a test by which nothing is changed -/
def qT : E → Bool
  | .cmp _ a b => quiet a && quiet b
  | _ => false
theorem quiet_ife (c x y : E) : quiet (.ife c x y) = (qT c && quiet x && quiet y) := by
  cases c <;> first | rfl | simp [quiet, qT]
/-- arguments: values, or lent places -/
inductive AV where
  | va (d : D) | br (i : Nat) | rr (i : Nat)
def slotOf (env : Env) : AV → Option Sl
  | .va d => some (.ow d)
  | .br i => (match gt env i with | .ow d => some (.bo d) | .bo d => some (.bo d) | _ => none)
  | .rr i => (match (gt env i).rd with | some d => some (.ro d) | none => none)
def slotsOf (env : Env) : List AV → Option Env
  | [] => some []
  | a :: r => (match slotOf env a with
    | some s => (slotsOf env r).map (s :: ·)
    | none => none)
/-- behind a call the lent places hold what came back -/
def giveBack (env : Env) : List AV → Env → Option Env
  | [], _ => some env
  | .br i :: r, o :: os => (match o with
    | .bo d => (match gt env i with
      | .ow _ => giveBack (env.set i (.ow d)) r os
      | .bo _ => giveBack (env.set i (.bo d)) r os
      | _ => none)
    | _ => none)
  | _ :: r, _ :: os => giveBack env r os
  | _, _ => none
/-- lent places are lent once -/
def lentOnce : List AV → Bool
  | [] => true
  | .br i :: r => (r.all fun a => match a with | .br j => i != j | .rr j => i != j | _ => true) && lentOnce r
  | .rr i :: r => (r.all fun a => match a with | .br j => i != j | _ => true) && lentOnce r
  | _ :: r => lentOnce r
/-- behind a call that raised -/
def lostBy (env : Env) : List AV → Env
  | [] => env
  | .br i :: r => lostBy (env.set i .no) r
  | _ :: r => lostBy env r
def doCall (C : Calls) (f : String) (as : List AV) (env : Env) : R D :=
  if lentOnce as = true then (match slotsOf env as with
    | some ts => (match C.call f ts with
      | .ok d outs => (match giveBack env as outs with
        | some env' => .ok d env'
        | none => .st)
      | .ex c => .ex c (lostBy env as)
      | .st => .st)
    | none => .st)
  else .st
/-- a method's call: nothing is raised by it -/
def doMeth (C : Calls) (f : String) (as : List AV) (env : Env) : R D :=
  if lentOnce as = true then (match slotsOf env as with
    | some ts => (match C.call f ts with
      | .ok d outs => (match giveBack env as outs with
        | some env' => .ok d env'
        | none => .st)
      | _ => .st)
    | none => .st)
  else .st
def recS (r : AV) (env : Env) : Bool := match r with
  | .br i => (match (gt env i).rd with | some (.ins _) => true | _ => false)
  | .rr i => (match (gt env i).rd with | some (.ins _) => true | _ => false)
  | .va _ => false
/-- a new instance: __init__ at an instance without attributes -/
def doMake (C : Calls) (as : List AV) (env : Env) : R D :=
  if lentOnce as = true then (match slotsOf env as with
    | some ts => (match C.call "Machine" (.bo (.ins []) :: ts) with
      | .ok (.p .none) (.bo d :: outs) => (match giveBack env as outs with
        | some env' => .ok d env'
        | none => .st)
      | _ => .st)
    | none => .st)
  else .st
def lcLoop {α : Type} (f : P → Env → R α) : List P → List α → Env → R (List α)
  | [], acc, env => .ok acc env
  | x :: xs, acc, env => (match f x env with
    | .ok y env' => if acc.length < sizeLine then lcLoop f xs (acc ++ [y]) env' else .st
    | _ => .st)
/-- a comprehension's own slot: nothing that is owned stands there -/
def lcG (i : Nat) (env : Env) : Bool := decide (i < env.length) && (match gt env i with
  | .no => true
  | .ow (.p _) => true
  | _ => false)
def lcE (i : Nat) (v : Env → R D) (env : Env) : R P := (asP (v env)).bind fun y e => .ok y (e.set i .no)
def lcF (i : Nat) (v : Env → R D) (x : P) (env : Env) : R P := lcE i v (env.set i (.ow (.p x)))
def lcIf (c : P → Env → R Bool) (f : Env → R P) (i : Nat) : List P → List P → Env → R (List P)
  | [], acc, env => .ok acc env
  | x :: xs, acc, env => (match c x env with
    | .ok b env1 => if b = true then (match f env1 with
        | .ok y env' => if acc.length < sizeLine then lcIf c f i xs (acc ++ [y]) env' else .st
        | _ => .st) else lcIf c f i xs acc (env1.set i .no)
    | _ => .st)
def rangeP (lo : Int) (n : Nat) : List P := (List.range n).map fun (i : Nat) => .int (lo + (i : Int))
def tup2 (x : P) : Option (P × P) := match x with
  | .tuple [a, b] => some (a, b)
  | _ => none
def noC : E → Bool
  | .nil => true
  | _ => false
def lcF2 (i j : Nat) (v : Env → R D) (x : P) (env : Env) : R P := match tup2 x with
  | some u => (asP (v ((env.set i (.ow (.p u.1))).set j (.ow (.p u.2))))).bind fun y e => .ok y ((e.set i .no).set j .no)
  | none => .st
def catT (l : List (P × P)) : List P := l.map fun p => .tuple [p.1, p.2]

/-! ### the interpreter: all readings of a term at once -/
structure Den where
  v : Env → R D
  t : Env → R Bool
  s : Env → R (List P)
  n : Env → R (List D1)
  a : Env → R (List AV)
  o : Env → R (Option Int)
  i : Env → R (List P)
/-- what stands at the place e, else e's value -/
def orB (e : E) (v : Env → R D) (env : Env) : R D := match brw e env with
  | some d => .ok d env
  | none => v env
def walkD (d : D) (env : Env) : R (List P) := match d with
  | .p (.list xs) => .ok xs env
  | .p (.tuple xs) => .ok xs env
  | .p (.str z) => .ok (z.cps.toList.map fun c => .str ⟨#[c]⟩) env
  | _ => .st
def partD (d : D) (env : Env) : R (Option Int) := match d with
  | .p (.int i) => .ok (some i) env
  | _ => .st
def dflt (e : E) (v : Env → R D) : Den where
  v := v
  t := fun env => (orB e v env).bind fun d env => R.of (truth d) env
  s := fun _ => .st
  n := fun _ => .st
  a := fun _ => .st
  o := fun env => (v env).bind partD
  i := fun env => (v env).bind walkD
def frzD (d : D) (env : Env) : R D := match frz d with
  | some x => .ok (.p x) env
  | none => .st
def isP : D → Bool
  | .p _ => true
  | _ => false
/-- the second operand changes nothing, or the first is a datum -/
def okQ (d : D) (b : E) : Bool := isP d || quiet b
def boolD (o : Option Bool) (env : Env) : R D := match o with
  | some k => .ok (.p (.bool k)) env
  | none => .st
def negD (d : D) : Option D := match d with
  | .p (.int i) => some (.p (.int (-i)))
  | _ => none
def boolOf (d : D) : Option Bool := match d with
  | .p (.bool k) => some k
  | _ => none
def ixD (d1 d2 : D) (i : E) : Option D := if okQ d1 i = true then (opIx d1 d2).map D.p else none
def evFz (i : Nat) (env : Env) : R D := match gt env i with
  | .ow d => (match frz d with
    | some x => .ok (.p x) (env.set i (.ow (.p x)))
    | none => .st)
  | _ => .st
def evMv (i : Nat) (env : Env) : R D := match gt env i with
  | .ow d => .ok d (env.set i .no)
  | _ => .st
/-- an item of a list of lists, the list itself gone -/
def evMvi (i : Nat) (k : E) (env : Env) : R D := match gt env i with
  | .ow (.ne xs) => (match negIx k with
    | some jj => (match atI xs jj with
      | some x => .ok x.d (env.set i .no)
      | none => .st)
    | none => .st)
  | _ => .st
def evV (i : Nat) (env : Env) : R D := match (gt env i).rd with
  | some (.p x) => .ok (.p x) env
  | _ => .st
def isB : Ty → Bool
  | .ve => false
  | .xc _ => false
  | _ => true
def tyKn : D → Bool
  | .p (.dict _) => false
  | .p _ => true
  | .ml _ => true
  | _ => false
def isiD (ts : List Ty) (d : D) (env : Env) : R D := match ts.all isB && tyKn d with
  | true => .ok (.p (.bool (ts.any (isTy (tyOf d))))) env
  | false => .st
def isiS (ts : List Ty) (s : Sl) (env : Env) : R D := match s with
  | .xc c => if (ts.all fun t => !isB t) = true then .ok (.p (.bool (ts.any (isXc c)))) env else .st
  | s => (match s.rd with
    | some d => isiD ts d env
    | none => .st)
def isVar : E → Option Nat
  | .v i => some i
  | _ => none
def modR (o : E) (env : Env) (f : D → Option (D × D)) : R D := match modP o env f with
  | some r => .ok r.1 r.2
  | none => .st
def rdOk (m : M1) (d : D) : Bool := match m with
  | .index => (match d with | .p (.tuple _) => true | _ => false)
  | .count => (match d with | .p (.list _) => true | _ => false)
  | _ => (match d with | .p (.str _) => true | _ => false)
def lsAt (o : E) (env : Env) : Bool := match brw o env with
  | some (.ml _) => true
  | some (.ne _) => true
  | _ => false
def mx (x y : D) : Option D := opI (fun i j => some (if j > i then j else i)) x y
def fldD (f : Fld) (d : D) : Option D := match d with
  | .ins fs => (match lookF f fs with
    | some d => some d.d
    | none => none)
  | _ => none
def pOnly (d : D) : Option D := match d with
  | .p x => some (.p x)
  | _ => none
def recvA (o : E) : Option AV := match o with
  | .v i => some (.br i)
  | .rw i => some (.rr i)
  | _ => none
def argA (e : E) (v : Env → R D) (env : Env) : R AV := match e with
  | .bw i => if (gt env i).rd.isSome = true then .ok (.br i) env else .st
  | .rw i => if (gt env i).rd.isSome = true then .ok (.rr i) env else .st
  | .lst _ => (v env).bind fun d env => .ok (.va d) env
  | _ => (asP (v env)).bind fun x env => .ok (.va (.p x)) env
def rg1D (d : D) (env : Env) : R (List P) := match d with
  | .p (.int n) => if n.natAbs < 4611686018427387904 then .ok (rangeP 0 n.toNat) env else .st
  | _ => .st
def rg2D (d d2 : D) (env : Env) : R (List P) := match d, d2 with
  | .p (.int lo), .p (.int hi) => if lo.natAbs < 4611686018427387904 ∧ hi.natAbs < 4611686018427387904 then .ok (rangeP lo (hi - lo).toNat) env else .st
  | _, _ => .st
def revD (d : D) (env : Env) : R (List P) := match d with
  | .p (.list xs) => .ok xs.reverse env
  | _ => .st
def zipD (d d2 : D) (env : Env) : R (List P) := match d, d2 with
  | .p (.list xs), .p (.list ys) => .ok (catT (xs.zip ys)) env
  | .p (.tuple xs), .p (.tuple ys) => .ok (catT (xs.zip ys)) env
  | .p (.tuple xs), .p (.list ys) => .ok (catT (xs.zip ys)) env
  | .p (.list xs), .p (.tuple ys) => .ok (catT (xs.zip ys)) env
  | _, _ => .st
def enuD (d : D) (env : Env) : R (List P) := match d with
  | .p (.list xs) => .ok (catT ((rangeP 0 xs.length).zip xs)) env
  | .p (.tuple xs) => .ok (catT ((rangeP 0 xs.length).zip xs)) env
  | _ => .st
def lrgD (d : D) (env : Env) : R D := match d with
  | .p (.int n) => if 0 ≤ n ∧ n ≤ 16777216 then .ok (.ml (rangeP 0 n.toNat)) env else .st
  | _ => .st
def den (C : Calls) : E → Den
  | .k x => dflt (.k x) fun env => .ok (.p x) env
  | .g n x => dflt (.g n x) fun env => .ok (.p x) env
  | .v i => dflt (.v i) (evV i)
  | .mv i => dflt (.mv i) (evMv i)
  | .mvi i k => dflt (.mvi i k) (evMvi i k)
  | .dix kvs i => dflt (.dix kvs i) fun env => ((den C i).v env).bind fun d env => R.of (dixD kvs d) env
  | .lns e => dflt (.lns e) fun env => ((den C e).v env).bind fun d env => R.of (lnsD d) env
  | .fz i => dflt (.fz i) (evFz i)
  | .bw i => dflt (.bw i) fun _ => .st
  | .rw i => dflt (.rw i) fun _ => .st
  | .fr e => dflt (.fr e) fun env => ((den C e).v env).bind frzD
  | .tup es => dflt (.tup es) fun env => ((den C es).s env).bind fun xs env => .ok (.p (.tuple xs)) env
  | .lst es => dflt (.lst es) fun env => ((den C es).s env).bind fun xs env => .ok (.ml xs) env
  | .lsn es => dflt (.lsn es) fun env => ((den C es).n env).bind fun xs env => .ok (.ne xs) env
  | .nil => { v := fun _ => .st, t := fun _ => .st, s := fun env => .ok [] env, n := fun env => .ok [] env, a := fun env => .ok [] env, o := fun _ => .st, i := fun _ => .st }
  | .cons e es =>
    { v := fun _ => .st, t := fun _ => .st, o := fun _ => .st, i := fun _ => .st
      s := fun env => (asP ((den C e).v env)).bind fun x env => ((den C es).s env).bind fun xs env => .ok (x :: xs) env
      n := fun env => ((den C e).v env).bind fun d env => (R.of d.d1 env).bind fun x env => ((den C es).n env).bind fun xs env => .ok (x :: xs) env
      a := fun env => (argA e (den C e).v env).bind fun x env => ((den C es).a env).bind fun xs env => .ok (x :: xs) env }
  | .no => { dflt .no (fun _ => .st) with o := fun env => .ok none env }
  | .bin o a b => dflt (.bin o a b) fun env => (orB a (den C a).v env).bind fun d1 env => (orB b (den C b).v env).bind fun d2 env => R.of (if okQ d1 b = true then op2 o d1 d2 else none) env
  | .neg a => dflt (.neg a) fun env => ((den C a).v env).bind fun d env => R.of (negD d) env
  | .cmp o a b => dflt (.cmp o a b) fun env => (orB a (den C a).v env).bind fun d1 env => (orB b (den C b).v env).bind fun d2 env => boolD (if okQ d1 b = true then opC o d1 d2 else none) env
  | .chn o o' a b c => dflt (.chn o o' a b c) fun env => (asP ((den C a).v env)).bind fun x env => (asP ((den C b).v env)).bind fun y env => (R.of (opC o (.p x) (.p y)) env).bind fun k env =>
      if k = true then (asP ((den C c).v env)).bind fun z env => boolD (opC o' (.p y) (.p z)) env else .ok (.p (.bool false)) env
  | .an a b =>
    { dflt (.an a b) (fun env => ((den C a).v env).bind fun d env => (R.of (boolOf d) env).bind fun k env => if k = true then (den C b).v env else .ok (.p (.bool false)) env) with
      t := fun env => ((den C a).t env).bind fun k env => if k = true then (den C b).t env else .ok false env }
  | .orr a b =>
    { dflt (.orr a b) (fun env => ((den C a).v env).bind fun d env => (R.of (boolOf d) env).bind fun k env => if k = true then .ok (.p (.bool true)) env else (den C b).v env) with
      t := fun env => ((den C a).t env).bind fun k env => if k = true then .ok true env else (den C b).t env }
  | .nt a =>
    { dflt (.nt a) (fun env => ((den C a).v env).bind fun d env => (R.of (boolOf d) env).bind fun k env => .ok (.p (.bool (!k))) env) with
      t := fun env => ((den C a).t env).bind fun k env => .ok (!k) env }
  | .ife c a b => { dflt (.ife c a b) (fun env => ((den C c).t env).bind fun k env => if k = true then (den C a).v env else (den C b).v env) with t := fun _ => .st }
  | .ix a i => dflt (.ix a i) fun env => (orB a (den C a).v env).bind fun d1 env => ((den C i).v env).bind fun d2 env => R.of (ixD d1 d2 i) env
  | .sl a lo hi => dflt (.sl a lo hi) fun env => (orB a (den C a).v env).bind fun d1 env => ((den C lo).o env).bind fun l env => ((den C hi).o env).bind fun h env =>
      R.of (if okQ d1 lo = true ∧ okQ d1 hi = true then opSl d1 l h else none) env
  | .call f es => dflt (.call f es) fun env => ((den C es).a env).bind fun as env => doCall C f as env
  | .b1 f e => dflt (.b1 f e) fun env => (orB e (den C e).v env).bind fun d env => R.of (opB1 f d) env
  | .mx2 a b => dflt (.mx2 a b) fun env => (asP ((den C a).v env)).bind fun x env => (asP ((den C b).v env)).bind fun y env => R.of (mx (.p x) (.p y)) env
  | .mx3 a b c => dflt (.mx3 a b c) fun env => (asP ((den C a).v env)).bind fun x env => (asP ((den C b).v env)).bind fun y env => (asP ((den C c).v env)).bind fun z env =>
      R.of ((mx (.p x) (.p y)).bind fun u => mx u (.p z)) env
  | .isi e ts one => dflt (.isi e ts one) fun env => match isVar e with
    | some i => isiS ts (gt env i) env
    | none => (orB e (den C e).v env).bind (isiD ts)
  | .m0 m o => dflt (.m0 m o) fun env => match m with
    | .strip => ((den C o).v env).bind fun d env => R.of (read0 .strip d) env
    | m => modR o env (mut0 m)
  | .m1 m o a => dflt (.m1 m o a) fun env => match m with
    | .append => if lsAt o env = true then ((den C a).v env).bind fun x env => modR o env (mut1 .append x) else .st
    | .extend => if lsAt o env = true then (orB a (den C a).v env).bind fun x env => modR o env (mut1 .extend x) else .st
    | .popAt => if lsAt o env = true then ((den C a).v env).bind fun x env => modR o env (mut1 .popAt x) else .st
    | m => ((den C o).v env).bind fun d1 env => if rdOk m d1 = true then (orB a (den C a).v env).bind fun d2 env => R.of (read1 m d1 d2) env else .st
  | .dgt o a b => dflt (.dgt o a b) fun env => (orB o (den C o).v env).bind fun d env => if isDN d = true then (asP ((den C a).v env)).bind fun x env => (asP ((den C b).v env)).bind fun y env =>
      R.of (if quiet a = true ∧ quiet b = true then opGet d x y else none) env else .st
  | .lc elt i it c => dflt (.lc elt i it c) fun env => ((den C it).i env).bind fun xs env1 =>
      if lcG i env1 = true then (if noC c = true then lcLoop (lcF i (den C elt).v) xs [] (env1.set i .no)
       else lcIf (fun x env => (den C c).t (env.set i (.ow (.p x)))) (lcE i (den C elt).v) i xs [] (env1.set i .no)).bind fun ys env2 => .ok (.ml ys) (env2.set i (gt env1 i)) else .st
  | .lc2 elt i j it c => dflt (.lc2 elt i j it c) fun env => ((den C it).i env).bind fun xs env1 =>
      if lcG i env1 = true ∧ lcG j env1 = true ∧ i ≠ j ∧ noC c = true then (lcLoop (lcF2 i j (den C elt).v) xs [] ((env1.set i .no).set j .no)).bind fun ys env2 => .ok (.ml ys) ((env2.set i (gt env1 i)).set j (gt env1 j)) else .st
  | .dc t => dflt (.dc t) fun env => .ok (.dc t []) env
  | .dsp es => dflt (.dsp es) fun env => ((den C es).s env).bind fun xs env => (R.of (pairUp xs) env).bind fun kvs env => .ok (.dc false kvs) env
  | .fld o f => dflt (.fld o f) fun env => (match brw (.fld o f) env with
    | some d => R.of (pOnly d) env
    | none => ((den C o).v env).bind fun d env => R.of (fldD f d) env)
  | .mk es => dflt (.mk es) fun env => ((den C es).a env).bind fun as env => doMake C as env
  | .mth m o es => dflt (.mth m o es) fun env => match recvA o with
    | some r => if recS r env = true then ((den C es).a env).bind fun as env => doMeth C m (r :: as) env else .st
    | none => .st
  | .lrg e => dflt (.lrg e) fun env => ((den C e).v env).bind lrgD
  | .rg1 e => { dflt (.rg1 e) (fun _ => .st) with i := fun env => ((den C e).v env).bind rg1D }
  | .rg2 a b => { dflt (.rg2 a b) (fun _ => .st) with i := fun env => ((den C a).v env).bind fun d env => ((den C b).v env).bind fun d2 env => if isP d = true then rg2D d d2 env else .st }
  | .rev e => { dflt (.rev e) (fun _ => .st) with i := fun env => ((den C e).v env).bind revD }
  | .zip a b => { dflt (.zip a b) (fun _ => .st) with i := fun env => ((den C a).v env).bind fun d env => ((den C b).v env).bind fun d2 env => if isP d = true then zipD d d2 env else .st }
  | .enu e => { dflt (.enu e) (fun _ => .st) with i := fun env => ((den C e).v env).bind enuD }
def ev (C : Calls) (e : E) (env : Env) : R D := (den C e).v env
def evT (C : Calls) (e : E) (env : Env) : R Bool := (den C e).t env
def evI (C : Calls) (e : E) (env : Env) : R (List P) := (den C e).i env
def evB (C : Calls) (e : E) (env : Env) : R D := orB e (den C e).v env

/-! ### statements -/
def RS.then (r : RS) (f : Env → RS) : RS := match r with
  | .nx e => f e
  | r => r
@[simp] theorem RS.then_nx (e : Env) (f : Env → RS) : (RS.nx e).then f = f e := by
  have h : ∀ r : RS, r = .nx e → r.then f = f e := by rintro _ rfl; rfl
  exact h _ rfl
@[simp] theorem RS.then_rt (d : D) (e : Env) (f : Env → RS) : (RS.rt d e).then f = .rt d e := rfl
@[simp] theorem RS.then_ex (c : String) (e : Env) (f : Env → RS) : (RS.ex c e).then f = .ex c e := rfl
@[simp] theorem RS.then_st (f : Env → RS) : (RS.st).then f = .st := rfl
def R.go {α : Type} (r : R α) (f : α → Env → RS) : RS := match r with
  | .ok a e => f a e
  | .ex c e => .ex c e
  | .st => .st
@[simp] theorem R.go_ok {α : Type} (a : α) (e : Env) (f : α → Env → RS) : (R.ok a e).go f = f a e := by
  have h : ∀ r : R α, r = .ok a e → r.go f = f a e := by rintro _ rfl; rfl
  exact h _ rfl
@[simp] theorem R.go_ex {α : Type} (c : String) (e : Env) (f : α → Env → RS) : (R.ex c e : R α).go f = .ex c e := rfl
@[simp] theorem R.go_st {α : Type} (f : α → Env → RS) : (R.st : R α).go f = .st := rfl
def forL (f : P → Env → RS) : List P → Env → RS
  | [], env => .nx env
  | x :: xs, env => (f x env).then fun env => forL f xs env
def whL (c : Env → R Bool) (b : Env → RS) : Nat → Env → RS
  | 0, _ => .st
  | n + 1, env => (c env).go fun k env => if k = true then (b env).then fun env => whL c b n env else .nx env
/-- a slot that is not lent is bound anew -/
def bindS (env : Env) (i : Nat) (d : D) : Option Env := match gt env i with
  | .bo _ => none
  | .ro _ => none
  | .xc _ => none
  | _ => if i < env.length then some (env.set i (.ow d)) else none
def bindR (env : Env) (i : Nat) (d : D) : RS := match bindS env i d with
  | some e => .nx e
  | none => .st
def modS (o : E) (env : Env) (f : D → Option (D × D)) : RS := match modP o env f with
  | some r => .nx r.2
  | none => .st
def setFd (f : Fld) (x : D1) (d : D) : Option (D × D) := match d with
  | .ins fs => if fs.length < 100 then some (nonD, .ins (putFl f x fs)) else none
  | _ => none
def noXc (env : Env) : Bool := env.all fun s => match s with
  | .xc _ => false
  | _ => true
def xGate (s : Sl) : Bool := match s with
  | .no => true
  | .ow _ => true
  | _ => false
/-- behind an except suite -/
def xEnd (i : Nat) (r : RS) : RS := match r with
  | .nx e => if noXc (e.set i .no) = true ∧ i < e.length then .nx (e.set i .no) else .st
  | _ => .st
def xEndO (r : RS) : RS := match r with
  | .nx e => if noXc e = true then .nx e else .st
  | _ => .st
/-- an except suite at the exception c', its name in the slot i -/
def xRun (i : Nat) (c' : String) (f : Env → RS) (env : Env) : RS := if xGate (gt env i) = true ∧ i < env.length then xEnd i (f (env.set i (.xc c'))) else .st
/-- in an except suite nothing is called -/
def noCalls : Calls := ⟨fun _ _ => .st, 0⟩
def exec : Calls → S → Env → RS
  | _, .skip, env => .nx env
  | _, .pass, env => .nx env
  | _, .dead, _ => .st
  | C, .seq a b, env => (exec C a env).then fun env => exec C b env
  | C, .gh i, env => (match gt env i with
    | .ow d => (match frz d with
      | some x => .nx (env.set i (.ow (.p x)))
      | none => .st)
    | _ => .st)
  | C, .set i e, env => (ev C e env).go fun d env => bindR env i d
  | C, .setC i elt j it c, env => (ev C (.lc elt j it c) env).go fun d env => bindR env i d
  | C, .setI o k e, env => (asP (ev C e env)).go fun x env => if quiet k = true ∧ (brw o env).isSome = true then (asP (ev C k env)).go fun y env => modS o env (setAt y x) else .st
  | C, .setF i f e, env => (ev C e env).go fun d env => (R.of d.d1 env).go fun x env => modS (.v i) env (setFd f x)
  | C, .ex e, env => (ev C e env).go fun _ env => .nx env
  | C, .ret e, env => (ev C e env).go fun d env => .rt d env
  | C, .retN, env => .rt nonD env
  | C, .ite c a b, env => (evT C c env).go fun k env => if k = true then exec C a env else exec C b env
  | C, .for1 i it b, env => (evI C it env).go fun xs env => forL (fun x env => (bindR env i (.p x)).then fun env => exec C b env) xs env
  | C, .for2 i j it b, env => (evI C it env).go fun xs env => forL (fun x env => (R.of (tup2 x) env).go fun u env => (bindR env i (.p u.1)).then fun env => (bindR env j (.p u.2)).then fun env => exec C b env) xs env
  | C, .whl c b, env => whL (evT C c) (exec C b) C.wf env
  | C, .rai c _, env => .ex c env
  | C, .tryE b xs c i h, env => (match exec C b env with
    | .ex c' env' => if c' ∈ xs then (if isXc c' (.xc c) = true then
        (if xGate (gt env' i) = true ∧ i < env'.length then xEnd i (exec noCalls h (env'.set i (.xc c'))) else .st) else .ex c' env') else .st
    | r => r)
  | C, .tryO b xs c h, env => (match exec C b env with
    | .ex c' env' => if c' ∈ xs then (if isXc c' (.xc c) = true then xEndO (exec noCalls h env') else .ex c' env') else .st
    | r => r)
  | C, .try3 b xs i c1 c2 c3 h1 h2 h3, env => (match exec C b env with
    | .ex c' env' => if c' ∈ xs then (if isXc c' (.xc c1) = true then xRun i c' (exec noCalls h1) env'
        else if isXc c' (.xc c2) = true then xRun i c' (exec noCalls h2) env'
        else if isXc c' (.xc c3) = true then xRun i c' (exec noCalls h3) env' else .ex c' env') else .st
    | r => r)
/-! ### defs -/
/-- a def: how many parameters, how many slots, its body; a method of the class's __init__ begins with a new instance -/
structure FD where
  np : Nat
  nn : Nat
  body : S
abbrev Tbl := String → Option FD
def outOf (np : Nat) (r : RS) : CR := match r with
  | .nx env => .ok nonD (env.take np)
  | .rt d env => .ok d (env.take np)
  | .ex c _ => .ex c
  | .st => .st
/-- while loops go at most this far -/
def wfuel : Nat := 1000000000
/-- the def f at the level n -/
def run (Γ : Tbl) : Nat → String → Env → CR
  | 0, _, _ => .st
  | n + 1, f, as => match Γ f with
    | some fd => if as.length = fd.np then outOf fd.np (exec ⟨run Γ n, wfuel⟩ fd.body (as ++ List.replicate (fd.nn - fd.np) .no)) else .st
    | none => .st
end DL

/-! DL1: what stands for a plain value in the heap. -/
namespace DL
open PySem PySem.Spec PyProof.Rows L2

/-- a list, a tuple that never changes: locked -/
def SqF (H : Hp) (a : Addr) (xs : List V) : Prop := ∃ o, H a = some (.frz o (.lst xs))
def TuF (H : Hp) (a : Addr) (xs : List V) : Prop := ∃ o, H a = some (.frz o (.tup xs)) ∧ o.dict = none
theorem SqF.sq {K : PySem.W.Frag} {H : Hp} {a : Addr} {xs : List V} (h : SqF H a xs) : SqL K H a xs := .inl (.inr h)
theorem TuF.sq {K : PySem.W.Frag} {H : Hp} {a : Addr} {xs : List V} (h : TuF H a xs) : SqT K H a xs := by
  obtain ⟨o, h, _⟩ := h
  exact .inl (.inr ⟨o, h⟩)
section
variable (K : PySem.W.Frag) (H : Hp)
mutual
def RP : P → V → Prop
  | .none, v => v = .non
  | .bool b, v => v = .bl b
  | .int i, v => v = .int i
  | .str x, v => v = .str x
  | .list ds, v => ∃ a vs, v = .ref a ∧ SqF H a vs ∧ RPs ds vs
  | .tuple ds, v => ∃ a vs, v = .ref a ∧ TuF H a vs ∧ RPs ds vs
  | .dict kvs, v => ∃ a kw, v = .ref a ∧ (∃ o, H a = some (.frz o (.dK kw))) ∧ RPd kvs kw
def RPs : List P → List V → Prop
  | [], vs => vs = []
  | d :: ds, vs => ∃ v r, vs = v :: r ∧ RP d v ∧ RPs ds r
def RPd : List (P × P) → List (Key × V) → Prop
  | [], kw => kw = []
  | (k, d) :: r, kw => ∃ key v rest, kw = (key, v) :: rest ∧ keyP k = some key ∧ RP d v ∧ RPd r rest
end
end

/-- tuples and locked things stay -/
structure Imm (H H' : Hp) : Prop where
  t : ∀ b xs, H b = some (.tup xs) → H' b = some (.tup xs)
  f : ∀ b o u, H b = some (.frz o u) → H' b = some (.frz o u)
section
variable {K : PySem.W.Frag} {H H' : Hp}
theorem Imm.sqT (i : Imm H H') {a : Addr} {xs : List V} (h : TuF H a xs) : TuF H' a xs := by
  obtain ⟨o, h, e⟩ := h
  exact ⟨o, i.f _ _ _ h, e⟩
theorem Imm.sqF (i : Imm H H') {a : Addr} {xs : List V} (h : SqF H a xs) : SqF H' a xs := by
  obtain ⟨o, h⟩ := h
  exact ⟨o, i.f _ _ _ h⟩
theorem Imm.rl (i : Imm H H') {a : Addr} {xs : List V} (h : SqF H a xs ∨ ∃ (o : Obj) (its : Array Value) (n : Nat), K.lookup a = some o ∧ o.cls = .type "list" ∧ o.dict = none ∧ o.data = .seq its n ∧ its.size ≤ sizeLine ∧ Vals xs its.toList) :
    SqF H' a xs ∨ ∃ (o : Obj) (its : Array Value) (n : Nat), K.lookup a = some o ∧ o.cls = .type "list" ∧ o.dict = none ∧ o.data = .seq its n ∧ its.size ≤ sizeLine ∧ Vals xs its.toList := h.elim (fun q => .inl (i.sqF q)) .inr
mutual
theorem RP.mono (i : Imm H H') : ∀ (d : P) (v : V), RP H d v → RP H' d v
  | .none, _, h => h
  | .bool _, _, h => h
  | .int _, _, h => h
  | .str _, _, h => h
  | .list ds, v, h => by
    rw [RP] at h ⊢
    obtain ⟨a, vs, e, q, r⟩ := h
    exact ⟨a, vs, e, i.sqF q, RPs.mono i ds vs r⟩
  | .tuple ds, v, h => by
    rw [RP] at h ⊢
    obtain ⟨a, vs, e, q, r⟩ := h
    exact ⟨a, vs, e, i.sqT q, RPs.mono i ds vs r⟩
  | .dict kvs, v, h => by
    rw [RP] at h ⊢
    obtain ⟨a, kw, e, ⟨o, q⟩, r⟩ := h
    exact ⟨a, kw, e, ⟨o, i.f _ _ _ q⟩, RPd.mono i kvs kw r⟩
theorem RPs.mono (i : Imm H H') : ∀ (ds : List P) (vs : List V), RPs H ds vs → RPs H' ds vs
  | [], _, h => h
  | d :: ds, vs, h => by
    rw [RPs] at h ⊢
    obtain ⟨v, r, e, q, z⟩ := h
    exact ⟨v, r, e, RP.mono i d v q, RPs.mono i ds r z⟩
theorem RPd.mono (i : Imm H H') : ∀ (ds : List (P × P)) (vs : List (Key × V)), RPd H ds vs → RPd H' ds vs
  | [], _, h => h
  | (k, d) :: ds, vs, h => by
    rw [RPd] at h ⊢
    obtain ⟨key, v, r, e, ek, q, z⟩ := h
    exact ⟨key, v, r, e, ek, RP.mono i d v q, RPd.mono i ds r z⟩
end
theorem RPs.nil_iff {vs : List V} : RPs H [] vs ↔ vs = [] := by rw [RPs]
theorem RPs.cons {d : P} {ds : List P} {v : V} {vs : List V} (h : RP H d v) (r : RPs H ds vs) : RPs H (d :: ds) (v :: vs) := by
  rw [RPs]; exact ⟨v, vs, rfl, h, r⟩
theorem RPs.length : ∀ {ds : List P} {vs : List V}, RPs H ds vs → vs.length = ds.length
  | [], _, h => by rw [RPs] at h; subst h; rfl
  | d :: ds, _, h => by
    rw [RPs] at h
    obtain ⟨v, r, rfl, _, z⟩ := h
    rw [List.length_cons, List.length_cons, RPs.length z]
theorem RPs.get : ∀ {ds : List P} {vs : List V} {i : Nat} {d : P}, RPs H ds vs → ds[i]? = some d → ∃ v, vs[i]? = some v ∧ RP H d v
  | [], _, _, _, h, e => by simp at e
  | d :: ds, _, 0, _, h, e => by
    rw [RPs] at h
    obtain ⟨v, r, rfl, q, _⟩ := h
    simp at e; subst e
    exact ⟨v, rfl, q⟩
  | d :: ds, _, i + 1, _, h, e => by
    rw [RPs] at h
    obtain ⟨v, r, rfl, _, z⟩ := h
    obtain ⟨u, h1, h2⟩ := RPs.get (i := i) z (by simpa using e)
    exact ⟨u, by simpa using h1, h2⟩
theorem RPs.get' {ds : List P} {vs : List V} {i : Nat} {v : V} (h : RPs H ds vs) (e : vs[i]? = some v) : ∃ d, ds[i]? = some d ∧ RP H d v := by
  have hl := h.length
  have hi : i < ds.length := by rw [← hl]; exact (List.getElem?_eq_some_iff.mp e).1
  obtain ⟨u, h1, h2⟩ := h.get (i := i) (d := ds[i]) (by simp [hi])
  rw [e] at h1; cases h1
  exact ⟨_, by simp [hi], h2⟩
theorem RPs.append : ∀ {ds es : List P} {vs ws : List V}, RPs H ds vs → RPs H es ws → RPs H (ds ++ es) (vs ++ ws)
  | [], _, _, _, h, r => by rw [RPs] at h; subst h; exact r
  | d :: ds, _, _, _, h, r => by
    rw [RPs] at h
    obtain ⟨v, t, rfl, q, z⟩ := h
    exact .cons q (RPs.append z r)
theorem RPs.take : ∀ {ds : List P} {vs : List V} (n : Nat), RPs H ds vs → RPs H (ds.take n) (vs.take n)
  | _, _, 0, _ => by simp [RPs]
  | [], _, _ + 1, h => by rw [RPs] at h; subst h; simp [RPs]
  | d :: ds, _, n + 1, h => by
    rw [RPs] at h
    obtain ⟨v, t, rfl, q, z⟩ := h
    exact .cons q (RPs.take n z)
theorem RPs.drop : ∀ {ds : List P} {vs : List V} (n : Nat), RPs H ds vs → RPs H (ds.drop n) (vs.drop n)
  | _, _, 0, h => h
  | [], _, _ + 1, h => by rw [RPs] at h; subst h; simp [RPs]
  | d :: ds, _, n + 1, h => by
    rw [RPs] at h
    obtain ⟨v, t, rfl, q, z⟩ := h
    exact RPs.drop n z
theorem RPs.set : ∀ {ds : List P} {vs : List V} (n : Nat) {d : P} {v : V}, RPs H ds vs → RP H d v → RPs H (ds.set n d) (vs.set n v)
  | [], _, _, _, _, h, _ => by rw [RPs] at h; subst h; simp [RPs]
  | d :: ds, _, 0, _, _, h, q => by
    rw [RPs] at h
    obtain ⟨v, t, rfl, _, z⟩ := h
    exact .cons q z
  | d :: ds, _, n + 1, _, _, h, q => by
    rw [RPs] at h
    obtain ⟨v, t, rfl, q0, z⟩ := h
    exact .cons q0 (RPs.set n z q)
theorem RPs.erase : ∀ {ds : List P} {vs : List V} (n : Nat), RPs H ds vs → RPs H (ds.eraseIdx n) (vs.eraseIdx n)
  | [], _, _, h => by rw [RPs] at h; subst h; simp [RPs]
  | d :: ds, _, 0, h => by
    rw [RPs] at h
    obtain ⟨v, t, rfl, _, z⟩ := h
    exact z
  | d :: ds, _, n + 1, h => by
    rw [RPs] at h
    obtain ⟨v, t, rfl, q0, z⟩ := h
    exact .cons q0 (RPs.erase n z)
theorem RPs.snoc {ds : List P} {vs : List V} {d : P} {v : V} (h : RPs H ds vs) (q : RP H d v) : RPs H (ds ++ [d]) (vs ++ [v]) := h.append (.cons q (by rw [RPs]))
theorem RPs.reverse : ∀ {ds : List P} {vs : List V}, RPs H ds vs → RPs H ds.reverse vs.reverse
  | [], _, h => by rw [RPs] at h; subst h; simp [RPs]
  | d :: ds, _, h => by
    rw [RPs] at h
    obtain ⟨v, t, rfl, q, z⟩ := h
    rw [List.reverse_cons, List.reverse_cons]
    exact (RPs.reverse z).snoc q
theorem RPs.dropLast : ∀ {ds : List P} {vs : List V}, RPs H ds vs → RPs H ds.dropLast vs.dropLast := fun {ds vs} h => by
  rw [List.dropLast_eq_take, List.dropLast_eq_take, h.length]
  exact h.take _
theorem RPs.cut {ds : List P} {vs : List V} (h : RPs H ds vs) (lo hi : Option Int) : RPs H (cutL ds lo hi) (cutV vs lo hi) := by
  unfold cutL cutV
  rw [h.length]
  exact (h.drop _).take _
theorem RPs.none_of {ds : List P} {vs : List V} {i : Nat} (h : RPs H ds vs) (e : ds[i]? = none) : vs[i]? = none := by
  have := h.length
  rw [List.getElem?_eq_none_iff] at e ⊢
  omega
theorem RPs.atI {ds : List P} {vs : List V} {i : Int} {d : P} (h : RPs H ds vs) (e : L2.atI ds i = some d) : ∃ v, L2.atI vs i = some v ∧ RP H d v := by
  unfold L2.atI at e ⊢
  rw [h.length]
  cases q : ixN ds.length i with
  | none => rw [q] at e; simp at e
  | some j =>
    rw [q] at e
    exact h.get (by simpa using e)

/-! ### owned values -/
end
section
/-- the one class, the world -/
structure CW where
  a : Addr
  w : World
variable (K : PySem.W.Frag) (Cl : CW) (H : Hp)
/-- keys that are tuples: where they stand, what they hold -/
def RN : List (P × P) → List (NestedKey × Addr × V) → Prop
  | [], xs => xs = []
  | (k, d) :: r, xs => ∃ nk b v rest, xs = (nk, b, v) :: rest ∧ keyT k = some nk ∧ RP H k (.ref b) ∧ RP H d v ∧ RN r rest
def RelN : List (NestedKey × Addr × V) → List (NestedKey × Addr × Value) → Prop := Paired fun p q => p.1 = q.1 ∧ p.2.1 = q.2.1 ∧ RelV p.2.2 q.2.2
def rawN (w : World) (a : Addr) (xs : List (NestedKey × Addr × V)) : Heap → Prop := fun h => xs.length ≤ sizeLine ∧ (a == sysModules) = false ∧ ∃ us : List (NestedKey × Addr × Value), RelN xs us ∧
  ∃ o es ep, h.get? a = some o ∧ o.ExactDict ∧ o.data = .dict es ep ∧ es.toList = us.map (fun x => (⟨x.1.hash w, .ref x.2.1, x.2.2⟩ : DictEntry)) ∧ (us.map (·.1)).Nodup
def RD1 : D1 → V → List Addr → Prop
  | .p x, v, fp => RP H x v ∧ fp = []
  | .ml xs, v, fp => ∃ a vs, v = .ref a ∧ H a = some (.lst vs) ∧ RPs H xs vs ∧ fp = [a]
def RD1s : List D1 → List V → List Addr → Prop
  | [], vs, fp => vs = [] ∧ fp = []
  | d :: ds, vs, fp => ∃ v r f1 f2, vs = v :: r ∧ RD1 H d v f1 ∧ RD1s ds r f2 ∧ fp = f1 ++ f2
def RFs : List (Fld × D1) → List (Str × V) → List Addr → Prop
  | [], vs, fp => vs = [] ∧ fp = []
  | (n, d) :: ds, vs, fp => ∃ v r f1 f2, vs = (n.name, v) :: r ∧ RD1 H d v f1 ∧ RFs ds r f2 ∧ fp = f1 ++ f2
def RD : D → V → List Addr → Prop
  | .p x, v, fp => RP H x v ∧ fp = []
  | .ml xs, v, fp => ∃ a vs, v = .ref a ∧ H a = some (.lst vs) ∧ RPs H xs vs ∧ fp = [a]
  | .dc false kvs, v, fp => ∃ a kw, v = .ref a ∧ H a = some (.dK kw) ∧ RPd H kvs kw ∧ fp = [a]
  | .dc true kvs, v, fp => ∃ a xs, v = .ref a ∧ H a = some (.ext (rawN Cl.w a xs)) ∧ RN H kvs xs ∧ fp = [a]
  | .ne ds, v, fp => ∃ a vs f, v = .ref a ∧ H a = some (.lst vs) ∧ RD1s H ds vs f ∧ fp = a :: f
  | .ins fs, v, fp => ∃ a dx fs' f, v = .ref a ∧ H a = some (.ins Cl.a dx fs') ∧ RFs H fs fs' f ∧ fp = a :: f
  | .rl ds, v, fp => ∃ a vs, v = .ref a ∧ (SqF H a vs ∨ ∃ (o : Obj) (its : Array Value) (n : Nat), K.lookup a = some o ∧ o.cls = .type "list" ∧ o.dict = none ∧ o.data = .seq its n ∧ its.size ≤ sizeLine ∧ Vals vs its.toList) ∧ RPs H ds vs ∧ fp = []
end
section
variable {K : PySem.W.Frag} {Cl : CW} {H H' : Hp}
theorem RN.mono (i : Imm H H') : ∀ {kvs : List (P × P)} {xs : List (NestedKey × Addr × V)}, RN H kvs xs → RN H' kvs xs
  | [], _, h => h
  | (k, d) :: r, _, h => by
    obtain ⟨nk, b, v, rest, e, q, z1, z2, z3⟩ := h
    exact ⟨nk, b, v, rest, e, q, z1.mono i _ _, z2.mono i _ _, RN.mono i z3⟩
/-- what of the heap is leant on by fp and by data -/
structure Keep (fp : List Addr) (H H' : Hp) : Prop where
  imm : Imm H H'
  on : ∀ a ∈ fp, ∀ o, H a = some o → H' a = some o
theorem Keep.mono {f g : List Addr} (k : Keep f H H') (h : ∀ a ∈ g, a ∈ f) : Keep g H H' := ⟨k.imm, fun a ha => k.on a (h a ha)⟩
theorem RD1.keep {d : D1} {v : V} {fp : List Addr} (h : RD1 H d v fp) (k : Keep fp H H') : RD1 H' d v fp := by
  cases d with
  | p x => exact ⟨h.1.mono k.imm _ _, h.2⟩
  | ml xs =>
    obtain ⟨a, vs, e, q, r, rfl⟩ := h
    exact ⟨a, vs, e, k.on a (by simp) _ q, r.mono k.imm _ _, rfl⟩
theorem RD1s.keep : ∀ {ds : List D1} {vs : List V} {fp : List Addr}, RD1s H ds vs fp → Keep fp H H' → RD1s H' ds vs fp
  | [], _, _, h, _ => h
  | d :: ds, _, _, h, k => by
    obtain ⟨v, r, f1, f2, e, q, z, rfl⟩ := h
    exact ⟨v, r, f1, f2, e, q.keep (k.mono fun a ha => List.mem_append.mpr (.inl ha)), RD1s.keep z (k.mono fun a ha => List.mem_append.mpr (.inr ha)), rfl⟩
theorem RFs.keep : ∀ {ds : List (Fld × D1)} {vs : List (Str × V)} {fp : List Addr}, RFs H ds vs fp → Keep fp H H' → RFs H' ds vs fp
  | [], _, _, h, _ => h
  | (n, d) :: ds, _, _, h, k => by
    obtain ⟨v, r, f1, f2, e, q, z, rfl⟩ := h
    exact ⟨v, r, f1, f2, e, q.keep (k.mono fun a ha => List.mem_append.mpr (.inl ha)), RFs.keep z (k.mono fun a ha => List.mem_append.mpr (.inr ha)), rfl⟩
theorem RD.keep {d : D} {v : V} {fp : List Addr} (h : RD K Cl H d v fp) (k : Keep fp H H') : RD K Cl H' d v fp := by
  cases d with
  | p x => exact ⟨h.1.mono k.imm _ _, h.2⟩
  | ml xs =>
    obtain ⟨a, vs, e, q, r, rfl⟩ := h
    exact ⟨a, vs, e, k.on a (by simp) _ q, r.mono k.imm _ _, rfl⟩
  | dc t kvs =>
    cases t with
    | false =>
      obtain ⟨a, kw, e, q, r, rfl⟩ := h
      exact ⟨a, kw, e, k.on a (by simp) _ q, r.mono k.imm _ _, rfl⟩
    | true =>
      obtain ⟨a, xs, e, q, r, rfl⟩ := h
      exact ⟨a, xs, e, k.on a (by simp) _ q, r.mono k.imm, rfl⟩
  | ne ds =>
    obtain ⟨a, vs, f, e, q, r, rfl⟩ := h
    exact ⟨a, vs, f, e, k.on a (by simp) _ q, r.keep (k.mono fun b hb => List.mem_cons_of_mem _ hb), rfl⟩
  | ins fs =>
    obtain ⟨a, dx, fs', f, e, q, r, rfl⟩ := h
    exact ⟨a, dx, fs', f, e, k.on a (by simp) _ q, r.keep (k.mono fun b hb => List.mem_cons_of_mem _ hb), rfl⟩
  | rl ds =>
    obtain ⟨a, vs, e, q, r, rfl⟩ := h
    exact ⟨a, vs, e, k.imm.rl q, r.mono k.imm _ _, rfl⟩

/-- what is owned may be written -/
def Owned (H : Hp) (fp : List Addr) : Prop := ∀ a ∈ fp, Mut (H a)
theorem RD1.owned {d : D1} {v : V} {fp : List Addr} (h : RD1 H d v fp) : Owned H fp := by
  cases d with
  | p x => rw [h.2]; intro a ha; cases ha
  | ml xs =>
    obtain ⟨a, vs, e, q, r, rfl⟩ := h
    intro b hb
    rw [List.mem_singleton.mp hb, q]; trivial
theorem Owned.append {f g : List Addr} (a : Owned H f) (b : Owned H g) : Owned H (f ++ g) := fun x hx => (List.mem_append.mp hx).elim (a x) (b x)
theorem RD1s.owned : ∀ {ds : List D1} {vs : List V} {fp : List Addr}, RD1s H ds vs fp → Owned H fp
  | [], _, _, h => by rw [h.2]; intro a ha; cases ha
  | d :: ds, _, _, h => by
    obtain ⟨v, r, f1, f2, e, q, z, rfl⟩ := h
    exact q.owned.append (RD1s.owned z)
theorem RFs.owned : ∀ {ds : List (Fld × D1)} {vs : List (Str × V)} {fp : List Addr}, RFs H ds vs fp → Owned H fp
  | [], _, _, h => by rw [h.2]; intro a ha; cases ha
  | (n, d) :: ds, _, _, h => by
    obtain ⟨v, r, f1, f2, e, q, z, rfl⟩ := h
    exact q.owned.append (RFs.owned z)
theorem Owned.cons {a : Addr} {f : List Addr} (h : Mut (H a)) (b : Owned H f) : Owned H (a :: f) := fun x hx => (List.mem_cons.mp hx).elim (fun e => e ▸ h) (b x)
theorem RD.owned {d : D} {v : V} {fp : List Addr} (h : RD K Cl H d v fp) : Owned H fp := by
  cases d with
  | p x => rw [h.2]; intro a ha; cases ha
  | ml xs =>
    obtain ⟨a, vs, e, q, r, rfl⟩ := h
    exact Owned.cons (by rw [q]; trivial) (fun a ha => nomatch ha)
  | dc t kvs =>
    cases t with
    | false =>
      obtain ⟨a, kw, e, q, r, rfl⟩ := h
      exact Owned.cons (by rw [q]; trivial) (fun a ha => nomatch ha)
    | true =>
      obtain ⟨a, xs, e, q, r, rfl⟩ := h
      exact Owned.cons (by rw [q]; trivial) (fun a ha => nomatch ha)
  | ne ds =>
    obtain ⟨a, vs, f, e, q, r, rfl⟩ := h
    exact Owned.cons (by rw [q]; trivial) r.owned
  | ins fs =>
    obtain ⟨a, dx, fs', f, e, q, r, rfl⟩ := h
    exact Owned.cons (by rw [q]; trivial) r.owned
  | rl ds =>
    obtain ⟨a, vs, e, q, r, rfl⟩ := h
    intro a ha; cases ha

/-! ### a step -/
abbrev Fp := Addr → Prop
/-- what is not owned (F) stays; what is owned behind it was owned or is new -/
structure Stp (F : Fp) (H : Hp) (F' : Fp) (H' : Hp) : Prop where
  st : ∀ a o, H a = some o → ¬ F a → H' a = some o
  ow : ∀ a, F' a → F a ∨ H a = none
theorem Stp.refl {F : Fp} : Stp F H F H := ⟨fun _ _ h _ => h, fun _ h => .inl h⟩
theorem Stp.less {F F1 F2 : Fp} (s : Stp F H F1 H') (h : ∀ a, F2 a → F1 a) : Stp F H F2 H' := ⟨s.st, fun a ha => s.ow a (h a ha)⟩
theorem Stp.trans {F F1 F2 : Fp} {H1 H2 : Hp} (s : Stp F H F1 H1) (t : Stp F1 H1 F2 H2) : Stp F H F2 H2 := by
  have key : ∀ a, ¬ F a → ∀ o, H a = some o → H1 a = some o ∧ ¬ F1 a := fun a ha o h => ⟨s.st a o h ha, fun hm => by
    rcases s.ow a hm with q | q
    · exact ha q
    · rw [h] at q; cases q⟩
  refine ⟨fun a o h ha => t.st a o (key a ha o h).1 (key a ha o h).2, fun a ha => ?_⟩
  rcases t.ow a ha with q | q
  · exact s.ow a q
  · by_cases hf : F a
    · exact .inl hf
    · refine .inr ?_
      cases z : H a with
      | none => rfl
      | some o => rw [(key a hf o z).1] at q; cases q
def OwnedF (H : Hp) (F : Fp) : Prop := ∀ a, F a → Mut (H a)
theorem Stp.imm {F F' : Fp} (s : Stp F H F' H') (o : OwnedF H F) : Imm H H' :=
  ⟨fun b xs h => s.st b _ h fun hm => by have := o b hm; rw [h] at this; exact this, fun b ob u h => s.st b _ h fun hm => by have := o b hm; rw [h] at this; exact this⟩
/-- what stands apart from F is kept -/
theorem Stp.keep {F F' : Fp} {fp : List Addr} (s : Stp F H F' H') (o : OwnedF H F) (d : ∀ a ∈ fp, ¬ F a) : Keep fp H H' := ⟨s.imm o, fun a ha ob h => s.st a ob h (d a ha)⟩
/-- what was there and apart is apart behind it -/
theorem Stp.apart {F F' : Fp} (s : Stp F H F' H') {a : Addr} (h : H a ≠ none) (d : ¬ F a) : ¬ F' a := fun hm => (s.ow a hm).elim d h
theorem Stp.there {F F' : Fp} (s : Stp F H F' H') {a : Addr} (h : H a ≠ none) (d : ¬ F a) : H' a ≠ none := by
  cases q : H a with
  | none => exact absurd q h
  | some o => rw [s.st a o q d]; exact fun z => nomatch z
theorem same_imm {H H' : Hp} (s : L2.Same H H') : Imm H H' := ⟨fun _ _ h => s _ _ h, fun _ _ _ h => s _ _ h⟩
theorem same_keep {H H' : Hp} (s : L2.Same H H') (fp : List Addr) : Keep fp H H' := ⟨same_imm s, fun _ _ _ h => s _ _ h⟩
theorem same_stp {H H' : Hp} (s : L2.Same H H') {F : Fp} : Stp F H F H' := ⟨fun _ _ h _ => s _ _ h, fun _ h => .inl h⟩

/-! ### the slots -/
/-- what hangs on the def's entry: the slots that the caller lent (their values), what it lent to be read, the exception that is held -/
structure Gh where
  K : PySem.W.Frag
  Cl : CW
  pv : Nat → Option V
  Z : Addr → Prop
  xa : Option (Addr × String)
end
section
variable (G : Gh) (H : Hp)
def RS1 (pv : Option V) : Sl → Option V → List Addr → Prop
  | .no, _, fp => fp = []
  | .ow d, o, fp => ∃ v, o = some v ∧ RD G.K G.Cl H d v fp
  | .bo d, o, fp => ∃ v, o = some v ∧ pv = some v ∧ RD G.K G.Cl H d v fp
  | .ro d, o, fp => fp = [] ∧ ∃ v f, o = some v ∧ RD G.K G.Cl H d v f ∧ ∀ a ∈ f, G.Z a
  | .xc c, o, fp => fp = [] ∧ ∃ a, o = some (.ref a) ∧ G.xa = some (a, c)
end
abbrev In (fp : Nat → List Addr) : Fp := fun a => ∃ i, a ∈ fp i
/-- the slots σ over H stand for env; fp i is what the i-th owns -/
structure SE (G : Gh) (H : Hp) (σ : L2.St) (env : Env) (fp : Nat → List Addr) : Prop where
  len : σ.length = env.length
  sl : ∀ i, i < env.length → ∃ o, σ[i]? = some o ∧ RS1 G H (G.pv i) (gt env i) o (fp i)
  off : ∀ i, env.length ≤ i → fp i = []
  nd : ∀ i, (fp i).Nodup
  dj : ∀ i j a, a ∈ fp i → a ∈ fp j → i = j
  zz : ∀ a, G.Z a → ¬ In fp a ∧ H a ≠ none
section
variable {G : Gh} {H H' : Hp} {pv : Option V} {s : Sl} {o : Option V} {f : List Addr} {σ : L2.St} {env : Env} {fp : Nat → List Addr}
theorem RS1.keep (h : RS1 G H pv s o f) (k : Keep f H H') (kz : ∀ a, G.Z a → ∀ o, H a = some o → H' a = some o) : RS1 G H' pv s o f := by
  cases s with
  | no => exact h
  | ow d => obtain ⟨v, e, r⟩ := h; exact ⟨v, e, r.keep k⟩
  | bo d => obtain ⟨v, e, p, r⟩ := h; exact ⟨v, e, p, r.keep k⟩
  | ro d =>
    obtain ⟨e0, v, g, e, r, z⟩ := h
    exact ⟨e0, v, g, e, r.keep ⟨k.imm, fun a ha => kz a (z a ha)⟩, z⟩
  | xc c => exact h
theorem RS1.owned (h : RS1 G H pv s o f) : Owned H f := by
  cases s with
  | no => rw [show f = [] from h]; intro a ha; cases ha
  | ow d => obtain ⟨v, e, r⟩ := h; exact r.owned
  | bo d => obtain ⟨v, e, p, r⟩ := h; exact r.owned
  | ro d => rw [h.1]; intro a ha; cases ha
  | xc c => rw [h.1]; intro a ha; cases ha
theorem gt_lt : ∀ {env : Env} {i : Nat}, gt env i ≠ .no → i < env.length
  | [], _, h => absurd rfl h
  | _ :: _, 0, _ => by simp
  | _ :: env, i + 1, h => by simpa using gt_lt (env := env) (i := i) h
theorem gt_set : ∀ {env : Env} {i j : Nat} {s : Sl}, gt (env.set i s) j = if j = i ∧ i < env.length then s else gt env j
  | [], i, j, s => by simp [gt]
  | x :: env, 0, 0, s => by simp [gt]
  | x :: env, 0, j + 1, s => by simp [gt]
  | x :: env, i + 1, 0, s => by simp [gt]
  | x :: env, i + 1, j + 1, s => by
    rw [List.set_cons_succ]
    show gt (env.set i s) j = _
    rw [gt_set]
    by_cases h : j = i ∧ i < env.length
    · rw [if_pos h, if_pos (by simp only [List.length_cons]; omega)]
    · rw [if_neg h, if_neg (by simp only [List.length_cons]; omega)]
      rfl
theorem SE.owned (h : SE G H σ env fp) : OwnedF H (In fp) := fun a ⟨i, hi⟩ => by
  by_cases hl : i < env.length
  · obtain ⟨o, _, r⟩ := h.sl i hl
    exact r.owned a hi
  · rw [h.off i (by omega)] at hi; cases hi
theorem SE.keep (h : SE G H σ env fp) (im : Imm H H') (k : ∀ a, In fp a ∨ G.Z a → ∀ o, H a = some o → H' a = some o) : SE G H' σ env fp :=
  ⟨h.len, fun i hi => by
    obtain ⟨o, e, r⟩ := h.sl i hi
    exact ⟨o, e, r.keep ⟨im, fun a ha => k a (.inl ⟨i, ha⟩)⟩ fun a ha => k a (.inr ha)⟩, h.off, h.nd, h.dj, fun a ha => ⟨(h.zz a ha).1, by
      cases q : H a with
      | none => exact absurd q (h.zz a ha).2
      | some o => rw [k a (.inr ha) o q]; exact fun z => nomatch z⟩⟩
theorem SE.same (h : SE G H σ env fp) (k : L2.Same H H') : SE G H' σ env fp := h.keep (same_imm k) fun a _ o e => k a o e
/-- .. where things apart from what is owned have changed -/
theorem SE.away {F F' : Fp} (h : SE G H σ env fp) (s : Stp F H F' H') (ho : OwnedF H F) (d : ∀ a, F a → ¬ In fp a ∧ ¬ G.Z a) : SE G H' σ env fp :=
  h.keep (s.imm ho) fun a ha o e => s.st a o e fun hf => (d a hf).elim fun x y => ha.elim x y
/-- the slot i put anew -/
theorem SE.put (h : SE G H σ env fp) {i : Nat} {s : Sl} {o : Option V} {f : List Addr} (hi : i < env.length) (im : Imm H H') (k : ∀ a, (∃ j, j ≠ i ∧ a ∈ fp j) ∨ G.Z a → ∀ o, H a = some o → H' a = some o)
    (r : RS1 G H' (G.pv i) s o f) (nd : f.Nodup) (dj : ∀ a ∈ f, (∀ j, j ≠ i → a ∉ fp j) ∧ ¬ G.Z a) : SE G H' (σ.set i o) (env.set i s) (fun j => if j = i then f else fp j) := by
  refine ⟨by simp [h.len], fun j hj => ?_, fun j hj => ?_, fun j => ?_, fun j l a h1 h2 => ?_, fun a ha => ?_⟩
  · rw [List.length_set] at hj
    by_cases e : j = i
    · subst e
      refine ⟨o, by simp [h.len, hj], ?_⟩
      rw [gt_set, if_pos ⟨rfl, hj⟩]
      simpa using r
    · obtain ⟨o', e1, r'⟩ := h.sl j hj
      refine ⟨o', by rw [List.getElem?_set_ne (Ne.symm e)]; exact e1, ?_⟩
      rw [gt_set, if_neg (fun q => e q.1)]
      simp only [if_neg e]
      exact r'.keep ⟨im, fun a ha => k a (.inl ⟨j, e, ha⟩)⟩ fun a ha => k a (.inr ha)
  · rw [List.length_set] at hj
    have : j ≠ i := by omega
    simp only [if_neg this]
    exact h.off j hj
  · by_cases e : j = i
    · simp only [if_pos e]; exact nd
    · simp only [if_neg e]; exact h.nd j
  · by_cases e : j = i
    · simp only [if_pos e] at h1
      by_cases e2 : l = i
      · rw [e, e2]
      · simp only [if_neg e2] at h2
        exact absurd h2 ((dj a h1).1 l e2)
    · simp only [if_neg e] at h1
      by_cases e2 : l = i
      · simp only [if_pos e2] at h2
        exact absurd h1 ((dj a h2).1 j e)
      · simp only [if_neg e2] at h2
        exact h.dj j l a h1 h2
  · refine ⟨fun ⟨j, hj⟩ => ?_, ?_⟩
    · by_cases e : j = i
      · simp only [if_pos e] at hj
        exact (dj a hj).2 ha
      · simp only [if_neg e] at hj
        exact (h.zz a ha).1 ⟨j, hj⟩
    · cases q : H a with
      | none => exact absurd q (h.zz a ha).2
      | some o => rw [k a (.inr ha) o q]; exact fun z => nomatch z
/-- what a slot that is known holds -/
theorem SE.rd (h : SE G H σ env fp) {i : Nat} {d : D} (e : (gt env i).rd = some d) : ∃ v f, σ[i]? = some (some v) ∧ RD G.K G.Cl H d v f ∧ ∀ a ∈ f, In fp a ∨ G.Z a := by
  have hi : i < env.length := gt_lt fun q => by rw [q] at e; cases e
  obtain ⟨o, e1, r⟩ := h.sl i hi
  cases q : gt env i with
  | no => rw [q] at e; cases e
  | ow d' =>
    rw [q] at e r
    cases e
    obtain ⟨v, rfl, r⟩ := r
    exact ⟨v, _, e1, r, fun a ha => .inl ⟨i, ha⟩⟩
  | bo d' =>
    rw [q] at e r
    cases e
    obtain ⟨v, rfl, _, r⟩ := r
    exact ⟨v, _, e1, r, fun a ha => .inl ⟨i, ha⟩⟩
  | ro d' =>
    rw [q] at e r
    cases e
    obtain ⟨_, v, f, rfl, r, z⟩ := r
    exact ⟨v, f, e1, r, fun a ha => .inr (z a ha)⟩
  | xc c => rw [q] at e; cases e
end
end DL

/-! DL2: the operations, each shown over the heap. -/
namespace DL
open PySem PySem.Spec PyProof.Rows L2

theorem PE_imp {X : Cx} {e : Expr} {t t' : TE} (h : PE X e t) (i : ∀ σ H Q, t' σ H Q → t σ H Q) : PE X e t' := ⟨fun pins s σ H Q I q => h.run pins s σ H Q I (i _ _ _ q)⟩
theorem PT_imp {X : Cx} {e : Expr} {t t' : TT} (h : PT X e t) (i : ∀ σ H Q, t' σ H Q → t σ H Q) : PT X e t' := ⟨fun pins s σ H Q I q => h.run pins s σ H Q I (i _ _ _ q)⟩
theorem PA_imp {X : Cx} {e : List Expr} {t t' : TA} (h : PA X e t) (i : ∀ σ H Q, t' σ H Q → t σ H Q) : PA X e t' := ⟨fun pos pins s σ H Q I q => h.run pos pins s σ H Q I (i _ _ _ q)⟩
theorem PS_imp {X : Cx} {e : Stmt} {t t' : TS} (h : PS X e t) (i : ∀ D σ H, t' D σ H → t D σ H) : PS X e t' := ⟨fun pins s σ H D I q => h.run pins s σ H D I (i _ _ _ q)⟩
theorem PSs_imp {X : Cx} {e : List Stmt} {t t' : TS} (h : PSs X e t) (i : ∀ D σ H, t' D σ H → t D σ H) : PSs X e t' := ⟨fun pins s σ H D I q => h.run pins s σ H D I (i _ _ _ q)⟩

/-- a new thing or a datum has come: nothing that stood has changed -/
def Fresh (G : Gh) (d : D) (H : Hp) (Q : VK) : Prop := ∀ v H' fd, RD G.K G.Cl H' d v fd → fd.Nodup → (∀ a ∈ fd, H a = none) → L2.Same H H' → Q v H'
theorem same_upd {H : Hp} {p : Addr} {o : HO} (h : H p = none) : L2.Same H (upd H p o) := fun b u e => by rw [upd_ne (ne_of_none e h)]; exact e
section
variable {G : Gh} {H : Hp} {Q : VK}
theorem Fresh.p {x : P} {v : V} (h : Fresh G (.p x) H Q) (r : RP H x v) : Q v H := h v H [] ⟨r, rfl⟩ .nil (fun _ z => nomatch z) (L2.Same.refl H)
theorem Fresh.ml {xs : List P} {vs : List V} {p : Addr} (h : Fresh G (.ml xs) H Q) (n : H p = none) (r : RPs H xs vs) : Q (.ref p) (upd H p (.lst vs)) :=
  h _ _ [p] ⟨p, vs, rfl, upd_same, r.mono (same_imm (same_upd n)) _ _, rfl⟩ (by simp) (fun a ha => by rw [List.mem_singleton.mp ha]; exact n) (same_upd n)
theorem Fresh.tup {xs : List P} {vs : List V} {p : Addr} {o : Obj} (h : Fresh G (.p (.tuple xs)) H Q) (n : H p = none) (r : RPs H xs vs) (hd : o.dict = none) : Q (.ref p) (upd H p (.frz o (.tup vs))) :=
  h _ _ [] ⟨by rw [RP]; exact ⟨p, vs, rfl, ⟨o, upd_same, hd⟩, r.mono (same_imm (same_upd n)) _ _⟩, rfl⟩ .nil (fun _ z => nomatch z) (same_upd n)
end

/-! ### what data are -/
section
variable {K : PySem.W.Frag} {Cl : CW} {H : Hp} {v : V} {f : List Addr}
theorem RD.ofp {x : P} (h : RD K Cl H (.p x) v f) : RP H x v := h.1
theorem RP.int {i : Int} (h : RP H (.int i) v) : v = .int i := by rw [RP] at h; exact h
theorem RP.str {i : Str} (h : RP H (.str i) v) : v = .str i := by rw [RP] at h; exact h
theorem RP.bool {i : Bool} (h : RP H (.bool i) v) : v = .bl i := by rw [RP] at h; exact h
theorem RP.none (h : RP H .none v) : v = .non := by rw [RP] at h; exact h
theorem RP.list {xs : List P} (h : RP H (.list xs) v) : ∃ a vs, v = .ref a ∧ SqF H a vs ∧ RPs H xs vs := by rw [RP] at h; exact h
theorem RP.tuple {xs : List P} (h : RP H (.tuple xs) v) : ∃ a vs, v = .ref a ∧ TuF H a vs ∧ RPs H xs vs := by rw [RP] at h; exact h
theorem RP.dict {xs : List (P × P)} (h : RP H (.dict xs) v) : ∃ a kw, v = .ref a ∧ (∃ o, H a = some (.frz o (.dK kw))) ∧ RPd H xs kw := by rw [RP] at h; exact h
/-- a list to be read -/
theorem RD.seq {d : D} {xs : List P} (h : RD K Cl H d v f) (e : seqL d = some xs) : ∃ a vs, v = .ref a ∧ SqL K H a vs ∧ RPs H xs vs ∧ ((∃ o, H a = some (.frz o (.lst vs))) ∨ H a = some (.lst vs)) := by
  cases d with
  | p x =>
    cases x with
    | list ys =>
      cases e
      obtain ⟨a, vs, e1, ⟨o, q⟩, r⟩ := h.ofp.list
      exact ⟨a, vs, e1, .inl (.inr ⟨o, q⟩), r, .inl ⟨o, q⟩⟩
    | _ => cases e
  | ml ys =>
    cases e
    obtain ⟨a, vs, e1, q, r, _⟩ := h
    exact ⟨a, vs, e1, SqL.of q, r, .inr q⟩
  | _ => cases e
mutual
theorem RP.dp : ∀ (d : P) (v : V), RP H d v → d.canLay0 = true → Dp K H v d
  | .none, v, h, _ => by rw [RP] at h; subst h; exact .non
  | .bool b, v, h, _ => by rw [RP] at h; subst h; exact .bl b
  | .int b, v, h, _ => by rw [RP] at h; subst h; exact .int b
  | .str b, v, h, _ => by rw [RP] at h; subst h; exact .str b
  | .list ds, v, h, c => by
    rw [RP] at h
    obtain ⟨a, vs, rfl, q, r⟩ := h
    exact .lst q.sq (RPs.dp ds vs r (by simpa [PyData.canLay0] using c))
  | .tuple ds, v, h, c => by
    rw [RP] at h
    obtain ⟨a, vs, rfl, q, r⟩ := h
    exact .tup q.sq (RPs.dp ds vs r (by simpa [PyData.canLay0] using c))
  | .dict _, _, _, c => by simp [PyData.canLay0] at c
theorem RPs.dp : ∀ (ds : List P) (vs : List V), RPs H ds vs → PyData.canLayAll0 ds = true → DpAll K H vs ds
  | [], vs, h, _ => by rw [RPs] at h; subst h; exact .nil
  | d :: ds, vs, h, c => by
    rw [RPs] at h
    obtain ⟨v, r, rfl, q, z⟩ := h
    rw [PyData.canLayAll0, Bool.and_eq_true] at c
    exact .cons (RP.dp d v q c.1) (RPs.dp ds r z c.2)
end
theorem shaped_lay {d : P} (h : SeqAt.shaped d = true) : d.canLay0 = true := SeqAt.canLay_of_shaped h
theorem RD.dp {d : D} {x : P} (h : RD K Cl H d v f) (e : datum d = some x) (c : x.canLay0 = true) : Dp K H v x := by
  cases d with
  | p y => cases e; exact RP.dp _ _ h.ofp c
  | ml ys =>
    cases e
    obtain ⟨a, vs, rfl, q, r, _⟩ := h
    exact .lst (SqL.of q) (RPs.dp ys vs r (by simpa [PyData.canLay0] using c))
  | _ => cases e
/-- keys -/
theorem keyP_kV {k : P} {key : Key} {v : V} (h : RP H k v) (e : keyP k = some key) : v = kV key := by
  cases k with
  | int i => cases e; exact h.int
  | str x => cases e; exact h.str
  | _ => cases e
theorem keyP_inj {k l : P} {key : Key} (h : keyP k = some key) (h2 : keyP l = some key) : k = l := by
  cases k with
  | int i =>
    cases h
    cases l with
    | int j => injection h2 with h2; injection h2 with h2; rw [h2]
    | str x => injection h2 with h2; cases h2
    | _ => cases h2
  | str i =>
    cases h
    cases l with
    | str j => injection h2 with h2; injection h2 with h2; rw [h2]
    | int x => injection h2 with h2; cases h2
    | _ => cases h2
  | _ => cases h
theorem RPd.get : ∀ {kvs : List (P × P)} {kw : List (Key × V)} {k : P} {key : Key}, RPd H kvs kw → keyP k = some key →
    (dget kvs k = none ∧ valV kw key = none) ∨ ∃ x u, dget kvs k = some x ∧ valV kw key = some u ∧ RP H x u
  | [], _, k, key, h, e => by rw [RPd] at h; subst h; exact .inl ⟨rfl, rfl⟩
  | (l, d) :: kvs, _, k, key, h, e => by
    rw [RPd] at h
    obtain ⟨key', u, rest, rfl, e', q, z⟩ := h
    by_cases hk : l = k
    · subst hk
      rw [e] at e'; cases e'
      refine .inr ⟨d, u, by simp [dget], by rw [valV_pos rfl], q⟩
    · have hkk : ¬ key' = key := fun w => hk (keyP_inj e' (by rw [w]; exact e))
      have e1 : dget ((l, d) :: kvs) k = dget kvs k := by simp [dget, List.find?_cons, hk]
      have e2 : valV ((key', u) :: rest) key = valV rest key := valV_neg hkk
      rw [e1, e2]
      exact RPd.get z e
theorem RPd.length : ∀ {kvs : List (P × P)} {kw : List (Key × V)}, RPd H kvs kw → kw.length = kvs.length
  | [], _, h => by rw [RPd] at h; subst h; rfl
  | (l, d) :: kvs, _, h => by
    rw [RPd] at h
    obtain ⟨key', u, rest, rfl, e', q, z⟩ := h
    rw [List.length_cons, List.length_cons, RPd.length z]
theorem RPd.repl : ∀ {kvs : List (P × P)} {kw : List (Key × V)} {k : P} {key : Key} {x : P} {u : V}, RPd H kvs kw → keyP k = some key → RP H x u →
    RPd H (kvs.map fun kv => if kv.1 = k then (kv.1, x) else kv) (kw.map fun kv => if kv.1 = key then (kv.1, u) else kv)
  | [], _, _, _, _, _, h, _, _ => by rw [RPd] at h; subst h; simp [RPd]
  | (l, d) :: kvs, _, k, key, x, u, h, e, q => by
    rw [RPd] at h
    obtain ⟨key', w, rest, rfl, e', q', z⟩ := h
    rw [List.map_cons, List.map_cons]
    by_cases hk : l = k
    · subst hk
      rw [e] at e'; cases e'
      rw [if_pos rfl, if_pos rfl, RPd]
      exact ⟨key, u, _, rfl, e, q, RPd.repl z e q⟩
    · have hkk : ¬ key' = key := fun w => hk (keyP_inj e' (by rw [w]; exact e))
      rw [if_neg hk, if_neg hkk, RPd]
      exact ⟨key', w, _, rfl, e', q', RPd.repl z e q⟩
theorem RPd.snoc : ∀ {kvs : List (P × P)} {kw : List (Key × V)} {k : P} {key : Key} {x : P} {u : V}, RPd H kvs kw → keyP k = some key → RP H x u → RPd H (kvs ++ [(k, x)]) (kw ++ [(key, u)])
  | [], _, k, key, x, u, h, e, q => by
    rw [RPd] at h; subst h
    show RPd H [(k, x)] [(key, u)]
    rw [RPd]
    exact ⟨key, u, [], rfl, e, q, by rw [RPd]⟩
  | (l, d) :: kvs, _, k, key, x, u, h, e, q => by
    rw [RPd] at h
    obtain ⟨key', w, rest, rfl, e', q', z⟩ := h
    rw [List.cons_append, List.cons_append, RPd]
    exact ⟨key', w, _, rfl, e', q', RPd.snoc z e q⟩
theorem RPd.put {kvs : List (P × P)} {kw : List (Key × V)} {k : P} {key : Key} {x : P} {u : V} (h : RPd H kvs kw) (e : keyP k = some key) (q : RP H x u) : RPd H (dput kvs k x) (putK kw key u) := by
  unfold dput putK
  rw [valV_any]
  rcases h.get e with ⟨e1, e2⟩ | ⟨y, w, e1, e2, _⟩
  · rw [e1, e2]
    simp only [Option.isSome_none, Bool.false_eq_true, if_false]
    exact h.snoc e q
  · rw [e1, e2]
    simp only [Option.isSome_some, if_true]
    exact h.repl e q
end

/-! ### locking a thing for good -/
theorem pe_frz {X : Cx} {e : Expr} {t : TE} (h : PE X e t) :
    PE X e (fun σ H Q => t σ H fun v H' => (Q v H') ∨ ∃ a u, v = .ref a ∧ H' a = some u ∧ Mut (some u) ∧ ∀ o, Q v (upd H' a (.frz o u))) := by
  refine ⟨fun pins s σ H Q I hw => ?_⟩
  refine thn (h.run pins s σ H _ I hw) fun u s1 ⟨v, H1, I1, r, q⟩ => ?_
  rcases q with q | ⟨a, w, rfl, e, mu, q⟩
  · exact ⟨v, H1, I1, r, q⟩
  · obtain ⟨od, I2⟩ := I1.lock e mu
    exact ⟨_, _, I2, r, q od⟩
theorem pss_frz {X : Cx} {b : List Stmt} {t : TS} (h : PSs X b t) : PSs X b (fun D σ H => ∃ a u, H a = some u ∧ Mut (some u) ∧ ∀ o, t D σ (upd H a (.frz o u))) := by
  refine ⟨fun pins s σ H D I hw => ?_⟩
  obtain ⟨a, u, e, mu, hw⟩ := hw
  obtain ⟨od, I2⟩ := I.lock e mu
  exact h.run pins s σ _ D I2 (hw od)

/-! ### tuples, locked as they are made -/
section
variable {X : Cx} {es : List Expr} {t : TA} {pos : Pos}
theorem tupF_new {pins : List (Addr × Obj)} {σ : L2.St} {H : Hp} {s : Shared} {xs : List V} {us : List Value} {Q : VK} {tk : Nat} (I : Inv X pins σ H s) (r : Vals xs us) (z : xs.length ≤ sizeLine)
    (q : ∀ p o, H p = none → o.dict = none → Q (.ref p) (upd H p (.frz o (.tup xs)))) :
    EP X pins σ Q (.ref s.heap.objs.size) { s with heap := s.heap.push { cls := .type "tuple", data := .seq us.toArray }, toks := tk } := by
  have hf : H s.heap.objs.size = none := I.hok.fresh (Nat.le_refl _)
  have hg : (s.heap.push { cls := .type "tuple", data := .seq us.toArray }).get? s.heap.objs.size = some { cls := .type "tuple", data := .seq us.toArray } := Heap.get?_push_size _ rfl
  refine ⟨.ref s.heap.objs.size, upd H s.heap.objs.size (.frz { cls := .type "tuple", data := .seq us.toArray } (.tup xs)), I.laid (t' := tk) (fun b u e => Heap.get?_push_of_some _ e) (Nat.le_refl _) ?_, rfl, q _ _ hf rfl⟩
  exact ⟨hg, z, us, r, _, hg, rfl, _, rfl⟩
theorem pe_tupF {x1} (h : PA X es t) : PE X (.Tuple es x1 pos) (fun σ H Q => t σ H fun xs H1 => xs.length ≤ sizeLine ∧ ∀ p o, H1 p = none → o.dict = none → Q (.ref p) (upd H1 p (.frz o (.tup xs)))) := by
  refine ⟨fun pins s σ H Q I hq => ?_⟩
  refine wpAny_Tuple_spliced (thn (h.run pos pins s σ H _ I hq) fun us s1 ⟨xs, H1, I1, r, z, q⟩ => ⟨by rw [← r.length]; exact z, ?_⟩)
  exact tupF_new (tk := s1.toks) I1 r z q
end

section
variable {X : Cx}
/-- tuple(xs) -/
theorem call_tupF : CallR X (.type "tuple") (fun xs H Q => ∃ p ys, xs = [.ref p] ∧ ((SqL X.K H p ys ∧ ∀ l o, H l = none → o.dict = none → Q (.ref l) (upd H l (.frz o (.tup ys)))) ∨ (SqT X.K H p ys ∧ Q (.ref p) H))) := by
  intro pins s σ H xs us Q I r h
  obtain ⟨p, ys, rfl, h⟩ := h
  obtain ⟨u, rfl, rx⟩ := vals1 r
  cases rx
  rcases h with ⟨hq, q⟩ | ⟨hq, q⟩
  · obtain ⟨its, r', pl, hz⟩ := I.list hq
    have hlen := r'.length
    refine call_tuple_list pl.isList (fun h' kp => ?_) (by simp only [List.size_toArray] <;> omega)
    have I1 : Inv X pins σ H { s with heap := h' } := I.kept (t' := s.toks) kp
    exact tupF_new (s := { s with heap := h' }) (tk := s.toks) I1 r' hz q
  · obtain ⟨its, r', pl, hz⟩ := I.tuple hq
    exact call_tuple_same pl ⟨.ref p, H, I, rfl, q⟩
/-- t[lo:hi] -/
theorem sl_tupF : SlR X (fun x lo hi H Q => ∃ a xs, x = .ref a ∧ SqT X.K H a xs ∧ (cutV xs lo hi = xs → Q (.ref a) H) ∧ ∀ p o, H p = none → o.dict = none → Q (.ref p) (upd H p (.frz o (.tup (cutV xs lo hi))))) := by
  intro pins s σ H x v vl vu lo hi sl Q I rx hs pl pu h
  obtain ⟨a, xs, rfl, hx, q1, q2⟩ := h
  by_cases hw : HT.sIx xs.length 0 lo = 0 ∧ HT.sIx xs.length xs.length hi = xs.length
  · refine sl_tupA pins s σ H _ v vl vu lo hi sl Q I rx hs pl pu ⟨a, xs, rfl, hx, fun _ => q1 ?_, fun n => absurd hw n⟩
    unfold cutV
    rw [hw.1, hw.2]
    simp
  · cases rx
    obtain ⟨its, r, ht, hz⟩ := I.tuple hx
    have hlen : its.toArray.size = xs.length := by rw [List.size_toArray]; exact r.length.symm
    refine ⟨"tuple", _, PyProof.Rows.slot_tuple_getitem.lookup, ht.typeIs, ?_⟩
    refine HT.getItem_tuple_cut ht hs pl pu (by rw [hlen]; exact hw) ?_ (by rw [hlen]; exact hz)
    rw [hlen]
    exact tupF_new (tk := s.toks) I ((r.drop (HT.sIx xs.length 0 lo)).take (HT.sIx xs.length xs.length hi - HT.sIx xs.length 0 lo)) (Nat.le_trans (cutV_length xs lo hi) hz) q2
/-- t + u -/
theorem op_catF : OpR X (binaryOp .Add) (fun x y H Q => ∃ a b xs ys, x = .ref a ∧ y = .ref b ∧ SqT X.K H a xs ∧ SqT X.K H b ys ∧ xs.length + ys.length ≤ sizeLine ∧
    (xs = [] → Q (.ref b) H) ∧ (ys = [] → Q (.ref a) H) ∧ ∀ p o, H p = none → o.dict = none → Q (.ref p) (upd H p (.frz o (.tup (xs ++ ys))))) := by
  intro pins s σ H x y v u Q I rx ry h
  obtain ⟨a, b, xs, ys, rfl, rfl, ha, hb, hz, q0, q1, q2⟩ := h
  by_cases hx : xs = []
  · exact op_catA pins s σ H _ _ v u Q I rx ry ⟨a, b, xs, ys, rfl, rfl, ha, hb, hz, q0, fun n => absurd hx n, fun n => absurd hx n⟩
  · by_cases hy : ys = []
    · exact op_catA pins s σ H _ _ v u Q I rx ry ⟨a, b, xs, ys, rfl, rfl, ha, hb, hz, q0, fun _ _ => q1 hy, fun _ n => absurd hy n⟩
    · cases rx
      cases ry
      obtain ⟨its, r, ht, _⟩ := I.tuple ha
      obtain ⟨its2, r2, ht2, _⟩ := I.tuple hb
      have l1 := r.length
      have l2 := r2.length
      refine HT.cat_tup ht ht2 (fun e => hx (by rw [e] at l1; exact List.length_eq_zero_iff.mp l1)) (fun e => absurd (List.length_eq_zero_iff.mp (by rw [e] at l2; exact l2)) hy) (fun _ => ?_) (by omega)
      exact tupF_new (tk := s.toks) I (r.append r2) (by rw [List.length_append]; omega) q2

/-- a list's object, whether locked or not -/
theorem inv_lst {pins : List (Addr × Obj)} {σ : L2.St} {H : Hp} {s : Shared} {a : Addr} {xs : List V} (I : Inv X pins σ H s) (h : (∃ o, H a = some (.frz o (.lst xs))) ∨ H a = some (.lst xs)) :
    xs.length ≤ sizeLine ∧ ∃ (its : List Value) (n : Nat), Vals xs its ∧ xs.length = its.length ∧ s.heap.get? a = some { cls := .type "list", data := .seq its.toArray n } := by
  have ok : ObjOk X.prog X.w H s.heap a (.lst xs) := by
    rcases h with ⟨o, h⟩ | h
    · exact (I.hok a _ h).2
    · exact I.hok a _ h
  obtain ⟨z, its, n, r, e⟩ := ok
  exact ⟨z, its, n, r, r.length, e⟩
abbrev LstAt (H : Hp) (a : Addr) (xs : List V) : Prop := (∃ o, H a = some (.frz o (.lst xs))) ∨ H a = some (.lst xs)
/-- xs + ys -/
theorem op_catL : OpR X (binaryOp .Add) (fun x y H Q => ∃ l b xs zs, x = .ref l ∧ y = .ref b ∧ LstAt H l xs ∧ LstAt H b zs ∧ xs.length + zs.length ≤ sizeLine ∧ ∀ p, H p = none → Q (.ref p) (upd H p (.lst (xs ++ zs)))) := by
  intro pins s σ H x y v u Q I rx ry h
  obtain ⟨l, b, xs, zs, rfl, rfl, hH, hB, hz, q⟩ := h
  cases rx
  cases ry
  obtain ⟨_, its, n, r, l1, e⟩ := inv_lst I hH
  obtain ⟨_, its2, n2, r2, l2, e2⟩ := inv_lst I hB
  refine PySem.P.add_list e e2 ?_ (by simp only [List.size_toArray]; omega)
  rw [List.append_toArray]
  exact ⟨.ref _, _, I.lnew (t' := s.toks) (r.append r2) (by rw [List.length_append]; omega), rfl, q _ I.fresh⟩
/-- xs.extend(ys) -/
theorem mt_extendL : MtR X "list.extend" (fun x vs H Q => ∃ l b xs zs, x = .ref l ∧ vs = [.ref b] ∧ H l = some (.lst xs) ∧ LstAt H b zs ∧ xs.length + zs.length ≤ sizeLine ∧ Q .non (upd H l (.lst (xs ++ zs)))) := by
  intro pins s σ H x vs v us Q I rx rv h
  obtain ⟨l, b, xs, zs, rfl, rfl, hH, hB, hz, q⟩ := h
  cases rx
  obtain ⟨u, rfl, ru⟩ := rv.one
  cases ru
  obtain ⟨_, its, n, r, l1, e⟩ := inv_lst I (.inr hH)
  obtain ⟨_, its2, n2, r2, l2, e2⟩ := inv_lst I hB
  have small : its.length + its2.length ≤ sizeLine := by omega
  refine call_meets F.slot_list_extend ⟨_, e, rfl⟩ F.entry_list_extend (F.args_list_extend_2 _ _)
    (AutoSeq1.list_extend_list_list_0 l its.toArray n b its2.toArray n2 (by simp only [List.size_toArray, notLongL small, Bool.and_false]; exact Bool.false_ne_true) (by simp only [List.size_toArray]; omega) (by simp only [List.size_toArray]; omega)) ⟨e, e2, ?_⟩
  exact ⟨.non, _, I.lset (its' := its ++ its2) hH e (by simp) (r.append r2) (by rw [List.length_append]; omega), rfl, q⟩
end
/-! ### dicts whose keys are tuples -/
mutual
theorem keyN_inj : ∀ (x y : P) (k : NestedKey), keyN x = some k → keyN y = some k → x = y
  | .none, y, k, h, h2 => by
    cases y <;> simp only [keyN, Option.some.injEq, Option.map_eq_some_iff] at h h2 <;> subst h <;> first | rfl | (cases h2; done) | (obtain ⟨_, _, z⟩ := h2; cases z)
  | .int i, y, k, h, h2 => by
    cases y <;> simp only [keyN, Option.some.injEq, Option.map_eq_some_iff] at h h2 <;> subst h <;> first | (cases h2; rfl) | (cases h2; done) | (obtain ⟨_, _, z⟩ := h2; cases z)
  | .str i, y, k, h, h2 => by
    cases y <;> simp only [keyN, Option.some.injEq, Option.map_eq_some_iff] at h h2 <;> subst h <;> first | (cases h2; rfl) | (cases h2; done) | (obtain ⟨_, _, z⟩ := h2; cases z)
  | .tuple ds, y, k, h, h2 => by
    simp only [keyN, Option.map_eq_some_iff] at h
    obtain ⟨ks, h, rfl⟩ := h
    cases y with
    | tuple es =>
      simp only [keyN, Option.map_eq_some_iff] at h2
      obtain ⟨ls, h2, e⟩ := h2
      cases e
      rw [keyNs_inj ds es _ h h2]
    | none => simp [keyN] at h2
    | int i => simp [keyN] at h2
    | str i => simp [keyN] at h2
    | bool i => simp [keyN] at h2
    | list i => simp [keyN] at h2
    | dict i => simp [keyN] at h2
  | .bool _, _, _, h, _ => by simp [keyN] at h
  | .list _, _, _, h, _ => by simp [keyN] at h
  | .dict _, _, _, h, _ => by simp [keyN] at h
theorem keyNs_inj : ∀ (xs ys : List P) (ks : List NestedKey), keyNs xs = some ks → keyNs ys = some ks → xs = ys
  | [], ys, ks, h, h2 => by
    simp only [keyNs, Option.some.injEq] at h
    subst h
    cases ys with
    | nil => rfl
    | cons y ys =>
      simp only [keyNs] at h2
      split at h2
      · simp at h2
      · cases h2
  | x :: xs, ys, ks, h, h2 => by
    simp only [keyNs] at h
    split at h
    · rename_i k hk
      obtain ⟨r, hr, rfl⟩ := Option.map_eq_some_iff.mp h
      cases ys with
      | nil => simp [keyNs] at h2
      | cons y ys =>
        simp only [keyNs] at h2
        split at h2
        · rename_i k2 hk2
          obtain ⟨r2, hr2, e⟩ := Option.map_eq_some_iff.mp h2
          cases e
          rw [keyN_inj x y _ hk hk2, keyNs_inj xs ys _ hr hr2]
        · cases h2
    · cases h
end
theorem keyT_of {x : P} {k : NestedKey} (h : keyT x = some k) : keyN x = some k ∧ k.depth ≤ 8 := by
  unfold keyT at h
  split at h
  · rename_i ds
    split at h
    · rename_i ks hk
      split at h
      · rename_i hd
        cases h
        exact ⟨by simp only [keyN, hk, Option.map_some], hd⟩
      · cases h
    · cases h
  · cases h
theorem keyT_inj {x y : P} {k : NestedKey} (h : keyT x = some k) (h2 : keyT y = some k) : x = y := keyN_inj x y k (keyT_of h).1 (keyT_of h2).1
mutual
theorem nested_of {prog : Program} {w : World} {H : Hp} {h : Heap} (hok : HOk prog w H h) : ∀ (x : P) (k : NestedKey) (v : V) (u : Value), keyN x = some k → RP H x v → RelV v u → NestedIs h k u
  | .none, k, v, u, e, r, ru => by
    simp only [keyN, Option.some.injEq] at e
    subst e
    rw [RP] at r; subst r
    rw [show u = Value.none from ru]
    exact .none
  | .int i, k, v, u, e, r, ru => by
    simp only [keyN, Option.some.injEq] at e
    subst e
    rw [RP] at r; subst r
    obtain ⟨t, rfl⟩ := (show ∃ t, u = Value.int i t from ru)
    exact .int i t
  | .str i, k, v, u, e, r, ru => by
    simp only [keyN, Option.some.injEq] at e
    subst e
    rw [RP] at r; subst r
    obtain ⟨t, rfl⟩ := (show ∃ t, u = Value.str i t from ru)
    exact .text i t
  | .tuple ds, k, v, u, e, r, ru => by
    simp only [keyN, Option.map_eq_some_iff] at e
    obtain ⟨ks, e, rfl⟩ := e
    obtain ⟨a, vs, rfl, ⟨o, ho, _⟩, rs⟩ := r.tuple
    cases (show u = Value.ref a from ru)
    obtain ⟨_, _, its, rv, hT⟩ := (show ObjOk prog w H h a (.frz o (.tup vs)) from hok a _ ho)
    obtain ⟨o', h1, h2, n, h3⟩ := hT
    exact .tup h1 h2 h3 (by simpa using nesteds_of hok ds ks vs its e rs rv)
  | .bool _, _, _, _, e, _, _ => by simp [keyN] at e
  | .list _, _, _, _, e, _, _ => by simp [keyN] at e
  | .dict _, _, _, _, e, _, _ => by simp [keyN] at e
theorem nesteds_of {prog : Program} {w : World} {H : Hp} {h : Heap} (hok : HOk prog w H h) : ∀ (xs : List P) (ks : List NestedKey) (vs : List V) (us : List Value), keyNs xs = some ks → RPs H xs vs → Vals vs us → NestedAll h ks us
  | [], ks, vs, us, e, r, ru => by
    simp only [keyNs, Option.some.injEq] at e
    subst e
    rw [RPs] at r; subst r
    cases ru
    exact .nil
  | x :: xs, ks, vs, us, e, r, ru => by
    simp only [keyNs] at e
    split at e
    · rename_i k hk
      obtain ⟨l, hl, rfl⟩ := Option.map_eq_some_iff.mp e
      rw [RPs] at r
      obtain ⟨v, t, rfl, r1, r2⟩ := r
      cases ru with
      | cons q1 q2 => exact .cons (nested_of hok x k v _ hk r1 q1) (nesteds_of hok xs l t _ hl r2 q2)
    · cases e
end
theorem RelN.len {xs : List (NestedKey × Addr × V)} {us : List (NestedKey × Addr × Value)} (h : RelN xs us) : xs.length = us.length := Paired.length h
theorem RN.len {H : Hp} : ∀ {kvs : List (P × P)} {xs : List (NestedKey × Addr × V)}, RN H kvs xs → xs.length = kvs.length
  | [], _, h => by rw [show _ = [] from h]; rfl
  | (k, d) :: r, _, h => by
    obtain ⟨nk, b, v, rest, rfl, _, _, _, z⟩ := h
    rw [List.length_cons, List.length_cons, RN.len z]
/-- every entry is a key -/
theorem RN.keys {prog : Program} {w : World} {H : Hp} {h : Heap} (hok : HOk prog w H h) : ∀ {kvs : List (P × P)} {xs : List (NestedKey × Addr × V)} {us : List (NestedKey × Addr × Value)}, RN H kvs xs → RelN xs us → ∀ x ∈ us, (nestedKind prog w).is h x.1 x.2.1
  | [], _, _, h1, h2, x, hx => by
    rw [show _ = [] from h1] at h2
    cases h2
    cases hx
  | (k, d) :: r, _, _, h1, h2, x, hx => by
    obtain ⟨nk, b, v, rest, rfl, e, r1, _, z⟩ := h1
    cases h2 with
    | @cons p q _ us' q1 q2 =>
      rcases List.mem_cons.mp hx with rfl | hx
      · obtain ⟨e1, e2, _⟩ := q1
        obtain ⟨k1, k2⟩ := keyT_of e
        have := nested_of hok k nk (.ref b) (.ref b) k1 r1 rfl
        rw [← e1, ← e2]
        exact ⟨this, k2⟩
      · exact RN.keys hok z q2 x hx
/-- what a key tells -/
theorem RN.get {H : Hp} {k : P} {nk : NestedKey} (hk : keyT k = some nk) : ∀ {kvs : List (P × P)} {xs : List (NestedKey × Addr × V)} {us : List (NestedKey × Addr × Value)}, RN H kvs xs → RelN xs us →
    (dget kvs k = none ∧ atKey us nk = none) ∨ ∃ d b v u, dget kvs k = some d ∧ atKey us nk = some (b, u) ∧ RelV v u ∧ RP H d v
  | [], _, _, h1, h2 => by
    rw [show _ = [] from h1] at h2
    cases h2
    exact .inl ⟨rfl, rfl⟩
  | (k', d) :: r, _, _, h1, h2 => by
    obtain ⟨nk', b, v, rest, rfl, e, r1, r2, z⟩ := h1
    cases h2 with
    | @cons p q _ us' q1 q2 =>
      obtain ⟨e1, e2, e3⟩ := q1
      by_cases h : k' = k
      · subst h
        rw [hk] at e
        cases e
        refine .inr ⟨d, b, v, q.2.2, by simp [dget], ?_, e3, r2⟩
        have e1 : nk = q.1 := e1
        simp only [atKey, List.find?_cons]
        rw [decide_eq_true e1.symm]
        have : q.2.1 = b := e2.symm
        simp [← this]
      · have hn : nk' ≠ nk := fun z => h (keyT_inj e (by rw [z]; exact hk))
        have e1 : nk' = q.1 := e1
        have a1 : dget ((k', d) :: r) k = dget r k := by simp [dget, h]
        have a2 : atKey (q :: us') nk = atKey us' nk := by
          unfold atKey
          rw [List.find?_cons, decide_eq_false (fun z => hn (e1.trans z))]
        rw [a1, a2]
        exact RN.get hk z q2
def putV (k : NestedKey) (v : V) (x : NestedKey × Addr × V) : NestedKey × Addr × V := if x.1 = k then (x.1, x.2.1, v) else x
theorem RN.putOld {H : Hp} {k d : P} {nk : NestedKey} {v : V} (hk : keyT k = some nk) (rd : RP H d v) : ∀ {kvs : List (P × P)} {xs : List (NestedKey × Addr × V)}, RN H kvs xs → RN H (kvs.map fun kv => if kv.1 = k then (kv.1, d) else kv) (xs.map (putV nk v))
  | [], _, h1 => by rw [show _ = [] from h1]; rfl
  | (k', d') :: r, _, h1 => by
    obtain ⟨nk', b, v', rest, rfl, e, r1, r2, z⟩ := h1
    rw [List.map_cons, List.map_cons]
    by_cases h : k' = k
    · subst h
      rw [hk] at e
      cases e
      simp only [if_true]
      exact ⟨nk, b, v, _, by simp [putV], hk, r1, rd, RN.putOld hk rd z⟩
    · have hn : nk' ≠ nk := fun z => h (keyT_inj e (by rw [z]; exact hk))
      simp only [h, if_false]
      exact ⟨nk', b, v', _, by simp [putV, hn], e, r1, r2, RN.putOld hk rd z⟩
theorem RN.snoc {H : Hp} {k d : P} {nk : NestedKey} {b : Addr} {v : V} (hk : keyT k = some nk) (rk : RP H k (.ref b)) (rd : RP H d v) : ∀ {kvs : List (P × P)} {xs : List (NestedKey × Addr × V)}, RN H kvs xs → RN H (kvs ++ [(k, d)]) (xs ++ [(nk, b, v)])
  | [], _, h1 => by rw [show _ = [] from h1]; exact ⟨nk, b, v, [], rfl, hk, rk, rd, rfl⟩
  | (k', d') :: r, _, h1 => by
    obtain ⟨nk', b', v', rest, rfl, e, r1, r2, z⟩ := h1
    exact ⟨nk', b', v', _, rfl, e, r1, r2, RN.snoc hk rk rd z⟩
theorem RelN.putOld {nk : NestedKey} {v : V} {u : Value} (r : RelV v u) : ∀ {xs : List (NestedKey × Addr × V)} {us : List (NestedKey × Addr × Value)}, RelN xs us → RelN (xs.map (putV nk v)) (us.map (putAt nk u))
  | _, _, .nil => .nil
  | _, _, .cons (a := p) (b := q) h t => .cons (by
    obtain ⟨e1, e2, e3⟩ := h
    unfold putV putAt
    rw [← e1]
    split
    · exact ⟨rfl, e2, r⟩
    · exact ⟨e1, e2, e3⟩) (RelN.putOld r t)
theorem RelN.snoc {nk : NestedKey} {b : Addr} {v : V} {u : Value} (r : RelV v u) : ∀ {xs : List (NestedKey × Addr × V)} {us : List (NestedKey × Addr × Value)}, RelN xs us → RelN (xs ++ [(nk, b, v)]) (us ++ [(nk, b, u)])
  | _, _, .nil => .cons ⟨rfl, rfl, r⟩ .nil
  | _, _, .cons h t => .cons h (RelN.snoc r t)
section
variable {X : Cx} {pins : List (Addr × Obj)} {σ : L2.St} {H : Hp} {s : Shared} {A : Around} {E : Value → Shared → Prop} {a : Addr} {xs : List (NestedKey × Addr × V)} {kvs : List (P × P)}
theorem raw_dict (hok : HOk X.prog X.w H s.heap) (e : H a = some (.ext (rawN X.w a xs))) (rn : RN H kvs xs) : xs.length ≤ sizeLine ∧ (a == sysModules) = false ∧ ∃ us, RelN xs us ∧ s.heap.DictOfH (nestedKind X.prog X.w) a us := by
  obtain ⟨⟨z, hd, us, rel, o, es, ep, ho, hx, hdt, he, hn⟩, _, _⟩ := (show ObjOk X.prog X.w H s.heap a (.ext _) from hok a _ e)
  exact ⟨z, hd, us, rel, o, es, ep, ho, hx, hdt, he, RN.keys hok rn rel, hn⟩
theorem raw_ok {w : World} {P0 : Program} {H' : Hp} {h' : Heap} {us : List (NestedKey × Addr × Value)} (z : xs.length ≤ sizeLine) (hd : (a == sysModules) = false) (rel : RelN xs us) (dd : h'.DictOfH (nestedKind P0 w) a us) : ObjOk P0 w H' h' a (.ext (rawN w a xs)) := by
  obtain ⟨o, es, ep, ho, hx, hdt, he, _, hn⟩ := dd
  refine ⟨⟨z, hd, us, rel, o, es, ep, ho, hx, hdt, he, hn⟩, ⟨o, ho⟩, fun h1 h2 p st => ?_⟩
  obtain ⟨z, hd, us, rel, o, es, ep, ho, hx, hdt, he, hn⟩ := p
  exact ⟨z, hd, us, rel, o, es, ep, st o ho, hx, hdt, he, hn⟩
theorem key_is (I : Inv X pins σ H s) {k : P} {nk : NestedKey} {b : Addr} (hk : keyT k = some nk) (rk : RP H k (.ref b)) : (nestedKind X.prog X.w).is s.heap nk b := ⟨nested_of I.hok k nk (.ref b) (.ref b) (keyT_of hk).1 rk rfl, (keyT_of hk).2⟩
theorem keyT_ref {k : P} {nk : NestedKey} {v : V} (hk : keyT k = some nk) (rk : RP H k v) : ∃ b, v = .ref b := by
  unfold keyT at hk
  split at hk
  · obtain ⟨b, _, rfl, _⟩ := rk.tuple
    exact ⟨b, rfl⟩
  · cases hk
theorem n_in {Q : Value → Shared → Prop} (hu : A.units + 66 < cLine) (I : Inv X pins σ H s) (e : H a = some (.ext (rawN X.w a xs))) (rn : RN H kvs xs) {k : P} {nk : NestedKey} {b : Addr} (hk : keyT k = some nk) (rk : RP H k (.ref b)) (h : ∀ s', Inv X pins σ H s' → Q (.bool (dget kvs k).isSome) s') :
    wpAny (model X.prog X.w) A (compareOp .In (.ref b) (.ref a)) Q E s := by
  obtain ⟨_, hd, us, rel, dd⟩ := raw_dict I.hok e rn
  refine wpAny_in_heap (knd := nestedKind X.prog X.w) (by show A.in1.units + 8 < cLine; show A.units + 1 + 8 < cLine; omega) (key_is I hk rk) hd dd ?_
  rcases rn.get hk rel with ⟨h1, h2⟩ | ⟨d, b', v, u, h1, h2, _, _⟩
  · rw [h2]; rw [h1] at h; exact h _ (I.tok _)
  · rw [h2]; rw [h1] at h; exact h _ (I.tok _)
theorem n_notIn {Q : Value → Shared → Prop} (hu : A.units + 66 < cLine) (I : Inv X pins σ H s) (e : H a = some (.ext (rawN X.w a xs))) (rn : RN H kvs xs) {k : P} {nk : NestedKey} {b : Addr} (hk : keyT k = some nk) (rk : RP H k (.ref b)) (h : ∀ s', Inv X pins σ H s' → Q (.bool (!(dget kvs k).isSome)) s') :
    wpAny (model X.prog X.w) A (compareOp .NotIn (.ref b) (.ref a)) Q E s := by
  obtain ⟨_, hd, us, rel, dd⟩ := raw_dict I.hok e rn
  refine wpAny_notIn_heap (knd := nestedKind X.prog X.w) (by show A.in1.units + 8 < cLine; show A.units + 1 + 8 < cLine; omega) (key_is I hk rk) hd dd ?_
  rcases rn.get hk rel with ⟨h1, h2⟩ | ⟨d, b', v, u, h1, h2, _, _⟩
  · rw [h2]; rw [h1] at h; exact h _ (I.tok _)
  · rw [h2]; rw [h1] at h; exact h _ (I.tok _)
theorem n_get {Q : Value → Shared → Prop} (hu : A.units + 66 < cLine) (I : Inv X pins σ H s) (e : H a = some (.ext (rawN X.w a xs))) (rn : RN H kvs xs) {k d : P} {nk : NestedKey} {b : Addr} (hk : keyT k = some nk) (rk : RP H k (.ref b)) (hg : dget kvs k = some d) (h : ∀ v u s', Inv X pins σ H s' → RP H d v → RelV v u → Q u s') :
    wpAny (model X.prog X.w) A (getItem (.ref a) (.ref b)) Q E s := by
  obtain ⟨_, hd, us, rel, dd⟩ := raw_dict I.hok e rn
  rcases rn.get hk rel with ⟨h1, h2⟩ | ⟨d', b', v, u, h1, h2, h3, h4⟩
  · rw [h1] at hg; cases hg
  · rw [h1] at hg
    cases hg
    exact wpAny_getItem_heap (knd := nestedKind X.prog X.w) (by show A.in1.units + 8 < cLine; show A.units + 1 + 8 < cLine; omega) (key_is I hk rk) dd h2 (h v u _ (I.tok _) h4 h3)
/-- the entries behind d[k] = v -/
theorem n_put {k d : P} {nk : NestedKey} {b : Addr} {v : V} {u : Value} {us : List (NestedKey × Addr × Value)} (hk : keyT k = some nk) (rk : RP H k (.ref b)) (rd : RP H d v) (rv : RelV v u) (rn : RN H kvs xs) (rel : RelN xs us) :
    ∃ xs', RN H (dput kvs k d) xs' ∧ RelN xs' (storedH us nk b u) ∧ xs'.length ≤ xs.length + 1 := by
  rcases rn.get hk rel with ⟨h1, h2⟩ | ⟨d', b', v', u', h1, h2, _, _⟩
  · refine ⟨xs ++ [(nk, b, v)], ?_, ?_, by simp⟩
    · unfold dput; rw [h1]; exact rn.snoc hk rk rd
    · rw [storedH_new h2]; exact rel.snoc rv
  · refine ⟨xs.map (putV nk v), ?_, ?_, by simp⟩
    · unfold dput; rw [h1]; exact rn.putOld hk rd
    · rw [storedH_old h2]; exact rel.putOld rv
theorem n_set {Q : Unit → Shared → Prop} (hu : A.units + 66 < cLine) (I : Inv X pins σ H s) (e : H a = some (.ext (rawN X.w a xs))) (rn : RN H kvs xs) (hl : xs.length < sizeLine) {k d : P} {nk : NestedKey} {b : Addr} {v : V} {u : Value} (hk : keyT k = some nk) (rk : RP H k (.ref b)) (rd : RP H d v) (rv : RelV v u)
    (h : ∀ xs' s', RN H (dput kvs k d) xs' → Inv X pins σ (upd H a (.ext (rawN X.w a xs'))) s' → Q () s') :
    wpAny (model X.prog X.w) A (setItem (.ref a) (.ref b) u) Q E s := by
  obtain ⟨z, hd, us, rel, dd⟩ := raw_dict I.hok e rn
  obtain ⟨xs', r1, r2, r3⟩ := n_put hk rk rd rv rn rel
  refine wpAny_setItem_heap (knd := nestedKind X.prog X.w) (hsz := by rw [← rel.len]; exact z) (by show A.in1.units + 8 < cLine; show A.units + 1 + 8 < cLine; omega) (key_is I hk rk) dd fun h' dd' hs => h xs' _ r1 ?_
  have he : ∃ q, h'.get? a = some q := let ⟨q, _, _, hq, _⟩ := dd'; ⟨q, hq⟩
  exact d_write I (by rw [e]; exact True.intro) hs he (raw_ok (by omega) hd r2 dd')
theorem n_len {Q : Value → Shared → Prop} (I : Inv X pins σ H s) (e : H a = some (.ext (rawN X.w a xs))) (rn : RN H kvs xs) (h : ∀ t s', Inv X pins σ H s' → Q (.int kvs.length t) s') : wpAny (model X.prog X.w) A (call (.builtin "len") [.ref a]) Q E s := by
  obtain ⟨z, hd, us, rel, dd⟩ := raw_dict I.hok e rn
  have hl : us.length = kvs.length := by rw [← rel.len, rn.len]
  have hz : us.length ≤ sizeLine := by rw [← rel.len]; exact z
  have hk : s.heap.DictKeyed (nestedKind X.prog X.w) a (pairsH us) := ⟨us, dd, rfl⟩
  refine PyProof.Rows.call_len_slot (n := (pairsH us).length) hk.typeIs F.slot_dict_len (fun Q' hq => len_keyed hd hk hq) (by omega) (by rw [pairsH_length]; rw [sizeLine_eq] at hz; omega) ?_
  rw [pairsH_length, hl]
  exact h _ _ (I.tok _)
end
end DL

/-! DL3: the operations of the interpreter, each shown over the heap. -/
namespace DL
open PySem PySem.Spec PyProof.Rows L2

def pyB : BOp → Operator
  | .add => .Add | .sub => .Sub | .mul => .Mult | .fdiv => .FloorDiv | .mod => .Mod | .pow => .Pow
def pyC : COp → CmpOp
  | .lt => .Lt | .le => .LtE | .gt => .Gt | .ge => .GtE | .eq => .Eq | .ne => .NotEq | .is => .Is | .isn => .IsNot | .in_ => .In | .nin => .NotIn
section
variable {X : Cx} {G : Gh}

theorem opI_some {f : Int → Int → Option Int} {a b d : D} (h : opI f a b = some d) : ∃ i j k, a = .p (.int i) ∧ b = .p (.int j) ∧ f i j = some k ∧ d = .p (.int k) := by
  unfold opI at h
  split at h
  · split at h
    · rename_i i _ j
      obtain ⟨k, h1, h2⟩ := Option.map_eq_some_iff.mp h
      exact ⟨i, j, k, rfl, rfl, h1, h2.symm⟩
    · cases h
  · cases h
theorem opInt {g : Value → Value → Sem Value} {C : Int → Int → Prop} {k : Int → Int → Int} {f : Int → Int → Option Int} (ho : OpR X g (rI C fun i j => .int (k i j))) (hf : ∀ i j z, f i j = some z → C i j ∧ z = k i j) :
    ∃ r, OpR X g r ∧ ∀ x y H Q d1 d2 d f1 f2, RD G.K G.Cl H d1 x f1 → RD G.K G.Cl H d2 y f2 → opI f d1 d2 = some d → Fresh G d H Q → r x y H Q := by
  refine ⟨_, ho, fun x y H Q d1 d2 d f1 f2 r1 r2 e q => ?_⟩
  obtain ⟨i, j, z, rfl, rfl, e1, rfl⟩ := opI_some e
  obtain ⟨c, rfl⟩ := hf i j z e1
  exact ⟨i, j, r1.ofp.int, r2.ofp.int, c, q.p (by rw [RP])⟩
theorem big_ok {i : Int} (h : big i = true) : -(2 ^ 64) < i ∧ i < 2 ^ 64 := by
  unfold big at h
  simp only [Bool.and_eq_true, decide_eq_true_eq] at h
  exact h
theorem add_ok (hK : X.K = G.K) : ∃ r, OpR X (binaryOp .Add) r ∧ ∀ x y H Q d1 d2 d f1 f2, RD G.K G.Cl H d1 x f1 → RD G.K G.Cl H d2 y f2 → opAdd d1 d2 = some d → Fresh G d H Q → r x y H Q := by
  refine ⟨_, op_add.or (op_add_str.or (op_catF.or op_catL)), fun x y H Q d1 d2 d f1 f2 r1 r2 e q => ?_⟩
  unfold opAdd at e
  split at e
  · split at e
    · cases e
      exact .inl ⟨_, _, r1.ofp.int, r2.ofp.int, q.p (by rw [RP])⟩
    · cases e
  · split at e
    · split at e
      · rename_i hz
        cases e
        exact .inr (.inl ⟨_, _, r1.ofp.str, r2.ofp.str, hz, q.p (by rw [RP])⟩)
      · cases e
    · cases e
  · split at e
    · split at e
      · rename_i hz
        cases e
        obtain ⟨a, vs, rfl, h1, s1⟩ := r1.ofp.tuple
        obtain ⟨b, ws, rfl, h2, s2⟩ := r2.ofp.tuple
        refine .inr (.inr (.inl ⟨a, b, vs, ws, rfl, rfl, h1.sq, h2.sq, by rw [s1.length, s2.length]; exact hz, fun z => ?_, fun z => ?_, fun p o n hd => q.tup n (s1.append s2) hd⟩))
        · have : (_ : List P) = [] := List.length_eq_zero_iff.mp (by rw [← s1.length, z]; rfl)
          subst this
          exact q.p r2.ofp
        · have : (_ : List P) = [] := List.length_eq_zero_iff.mp (by rw [← s2.length, z]; rfl)
          subst this
          rw [List.append_nil] at q
          exact q.p r1.ofp
      · cases e
    · cases e
  · split at e
    · rename_i xs hx
      split at e
      · rename_i ys hy
        split at e
        · rename_i hz
          cases e
          obtain ⟨a, vs, rfl, _, s1, l1⟩ := r1.seq hx
          obtain ⟨b, ws, rfl, _, s2, l2⟩ := r2.seq hy
          exact .inr (.inr (.inr ⟨a, b, vs, ws, rfl, rfl, l1, l2, by rw [s1.length, s2.length]; exact hz, fun p n => q.ml n (s1.append s2)⟩))
        · cases e
      · cases e
    · cases e
theorem op2_ok (hK : X.K = G.K) (o : BOp) : ∃ r, OpR X (binaryOp (pyB o)) r ∧ ∀ x y H Q d1 d2 d f1 f2, RD G.K G.Cl H d1 x f1 → RD G.K G.Cl H d2 y f2 → op2 o d1 d2 = some d → Fresh G d H Q → r x y H Q := by
  cases o with
  | add => exact add_ok hK
  | sub =>
    refine ⟨_, op_sub, fun x y H Q d1 d2 d f1 f2 r1 r2 e q => ?_⟩
    obtain ⟨i, j, z, rfl, rfl, e1, rfl⟩ := opI_some e
    cases e1
    exact ⟨i, j, r1.ofp.int, r2.ofp.int, q.p (by rw [RP])⟩
  | mul =>
    refine opInt op_mul fun i j z e => ?_
    split at e
    · rename_i hb
      rw [Bool.or_eq_true] at hb
      cases e
      exact ⟨hb.imp big_ok big_ok, rfl⟩
    · cases e
  | fdiv =>
    refine opInt op_fdiv fun i j z e => ?_
    split at e
    · rename_i hb; cases e; exact ⟨hb, rfl⟩
    · cases e
  | mod =>
    refine opInt op_mod fun i j z e => ?_
    split at e
    · rename_i hb; cases e; exact ⟨hb, rfl⟩
    · cases e
  | pow =>
    refine opInt op_pow fun i j z e => ?_
    split at e
    · rename_i hb; cases e; exact ⟨hb, rfl⟩
    · cases e

/-! ### comparisons -/
theorem cmpI_some {f : Int → Int → Bool} {a b : D} {k : Bool} (h : cmpI f a b = some k) : ∃ i j, a = .p (.int i) ∧ b = .p (.int j) ∧ k = f i j := by
  unfold cmpI at h
  split at h
  · split at h
    · cases h; exact ⟨_, _, rfl, rfl, rfl⟩
    · cases h
  · cases h
abbrev COk (X : Cx) (G : Gh) (op : CmpOp) (f : D → D → Option Bool) : Prop :=
  ∃ r, OpR X (compareOp op) r ∧ ∀ x y H Q d1 d2 k f1 f2, RD G.K G.Cl H d1 x f1 → RD G.K G.Cl H d2 y f2 → f d1 d2 = some k → Q (.bl k) H → r x y H Q
theorem cmp_int {op : CmpOp} {f : Int → Int → Bool} (ho : OpR X (compareOp op) (rI0 fun i j => .bl (f i j))) : COk X G op (cmpI f) := by
  refine ⟨_, ho, fun x y H Q d1 d2 k f1 f2 r1 r2 e q => ?_⟩
  obtain ⟨i, j, rfl, rfl, rfl⟩ := cmpI_some e
  exact ⟨i, j, r1.ofp.int, r2.ofp.int, q⟩
theorem RP.scal {H : Hp} {a b : P} {x y : V} (h : scalP a b = true) (r1 : RP H a x) (r2 : RP H b y) : scal x y = true ∧ decide (x = y) = PyData.eqv a b := by
  have str_dec : ∀ u w : Str, decide (V.str u = V.str w) = (u == w) := fun u w => dec_str
  cases a <;> cases b <;> simp only [scalP, isScal, Bool.and_true, Bool.and_false, Bool.false_and, Bool.true_and, Bool.false_eq_true] at h <;>
    (simp only [RP] at r1 r2; subst r1; subst r2; refine ⟨rfl, ?_⟩; first | rfl | exact dec_int | exact dec_bl | exact dec_str | (simp [PyData.eqv]))
theorem opEq_some {a b : D} {k : Bool} (h : opEq a b = some k) : ∃ x y, datum a = some x ∧ datum b = some y ∧ (scalP x y = true ∨ (SeqAt.shaped x = true ∧ SeqAt.shaped y = true)) ∧ k = PyData.eqv x y := by
  unfold opEq at h
  split at h
  · split at h
    · unfold eqP at h
      split at h
      · rename_i x hx _ y hy c
        cases h
        exact ⟨x, y, hx, hy, c, rfl⟩
      · cases h
    · cases h
  · cases h
theorem scal_p {a b : D} {x y : P} (ha : datum a = some x) (hb : datum b = some y) (h : scalP x y = true) : a = .p x ∧ b = .p y := by
  have q : isScal x = true ∧ isScal y = true := by
    cases x <;> cases y <;> simp_all [scalP, isScal]
  refine ⟨?_, ?_⟩
  · cases a with
    | p z => cases ha; rfl
    | ml xs => cases ha; simp [isScal] at q
    | _ => cases ha
  · cases b with
    | p z => cases hb; rfl
    | ml xs => cases hb; simp [isScal] at q
    | _ => cases hb
theorem eq_ok (hK : X.K = G.K) (hu : X.A.units + 66 < cLine) : COk X G .Eq opEq := by
  refine ⟨_, op_eq.or (op_eqD (by omega)), fun x y H Q d1 d2 k f1 f2 r1 r2 e q => ?_⟩
  obtain ⟨a, b, ha, hb, c, rfl⟩ := opEq_some e
  rcases c with c | ⟨c1, c2⟩
  · obtain ⟨rfl, rfl⟩ := scal_p ha hb c
    obtain ⟨h1, h2⟩ := RP.scal c r1.ofp r2.ofp
    exact .inl ⟨h1, by rw [h2]; exact q⟩
  · exact .inr ⟨a, b, hK ▸ r1.dp ha (shaped_lay c1), hK ▸ r2.dp hb (shaped_lay c2), c1, c2, q⟩
theorem ne_ok (hK : X.K = G.K) (hu : X.A.units + 66 < cLine) : COk X G .NotEq (fun a b => (opEq a b).map (!·)) := by
  refine ⟨_, op_ne.or (op_neD (by omega)), fun x y H Q d1 d2 k f1 f2 r1 r2 e q => ?_⟩
  obtain ⟨k', e', rfl⟩ := Option.map_eq_some_iff.mp e
  obtain ⟨a, b, ha, hb, c, rfl⟩ := opEq_some e'
  rcases c with c | ⟨c1, c2⟩
  · obtain ⟨rfl, rfl⟩ := scal_p ha hb c
    obtain ⟨h1, h2⟩ := RP.scal c r1.ofp r2.ofp
    exact .inl ⟨h1, by rw [h2]; exact q⟩
  · exact .inr ⟨a, b, hK ▸ r1.dp ha (shaped_lay c1), hK ▸ r2.dp hb (shaped_lay c2), c1, c2, q⟩
theorem RD.notNone {H : Hp} {d : D} {x : V} {f : List Addr} (h : RD G.K G.Cl H d x f) (n : d ≠ .p .none) : x ≠ .non := by
  rintro rfl
  cases d with
  | p y =>
    have h := h.ofp
    cases y with
    | none => exact n rfl
    | bool b => rw [RP] at h; cases h
    | int b => rw [RP] at h; cases h
    | str b => rw [RP] at h; cases h
    | list b => obtain ⟨_, _, h, _⟩ := h.list; cases h
    | tuple b => obtain ⟨_, _, h, _⟩ := h.tuple; cases h
    | dict b => obtain ⟨_, _, h, _⟩ := h.dict; cases h
  | ml xs => obtain ⟨_, _, h, _⟩ := h; cases h
  | dc t kvs =>
    cases t with
    | false => obtain ⟨_, _, h, _⟩ := h; cases h
    | true => obtain ⟨_, _, h, _⟩ := h; cases h
  | ne ds => obtain ⟨_, _, _, h, _⟩ := h; cases h
  | ins fs => obtain ⟨_, _, _, _, h, _⟩ := h; cases h
  | rl ds => obtain ⟨_, _, h, _⟩ := h; cases h
theorem opIs_some {a b : D} {k : Bool} (h : opIs a b = some k) : (b = .p .none ∧ ((a = .p .none ∧ k = true) ∨ (a ≠ .p .none ∧ k = false))) ∨ ∃ x y, a = .p (.bool x) ∧ b = .p (.bool y) ∧ k = decide (x = y) := by
  unfold opIs at h
  split at h
  · split at h
    · cases h; exact .inl ⟨rfl, .inl ⟨rfl, rfl⟩⟩
    · rename_i n; cases h; exact .inl ⟨rfl, .inr ⟨n, rfl⟩⟩
  · split at h
    · cases h; exact .inr ⟨_, _, rfl, rfl, rfl⟩
    · cases h
  · cases h
theorem is_ok : COk X G .Is opIs := by
  refine ⟨_, op_isN.or op_is_bl, fun x y H Q d1 d2 k f1 f2 r1 r2 e q => ?_⟩
  rcases opIs_some e with ⟨rfl, h⟩ | ⟨a, b, rfl, rfl, rfl⟩
  · refine .inl ⟨r2.ofp.none, ?_⟩
    rcases h with ⟨rfl, rfl⟩ | ⟨n, rfl⟩
    · rw [r1.ofp.none]; exact q
    · rw [decide_eq_false (r1.notNone n)]; exact q
  · exact .inr ⟨a, b, r1.ofp.bool, r2.ofp.bool, q⟩
theorem isn_ok : COk X G .IsNot (fun a b => (opIs a b).map (!·)) := by
  refine ⟨_, op_notN.or op_isnot_bl, fun x y H Q d1 d2 k f1 f2 r1 r2 e q => ?_⟩
  obtain ⟨k', e', rfl⟩ := Option.map_eq_some_iff.mp e
  rcases opIs_some e' with ⟨rfl, h⟩ | ⟨a, b, rfl, rfl, rfl⟩
  · refine .inl ⟨r2.ofp.none, ?_⟩
    rcases h with ⟨rfl, rfl⟩ | ⟨n, rfl⟩
    · rw [r1.ofp.none]; exact q
    · rw [decide_eq_false (r1.notNone n)]; exact q
  · exact .inr ⟨a, b, r1.ofp.bool, r2.ofp.bool, q⟩

/-! ### in -/
theorem RP.flat {H : Hp} {a : P} {x : V} (h : isFlat a = true) (r : RP H a x) : flatV x = true := by
  cases a <;> first | (cases h; done) | (simp only [RP] at r; subst r; rfl)
theorem RP.eqFlat {H : Hp} {a b : P} {x y : V} (h : isFlat a = true) (h2 : isFlat b = true) (r : RP H a x) (r2 : RP H b y) : eqV x y = decide (a = b) := by
  cases a <;> cases b <;> first | (cases h; done) | (cases h2; done) | (simp only [RP] at r r2; subst r; subst r2; first | rfl | (rw [Bool.eq_iff_iff]; simp [eqV]; done) | (simp [eqV]; done))
theorem RPs.flats {H : Hp} : ∀ {as : List P} {xs : List V}, as.all isFlat = true → RPs H as xs → xs.all flatV = true
  | [], _, _, r => by rw [RPs] at r; subst r; rfl
  | a :: as, _, h, r => by
    rw [RPs] at r
    obtain ⟨v, t, rfl, q, z⟩ := r
    rw [List.all_cons, Bool.and_eq_true] at h ⊢
    exact ⟨q.flat h.1, RPs.flats h.2 z⟩
theorem RPs.inFlat {H : Hp} {b : P} {y : V} (hb : isFlat b = true) (r2 : RP H b y) : ∀ {as : List P} {xs : List V}, as.all isFlat = true → RPs H as xs → inV y xs = as.any fun z => decide (z = b)
  | [], _, _, r => by rw [RPs] at r; subst r; rfl
  | a :: as, _, h, r => by
    rw [RPs] at r
    obtain ⟨v, t, rfl, q, z⟩ := r
    rw [List.all_cons, Bool.and_eq_true] at h
    have ih := RPs.inFlat hb r2 h.2 z
    unfold inV at ih ⊢
    rw [List.any_cons, List.any_cons, ih, q.eqFlat h.1 hb r2]
/-- y in d -/
theorem op_inDict (hu : X.A.units + 66 < cLine) : OpR X (compareOp .In) (fun y x H Q => ∃ a o, x = .ref a ∧ DGet H a y o ∧ Q (.bl o.isSome) H) := by
  intro pins s σ H y x v u Q I ry rx h
  obtain ⟨a, o, rfl, g, q⟩ := h
  cases rx
  exact d_in (by omega) I g ry fun s3 I3 => ⟨.bl o.isSome, H, I3, rfl, q⟩
theorem op_ninDict (hu : X.A.units + 66 < cLine) : OpR X (compareOp .NotIn) (fun y x H Q => ∃ a o, x = .ref a ∧ DGet H a y o ∧ Q (.bl (!o.isSome)) H) := by
  intro pins s σ H y x v u Q I ry rx h
  obtain ⟨a, o, rfl, g, q⟩ := h
  cases rx
  exact d_notIn (by omega) I g ry fun s3 I3 => ⟨.bl (!o.isSome), H, I3, rfl, q⟩
/-- what a dict tells of a key -/
theorem dict_tell {H : Hp} {a : Addr} {kvs : List (P × P)} {kw : List (Key × V)} {k : P} {x : V} (e : Rd H a (.dK kw)) (r : RPd H kvs kw) (rk : RP H k x) {key : Key} (hk : keyP k = some key) :
    ∃ o, DGet H a x o ∧ o.isSome = (dget kvs k).isSome ∧ ∀ d, dget kvs k = some d → ∃ u, o = some u ∧ RP H d u := by
  refine ⟨valV kw key, .inl ⟨kw, key, e, keyP_kV rk hk, rfl⟩, ?_⟩
  rcases r.get hk with ⟨e1, e2⟩ | ⟨d, u, e1, e2, q⟩
  · rw [e1, e2]; exact ⟨rfl, fun d h => nomatch h⟩
  · rw [e1, e2]; exact ⟨rfl, fun d' h => by cases h; exact ⟨u, rfl, q⟩⟩
/-- a dict to be read -/
theorem RD.dict {H : Hp} {d : D} {v : V} {f : List Addr} {kvs : List (P × P)} (h : RD G.K G.Cl H d v f) (e : dicD d = some kvs) : ∃ a kw, v = .ref a ∧ Rd H a (.dK kw) ∧ RPd H kvs kw := by
  cases d with
  | p x =>
    cases x with
    | dict kvs' =>
      cases e
      obtain ⟨a, kw, rfl, ⟨o, q⟩, r⟩ := h.ofp.dict
      exact ⟨a, kw, rfl, .inr ⟨o, q⟩, r⟩
    | _ => cases e
  | dc t kvs' =>
    cases t with
    | false =>
      cases e
      obtain ⟨a, kw, rfl, q, r, _⟩ := h
      exact ⟨a, kw, rfl, .inl q, r⟩
    | true => cases e
  | _ => cases e
theorem op_inN (hu : X.A.units + 66 < cLine) : OpR X (compareOp .In) (fun y x H Q => ∃ (a b : Addr) (kvs : List (P × P)) (xs : List (NestedKey × Addr × V)) (k : P) (nk : NestedKey), x = .ref a ∧ y = .ref b ∧ H a = some (.ext (rawN X.w a xs)) ∧ RN H kvs xs ∧ keyT k = some nk ∧ RP H k (.ref b) ∧ Q (.bl (dget kvs k).isSome) H) := by
  intro pins s σ H y x v u Q I ry rx h
  obtain ⟨a, b, kvs, xs, k, nk, rfl, rfl, e, rn, hk, rk, q⟩ := h
  cases rx
  cases ry
  exact n_in hu I e rn hk rk fun s3 I3 => ⟨.bl _, H, I3, rfl, q⟩
theorem op_ninN (hu : X.A.units + 66 < cLine) : OpR X (compareOp .NotIn) (fun y x H Q => ∃ (a b : Addr) (kvs : List (P × P)) (xs : List (NestedKey × Addr × V)) (k : P) (nk : NestedKey), x = .ref a ∧ y = .ref b ∧ H a = some (.ext (rawN X.w a xs)) ∧ RN H kvs xs ∧ keyT k = some nk ∧ RP H k (.ref b) ∧ Q (.bl (!(dget kvs k).isSome)) H) := by
  intro pins s σ H y x v u Q I ry rx h
  obtain ⟨a, b, kvs, xs, k, nk, rfl, rfl, e, rn, hk, rk, q⟩ := h
  cases rx
  cases ry
  exact n_notIn hu I e rn hk rk fun s3 I3 => ⟨.bl _, H, I3, rfl, q⟩
theorem opIn_some {a b : D} {k : Bool} (h : opIn a b = some k) :
    (∃ x z, a = .p (.str x) ∧ b = .p (.str z) ∧ x.cps.size = 1 ∧ k = decide (x.cps.getD 0 0 ∈ z.cps.toList)) ∨
    (∃ x ys, a = .p x ∧ (b = .p (.tuple ys) ∨ seqL b = some ys) ∧ isFlat x = true ∧ ys.all isFlat = true ∧ k = ys.any fun y => decide (y = x)) ∨
    (∃ x ys, a = .p x ∧ seqL b = some ys ∧ SeqAt.shaped x = true ∧ SeqAt.shaped (.list ys) = true ∧ k = ys.any fun z => PyData.eqv z x) ∨
    (∃ x kvs key, a = .p x ∧ dicD b = some kvs ∧ keyP x = some key ∧ k = (dget kvs x).isSome) ∨
    (∃ x kvs key, a = .p x ∧ b = .dc true kvs ∧ keyT x = some key ∧ k = (dget kvs x).isSome) := by
  unfold opIn at h
  split at h
  · split at h
    · split at h
      · rename_i c
        cases h
        obtain ⟨nk, hk⟩ := Option.isSome_iff_exists.mp c
        exact .inr (.inr (.inr (.inr ⟨_, _, nk, rfl, rfl, hk, rfl⟩)))
      · cases h
    · cases h
  · split at h
    · split at h
      · rename_i c; cases h; exact .inl ⟨_, _, rfl, rfl, c, rfl⟩
      · cases h
    · cases h
  · split at h
    · split at h
      · rename_i c; cases h; exact .inr (.inl ⟨_, _, rfl, .inl rfl, c.1, c.2, rfl⟩)
      · cases h
    · cases h
  · split at h
    · split at h
      · split at h
        · cases h; exact .inr (.inr (.inr (.inl ⟨_, _, _, rfl, by assumption, by assumption, rfl⟩)))
        · cases h
      · cases h
    · split at h
      · rename_i hs
        split at h
        · split at h
          · rename_i c; cases h; exact .inr (.inl ⟨_, _, rfl, .inr hs, c.1, c.2, rfl⟩)
          · split at h
            · rename_i c; cases h; exact .inr (.inr (.inl ⟨_, _, rfl, hs, c.1, c.2, rfl⟩))
            · cases h
        · cases h
      · cases h
theorem in_ok (hK : X.K = G.K) (hu : X.A.units + 66 < cLine) (hw : G.Cl.w = X.w) : COk X G .In opIn := by
  refine ⟨_, op_in_sign.or (op_in_seq.or ((op_inD (by omega)).or ((op_inDict hu).or (op_inN hu)))), fun x y H Q d1 d2 k f1 f2 r1 r2 e q => ?_⟩
  rcases opIn_some e with ⟨x, z, rfl, rfl, c, rfl⟩ | ⟨x, ys, rfl, hb, c1, c2, rfl⟩ | ⟨x, ys, rfl, hb, c1, c2, rfl⟩ | ⟨x, kvs, key, rfl, hb, hk, rfl⟩ | ⟨x, kvs, key, rfl, rfl, hk, rfl⟩
  · refine .inl ⟨x.cps.getD 0 0, z, ?_, r2.ofp.str, q⟩
    rw [r1.ofp.str]
    obtain ⟨⟨l⟩⟩ := x
    match l, c with
    | [w], _ => rfl
  · rcases hb with rfl | hb
    · obtain ⟨a, vs, rfl, h1, s1⟩ := r2.ofp.tuple
      exact .inr (.inl ⟨a, vs, rfl, .inr h1.sq, r1.ofp.flat c1, s1.flats c2, by rw [if_neg Bool.false_ne_true, s1.inFlat c1 r1.ofp c2]; exact q⟩)
    · obtain ⟨a, vs, rfl, h1, s1, _⟩ := r2.seq hb
      exact .inr (.inl ⟨a, vs, rfl, .inl (hK ▸ h1), r1.ofp.flat c1, s1.flats c2, by rw [if_neg Bool.false_ne_true, s1.inFlat c1 r1.ofp c2]; exact q⟩)
  · obtain ⟨a, vs, rfl, h1, s1, _⟩ := r2.seq hb
    exact .inr (.inr (.inl ⟨x, ys, hK ▸ RP.dp _ _ r1.ofp (shaped_lay c1), .lst (hK ▸ h1) (hK ▸ RPs.dp _ _ s1 (by simpa [PyData.canLay0] using shaped_lay c2)), c1, c2, q⟩))
  · obtain ⟨a, kw, rfl, h1, s1⟩ := r2.dict hb
    obtain ⟨o, g, h2, _⟩ := dict_tell h1 s1 r1.ofp hk
    exact .inr (.inr (.inr (.inl ⟨a, o, rfl, g, by rw [h2]; exact q⟩)))
  · obtain ⟨a, xs, rfl, h1, s1, _⟩ := r2
    obtain ⟨b, rfl⟩ := keyT_ref hk r1.ofp
    exact .inr (.inr (.inr (.inr ⟨a, b, kvs, xs, x, key, rfl, rfl, hw ▸ h1, s1, hk, r1.ofp, q⟩)))
theorem nin_ok (hK : X.K = G.K) (hu : X.A.units + 66 < cLine) (hw : G.Cl.w = X.w) : COk X G .NotIn (fun a b => (opIn a b).map (!·)) := by
  refine ⟨_, op_notIn_sign.or (op_notIn_seq.or ((op_notInD (by omega)).or ((op_ninDict hu).or (op_ninN hu)))), fun x y H Q d1 d2 k f1 f2 r1 r2 e q => ?_⟩
  obtain ⟨k', e', rfl⟩ := Option.map_eq_some_iff.mp e
  rcases opIn_some e' with ⟨x, z, rfl, rfl, c, rfl⟩ | ⟨x, ys, rfl, hb, c1, c2, rfl⟩ | ⟨x, ys, rfl, hb, c1, c2, rfl⟩ | ⟨x, kvs, key, rfl, hb, hk, rfl⟩ | ⟨x, kvs, key, rfl, rfl, hk, rfl⟩
  · refine .inl ⟨x.cps.getD 0 0, z, ?_, r2.ofp.str, q⟩
    rw [r1.ofp.str]
    obtain ⟨⟨l⟩⟩ := x
    match l, c with
    | [w], _ => rfl
  · rcases hb with rfl | hb
    · obtain ⟨a, vs, rfl, h1, s1⟩ := r2.ofp.tuple
      exact .inr (.inl ⟨a, vs, rfl, .inr h1.sq, r1.ofp.flat c1, s1.flats c2, by rw [if_pos rfl, s1.inFlat c1 r1.ofp c2]; exact q⟩)
    · obtain ⟨a, vs, rfl, h1, s1, _⟩ := r2.seq hb
      exact .inr (.inl ⟨a, vs, rfl, .inl (hK ▸ h1), r1.ofp.flat c1, s1.flats c2, by rw [if_pos rfl, s1.inFlat c1 r1.ofp c2]; exact q⟩)
  · obtain ⟨a, vs, rfl, h1, s1, _⟩ := r2.seq hb
    exact .inr (.inr (.inl ⟨x, ys, hK ▸ RP.dp _ _ r1.ofp (shaped_lay c1), .lst (hK ▸ h1) (hK ▸ RPs.dp _ _ s1 (by simpa [PyData.canLay0] using shaped_lay c2)), c1, c2, q⟩))
  · obtain ⟨a, kw, rfl, h1, s1⟩ := r2.dict hb
    obtain ⟨o, g, h2, _⟩ := dict_tell h1 s1 r1.ofp hk
    exact .inr (.inr (.inr (.inl ⟨a, o, rfl, g, by rw [h2]; exact q⟩)))
  · obtain ⟨a, xs, rfl, h1, s1, _⟩ := r2
    obtain ⟨b, rfl⟩ := keyT_ref hk r1.ofp
    exact .inr (.inr (.inr (.inr ⟨a, b, kvs, xs, x, key, rfl, rfl, hw ▸ h1, s1, hk, r1.ofp, q⟩)))
theorem cmpP_some {f : Int → Int → Bool} {a b : D} {k : Bool} (h : cmpP f a b = some k) : (∃ i j, a = .p (.int i) ∧ b = .p (.int j) ∧ k = f i j) ∨ ∃ i j i' j', a = .p (.tuple [.int i, .int j]) ∧ b = .p (.tuple [.int i', .int j']) ∧ k = if i = i' then f j j' else f i i' := by
  unfold cmpP at h
  cases hk : cmpI f a b with
  | some k' =>
    rw [hk] at h
    cases h
    exact .inl (cmpI_some hk)
  | none =>
    rw [hk] at h
    have q : ∀ (z : P) (w : Int × Int), pr2 z = some w → z = .tuple [.int w.1, .int w.2] := fun z w hz => by
      unfold pr2 at hz
      split at hz
      · cases hz; rfl
      · cases hz
    cases a with
    | p x =>
      cases b with
      | p y =>
        simp only at h
        cases hu : pr2 x with
        | none => rw [hu] at h; cases h
        | some u =>
          rw [hu] at h
          simp only at h
          cases hv : pr2 y with
          | none => rw [hv] at h; cases h
          | some v =>
            rw [hv] at h
            cases h
            exact .inr ⟨_, _, _, _, by rw [q _ _ hu], by rw [q _ _ hv], rfl⟩
      | _ => cases h
    | _ => cases h
/-- pairs of whole numbers, by the order op -/
def rPr (K : PySem.W.Frag) (f : Int → Int → Bool) : R2 := fun x y H Q => ∃ (a b : Addr) (i j i' j' : Int), x = .ref a ∧ y = .ref b ∧ SqT K H a [.int i, .int j] ∧ SqT K H b [.int i', .int j'] ∧ Q (.bl (if i = i' then f j j' else f i i')) H
theorem lex_two (e r : Nat → Bool) (z : Bool) : Ob.lexAt e r z 0 2 = if e 0 = true then (if e 1 = true then z else r 1) else r 0 := rfl
theorem op_leP (hu : X.A.units < cLine) : OpR X (compareOp .LtE) (rPr X.K fun i j => decide (i ≤ j)) := fun pins s σ H x y v u Q I rx ry ⟨a, b, i, j, i', j', e1, e2, ha, hb, q⟩ => by
  refine op_leT hu pins s σ H x y v u Q I rx ry ⟨a, b, [i, j], [i', j'], e1, e2, ha, hb, ?_⟩
  have z : Ob.lexAt (fun k => decide ([i, j].getD k 0 = [i', j'].getD k 0)) (fun k => decide ([i, j].getD k 0 ≤ [i', j'].getD k 0)) (decide ([i, j].length ≤ [i', j'].length)) 0 (min [i, j].length [i', j'].length) = if i = i' then decide (j ≤ j') else decide (i ≤ i') := by
    show Ob.lexAt _ _ _ 0 2 = _
    rw [lex_two]
    show (if decide (i = i') = true then (if decide (j = j') = true then true else decide (j ≤ j')) else decide (i ≤ i')) = _
    by_cases h1 : i = i' <;> by_cases h2 : j = j' <;> simp [h1, h2]
  rw [z]
  exact q
theorem op_gtP (hu : X.A.units < cLine) : OpR X (compareOp .Gt) (rPr X.K fun i j => decide (j < i)) := fun pins s σ H x y v u Q I rx ry ⟨a, b, i, j, i', j', e1, e2, ha, hb, q⟩ => by
  subst e1 e2
  cases rx
  cases ry
  obtain ⟨xs, v1, p1, _⟩ := I.tuple ha
  obtain ⟨ys, v2, p2, _⟩ := I.tuple hb
  have two : ∀ {m n : Int} {zs : List Value}, Vals [.int m, .int n] zs → ∃ t t', zs = [.int m t, .int n t'] := fun h => by
    cases h with
    | cons h1 h =>
      cases h with
      | cons h2 h =>
        cases h
        obtain ⟨t, rfl⟩ := h1
        obtain ⟨t', rfl⟩ := h2
        exact ⟨t, t', rfl⟩
  obtain ⟨t1, t2, rfl⟩ := two v1
  obtain ⟨t3, t4, rfl⟩ := two v2
  have ii : ∀ (m n : Int) (t t' : Tok), SeqAt.EqAt X.A.in1 s (.int m t) (.int n t') (decide (m = n)) := fun m n t t' => by
    have : (m == n) = decide (m = n) := by by_cases h : m = n <;> simp [h]
    rw [← this]
    exact SeqAt.EqAt.int_int _ _ _ _
  have W := Ob.RcOp.tuples_gt (A := X.A) (s := s) (e := fun k => if k = 0 then decide (i = i') else decide (j = j')) (r := fun k => if k = 0 then decide (i' < i) else decide (j' < j)) p1 p2 hu (fun k h1 h2 => by
      match k, h1 with
      | 0, _ => exact ii i i' t1 t3
      | 1, _ => exact ii j j' t2 t4) (fun k h1 h2 _ => by
      match k, h1 with
      | 0, _ => exact Ob.RcOp.gt_int _ _ _ _
      | 1, _ => exact Ob.RcOp.gt_int _ _ _ _)
  have z : Ob.lexAt (fun k => if k = 0 then decide (i = i') else decide (j = j')) (fun k => if k = 0 then decide (i' < i) else decide (j' < j)) false 0 2 = if i = i' then decide (j' < j) else decide (i' < i) := by
    rw [lex_two]
    show (if decide (i = i') = true then (if decide (j = j') = true then false else decide (j' < j)) else decide (i' < i)) = _
    by_cases h1 : i = i' <;> by_cases h2 : j = j' <;> simp [h1, h2]
  have q' := q
  rw [← z] at q'
  exact W X.prog X.w X.xe (EP X pins σ Q) ⟨.bl _, H, I, rfl, q'⟩
theorem cmp_pr {op : CmpOp} {f : Int → Int → Bool} (hK : X.K = G.K) (ho : OpR X (compareOp op) (rI0 fun i j => .bl (f i j))) (hp : OpR X (compareOp op) (rPr X.K f)) : COk X G op (cmpP f) := by
  refine ⟨_, ho.or hp, fun x y H Q d1 d2 k f1 f2 r1 r2 e q => ?_⟩
  rcases cmpP_some e with ⟨i, j, rfl, rfl, rfl⟩ | ⟨i, j, i', j', rfl, rfl, rfl⟩
  · exact .inl ⟨i, j, r1.ofp.int, r2.ofp.int, q⟩
  · obtain ⟨a, vs, rfl, h1, s1⟩ := r1.ofp.tuple
    obtain ⟨b, ws, rfl, h2, s2⟩ := r2.ofp.tuple
    have two : ∀ {m n : Int} {zs : List V}, RPs H [.int m, .int n] zs → zs = [.int m, .int n] := fun h => by
      rw [RPs] at h
      obtain ⟨v, r, rfl, h1, h2⟩ := h
      rw [RPs] at h2
      obtain ⟨v2, r2, rfl, h3, h4⟩ := h2
      rw [RPs.nil_iff.mp h4, h1.int, h3.int]
    cases two s1
    cases two s2
    exact .inr ⟨a, b, i, j, i', j', rfl, rfl, hK ▸ h1.sq, hK ▸ h2.sq, q⟩
theorem opC_ok (hK : X.K = G.K) (hu : X.A.units + 66 < cLine) (hw : G.Cl.w = X.w) : ∀ o : COp, COk X G (pyC o) (opC o)
  | .lt => cmp_int op_lt
  | .le => cmp_pr hK op_le (op_leP (by omega))
  | .gt => cmp_pr hK op_gt (op_gtP (by omega))
  | .ge => cmp_int op_ge
  | .eq => eq_ok hK hu
  | .ne => ne_ok hK hu
  | .is => is_ok
  | .isn => isn_ok
  | .in_ => in_ok hK hu hw
  | .nin => nin_ok hK hu hw
end
end DL

/-! DL4: subscripts, built-ins, truth, methods. -/
namespace DL
open PySem PySem.Spec PyProof.Rows L2
section
variable {X : Cx} {G : Gh}

/-! ### subscripts -/
theorem ix_dict (hu : X.A.units + 66 < cLine) : IxR X (fun x y H Q => ∃ a v, x = .ref a ∧ DGet H a y (some v) ∧ Q v H) := by
  intro value slice pins s σ H x y v u Q I rx ry h hs
  obtain ⟨a, w, rfl, g, q⟩ := h
  cases rx
  exact tail_any (dict_typeIs I g) PySem.F.slot_dict_getitem.lookup (d_getItem (by omega) I g ry fun w' s3 I3 rw' => ⟨w, H, I3, rw', q⟩) hs
theorem ix_dictN (hu : X.A.units + 66 < cLine) : IxR X (fun x y H Q => ∃ (a b : Addr) (kvs : List (P × P)) (xs : List (NestedKey × Addr × V)) (k d : P) (nk : NestedKey), x = .ref a ∧ y = .ref b ∧ H a = some (.ext (rawN X.w a xs)) ∧ RN H kvs xs ∧ keyT k = some nk ∧ RP H k (.ref b) ∧ dget kvs k = some d ∧ ∀ v, RP H d v → Q v H) := by
  intro value slice pins s σ H x y v u Q I rx ry h hs
  obtain ⟨a, b, kvs, xs, k, d, nk, rfl, rfl, e, rn, hk, rk, hg, q⟩ := h
  cases rx
  cases ry
  obtain ⟨_, _, us, _, dd⟩ := raw_dict I.hok e rn
  exact tail_any dd.typeIs PySem.F.slot_dict_getitem.lookup (n_get hu I e rn hk rk hg fun w' u' s3 I3 rd rv => ⟨w', H, I3, rv, q w' rd⟩) hs
theorem RD1s.at {H : Hp} : ∀ {ds : List D1} {vs : List V} {fp : List Addr} {n : Nat} {d : D1}, RD1s H ds vs fp → ds[n]? = some d → ∃ v f, vs[n]? = some v ∧ RD1 H d v f ∧ ∀ a ∈ f, a ∈ fp
  | [], _, _, _, _, _, e => by simp at e
  | d :: ds, _, _, 0, _, h, e => by
    obtain ⟨v, r, f1, f2, rfl, q, z, rfl⟩ := h
    simp at e; subst e
    exact ⟨v, f1, rfl, q, fun a ha => List.mem_append.mpr (.inl ha)⟩
  | d :: ds, _, _, n + 1, _, h, e => by
    obtain ⟨v, r, f1, f2, rfl, q, z, rfl⟩ := h
    obtain ⟨u, f, e1, q1, hf⟩ := RD1s.at (n := n) z (by simpa using e)
    exact ⟨u, f, by simpa using e1, q1, fun a ha => List.mem_append.mpr (.inr (hf a ha))⟩
theorem RD1s.length {H : Hp} : ∀ {ds : List D1} {vs : List V} {fp : List Addr}, RD1s H ds vs fp → vs.length = ds.length
  | [], _, _, h => by rw [h.1]; rfl
  | d :: ds, _, _, h => by
    obtain ⟨v, r, f1, f2, rfl, q, z, rfl⟩ := h
    rw [List.length_cons, List.length_cons, RD1s.length z]
theorem atI_n {α β : Type} {xs : List α} {ys : List β} {i : Int} {x : α} (hl : ys.length = xs.length) (e : atI xs i = some x) : ∃ n, ixN xs.length i = some n ∧ xs[n]? = some x ∧ ∀ y, ys[n]? = some y → atI ys i = some y := by
  unfold atI at e
  cases q : ixN xs.length i with
  | none => rw [q] at e; cases e
  | some n =>
    rw [q] at e
    exact ⟨n, rfl, e, fun y hy => by unfold atI; rw [hl, q]; exact hy⟩
theorem ix_ok (hK : X.K = G.K) (hu : X.A.units + 66 < cLine) (hw : G.Cl.w = X.w) : ∃ r, IxR X r ∧ ∀ x y H Q d1 d2 p f1 f2, RD G.K G.Cl H d1 x f1 → RD G.K G.Cl H d2 y f2 → opIx d1 d2 = some p → (∀ v, RP H p v → Q v H) → r x y H Q := by
  refine ⟨_, ix_list.or (ix_tup.or (ix_str.or ((ix_dict hu).or (ix_dictN hu)))), fun x y H Q d1 d2 p f1 f2 r1 r2 e q => ?_⟩
  have seq : ∀ {xs : List P} {a : Addr} {vs : List V} {j : Int}, SqL G.K H a vs → RPs H xs vs → RD G.K G.Cl H (.p (.int j)) y f2 → atI xs j = some p → rIxL X.K (.ref a) y H Q := fun {xs a vs j} h1 s1 r2 e => by
    obtain ⟨v, e1, q1⟩ := s1.atI e
    exact ⟨a, vs, j, v, rfl, r2.ofp.int, hK ▸ h1, e1, q v q1⟩
  have dic : ∀ {kvs : List (P × P)} {k : P}, dicD d1 = some kvs → RD G.K G.Cl H (.p k) y f2 → (if (keyP k).isSome = true then dget kvs k else none) = some p → ∃ a v, x = .ref a ∧ DGet H a y (some v) ∧ Q v H := fun {kvs k} hd r2 e => by
    split at e
    · rename_i hk
      obtain ⟨key, hk⟩ := Option.isSome_iff_exists.mp hk
      obtain ⟨a, kw, rfl, h1, s1⟩ := r1.dict hd
      obtain ⟨o, g, _, h3⟩ := dict_tell h1 s1 r2.ofp hk
      obtain ⟨u, rfl, q1⟩ := h3 p e
      exact ⟨a, u, rfl, g, q u q1⟩
    · cases e
  unfold opIx at e
  split at e
  · split at e
    · obtain ⟨a, vs, rfl, h1, s1⟩ := r1.ofp.tuple
      obtain ⟨v, e1, q1⟩ := s1.atI e
      exact .inr (.inl ⟨a, vs, _, v, rfl, r2.ofp.int, h1.sq, e1, q v q1⟩)
    · cases e
  · split at e
    · obtain ⟨a, vs, rfl, h1, s1⟩ := r1.ofp.list
      exact .inl (seq h1.sq s1 r2 e)
    · cases e
  · split at e
    · obtain ⟨a, vs, rfl, h1, s1, _⟩ := r1
      exact .inl (seq (SqL.of h1) s1 r2 e)
    · cases e
  · split at e
    · obtain ⟨a, vs, rfl, h1, s1, _⟩ := r1
      exact .inl (seq (h1.elim (fun q => q.sq) .inr) s1 r2 e)
    · cases e
  · split at e
    · split at e
      · rename_i hx
        cases e
        obtain ⟨a, vs, f, rfl, h1, s1, _⟩ := r1
        obtain ⟨n, _, hn, hv⟩ := atI_n s1.length hx
        obtain ⟨v, f', e1, q1, _⟩ := s1.at hn
        exact .inl ⟨a, vs, _, v, rfl, r2.ofp.int, SqL.of h1, hv v e1, q v q1.1⟩
      · cases e
    · cases e
  · split at e
    · split at e
      · rename_i hz
        obtain ⟨c, e1, rfl⟩ := Option.map_eq_some_iff.mp e
        exact .inr (.inr (.inl ⟨_, _, c, r1.ofp.str, r2.ofp.int, hz, e1, q _ (by rw [RP])⟩))
      · cases e
    · cases e
  · split at e
    · exact .inr (.inr (.inr (.inl (dic rfl r2 e))))
    · cases e
  · split at e
    · exact .inr (.inr (.inr (.inl (dic rfl r2 e))))
    · cases e
  · split at e
    · split at e
      · rename_i hk
        obtain ⟨nk, hk⟩ := Option.isSome_iff_exists.mp hk
        obtain ⟨a, xs, rfl, h1, s1, _⟩ := r1
        obtain ⟨b, rfl⟩ := keyT_ref hk r2.ofp
        exact .inr (.inr (.inr (.inr ⟨a, b, _, xs, _, p, nk, rfl, rfl, hw ▸ h1, s1, hk, r2.ofp, e, q⟩)))
      · cases e
    · cases e
  · cases e

/-! ### slices -/
theorem sl_ok (hK : X.K = G.K) : ∃ r, SlR X r ∧ ∀ x lo hi H Q d1 d f1, RD G.K G.Cl H d1 x f1 → opSl d1 lo hi = some d → Fresh G d H Q → r x lo hi H Q := by
  refine ⟨_, sl_str.or (sl_tupF.or sl_list), fun x lo hi H Q d1 d f1 r1 e q => ?_⟩
  unfold opSl at e
  split at e
  · split at e
    · rename_i hz; cases e
      exact .inl ⟨_, r1.ofp.str, hz, q.p (by rw [RP])⟩
    · cases e
  · cases e
    obtain ⟨a, vs, rfl, h1, s1⟩ := r1.ofp.tuple
    refine .inr (.inl ⟨a, vs, rfl, h1.sq, fun ev => ?_, fun p o n hd => q.tup n (s1.cut lo hi) hd⟩)
    refine q.p ?_
    rw [RP]
    have s2 := s1.cut lo hi
    rw [ev] at s2
    exact ⟨a, vs, rfl, h1, s2⟩
  · cases e
    obtain ⟨a, vs, rfl, h1, s1⟩ := r1.ofp.list
    exact .inr (.inr ⟨a, vs, rfl, h1.sq, fun p n => q.ml n (s1.cut lo hi)⟩)
  · cases e
    obtain ⟨a, vs, rfl, h1, s1, _⟩ := r1
    exact .inr (.inr ⟨a, vs, rfl, SqL.of h1, fun p n => q.ml n (s1.cut lo hi)⟩)
  · cases e

/-! ### built-ins of one argument -/
def pyF : B1 → Value
  | .len => .builtin "len" | .tuple => .type "tuple" | .list => .type "list" | .int => .type "int" | .any => .builtin "any" | .all => .builtin "all" | .lenset => .none
theorem RPs.bools {H : Hp} : ∀ {xs : List P} {vs : List V} {bs : List Bool}, RPs H xs vs → boolsP xs = some bs → vs = bs.map V.bl
  | [], _, _, r, e => by rw [RPs] at r; subst r; cases e; rfl
  | x :: xs, _, bs, r, e => by
    rw [RPs] at r
    obtain ⟨v, t, rfl, q, z⟩ := r
    cases x with
    | bool b =>
      obtain ⟨cs, e1, rfl⟩ := Option.map_eq_some_iff.mp (show (boolsP xs).map (b :: ·) = some bs from e)
      rw [q.bool, RPs.bools z e1]; rfl
    | _ => cases e
theorem call_lenDict : CallR X (.builtin "len") (fun xs H Q => ∃ a kw, xs = [.ref a] ∧ Rd H a (.dK kw) ∧ Q (.int kw.length) H) := by
  intro pins s σ H xs us Q I r h
  obtain ⟨a, kw, rfl, g, q⟩ := h
  obtain ⟨u, rfl, rx⟩ := vals1 r
  cases rx
  exact d_len I g fun t s' I' => ⟨.int kw.length, H, I', ⟨t, rfl⟩, q⟩
theorem call_lenN : CallR X (.builtin "len") (fun ys H Q => ∃ (a : Addr) (kvs : List (P × P)) (xs : List (NestedKey × Addr × V)), ys = [.ref a] ∧ H a = some (.ext (rawN X.w a xs)) ∧ RN H kvs xs ∧ Q (.int kvs.length) H) := by
  intro pins s σ H xs us Q I r h
  obtain ⟨a, kvs, xs, rfl, e, rn, q⟩ := h
  obtain ⟨u, rfl, rx⟩ := vals1 r
  cases rx
  exact n_len I e rn fun t s' I' => ⟨.int kvs.length, H, I', ⟨t, rfl⟩, q⟩
theorem b1_ok (hK : X.K = G.K) (hw : G.Cl.w = X.w) (f : B1) (hc : (f = .any ∨ f = .all) → X.calm = true) : ∃ r, CallR X (pyF f) r ∧ ∀ x H Q d1 d f1, RD G.K G.Cl H d1 x f1 → opB1 f d1 = some d → Fresh G d H Q → r [x] H Q := by
  cases f with
  | len =>
    refine ⟨_, call_len_str.or (call_len_seq.or (call_lenDict.or call_lenN)), fun x H Q d1 d f1 r1 e q => ?_⟩
    simp only [opB1] at e
    split at e
    · split at e
      · rename_i hz; cases e
        exact .inl ⟨_, by rw [r1.ofp.str], hz, q.p (by rw [RP])⟩
      · cases e
    · cases e
      obtain ⟨a, vs, rfl, h1, s1⟩ := r1.ofp.tuple
      exact .inr (.inl ⟨a, vs, rfl, .inr h1.sq, q.p (by rw [RP, s1.length])⟩)
    · cases e
      obtain ⟨a, vs, rfl, h1, s1⟩ := r1.ofp.list
      exact .inr (.inl ⟨a, vs, rfl, .inl h1.sq, q.p (by rw [RP, s1.length])⟩)
    · cases e
      obtain ⟨a, vs, rfl, h1, s1, _⟩ := r1
      exact .inr (.inl ⟨a, vs, rfl, .inl (SqL.of h1), q.p (by rw [RP, s1.length])⟩)
    · cases e
      obtain ⟨a, vs, rfl, h1, s1, _⟩ := r1
      exact .inr (.inl ⟨a, vs, rfl, .inl (hK ▸ (h1.elim (fun q => q.sq) .inr : SqL G.K H a vs)), q.p (by rw [RP, s1.length])⟩)
    · cases e
      obtain ⟨a, vs, f, rfl, h1, s1, _⟩ := r1
      exact .inr (.inl ⟨a, vs, rfl, .inl (SqL.of h1), q.p (by rw [RP, s1.length])⟩)
    · cases e
      obtain ⟨a, kw, rfl, h1, s1⟩ := r1.dict rfl
      exact .inr (.inr (.inl ⟨a, kw, rfl, h1, q.p (by rw [RP, s1.length])⟩))
    · rename_i t kvs
      cases e
      cases t with
      | false =>
        obtain ⟨a, kw, rfl, h1, s1⟩ := r1.dict rfl
        exact .inr (.inr (.inl ⟨a, kw, rfl, h1, q.p (by rw [RP, s1.length])⟩))
      | true =>
        obtain ⟨a, xs, rfl, h1, s1, _⟩ := r1
        exact .inr (.inr (.inr ⟨a, kvs, xs, rfl, hw ▸ h1, s1, q.p (by rw [RP])⟩))
    · cases e
  | tuple =>
    refine ⟨_, call_tupF, fun x H Q d1 d f1 r1 e q => ?_⟩
    simp only [opB1] at e
    split at e
    · cases e
      obtain ⟨a, vs, rfl, h1, s1⟩ := r1.ofp.tuple
      exact ⟨a, vs, rfl, .inr ⟨h1.sq, q.p r1.ofp⟩⟩
    · cases e
      obtain ⟨a, vs, rfl, h1, s1⟩ := r1.ofp.list
      exact ⟨a, vs, rfl, .inl ⟨h1.sq, fun p o n hd => q.tup n s1 hd⟩⟩
    · cases e
      obtain ⟨a, vs, rfl, h1, s1, _⟩ := r1
      exact ⟨a, vs, rfl, .inl ⟨SqL.of h1, fun p o n hd => q.tup n s1 hd⟩⟩
    · cases e
  | list =>
    refine ⟨_, call_list_of, fun x H Q d1 d f1 r1 e q => ?_⟩
    simp only [opB1] at e
    split at e
    · cases e
      obtain ⟨a, vs, rfl, h1, s1⟩ := r1.ofp.tuple
      exact ⟨a, vs, rfl, .inr h1.sq, fun p n => q.ml n s1⟩
    · cases e
      obtain ⟨a, vs, rfl, h1, s1⟩ := r1.ofp.list
      exact ⟨a, vs, rfl, .inl h1.sq, fun p n => q.ml n s1⟩
    · cases e
      obtain ⟨a, vs, rfl, h1, s1, _⟩ := r1
      exact ⟨a, vs, rfl, .inl (SqL.of h1), fun p n => q.ml n s1⟩
    · cases e
  | int =>
    refine ⟨_, call_int1, fun x H Q d1 d f1 r1 e q => ?_⟩
    simp only [opB1] at e
    split at e
    · cases e
      exact .inl ⟨_, by rw [r1.ofp.int], q.p (by rw [RP])⟩
    · cases e
      exact .inr ⟨_, by rw [r1.ofp.bool], q.p (by rw [RP])⟩
    · cases e
  | any =>
    refine ⟨_, cr_any (hc (.inl rfl)), fun x H Q d1 d f1 r1 e q => ?_⟩
    simp only [opB1] at e
    split at e
    · rename_i hs
      obtain ⟨bs, e1, rfl⟩ := Option.map_eq_some_iff.mp e
      obtain ⟨a, vs, rfl, h1, s1, _⟩ := r1.seq hs
      have := s1.bools e1
      subst this
      exact ⟨a, bs, rfl, hK ▸ h1, q.p (by rw [RP])⟩
    · cases e
  | all =>
    refine ⟨_, cr_all (hc (.inr rfl)), fun x H Q d1 d f1 r1 e q => ?_⟩
    simp only [opB1] at e
    split at e
    · rename_i hs
      obtain ⟨bs, e1, rfl⟩ := Option.map_eq_some_iff.mp e
      obtain ⟨a, vs, rfl, h1, s1, _⟩ := r1.seq hs
      have := s1.bools e1
      subst this
      exact ⟨a, bs, rfl, hK ▸ h1, q.p (by rw [RP])⟩
    · cases e
  | lenset => exact ⟨fun _ _ _ => False, fun _ _ _ _ _ _ _ _ _ h => h.elim, fun x H Q d1 d f1 r1 e q => nomatch e⟩
theorem call_max3 (hc : X.calm = true) : CallR X (.builtin "max") (fun xs H Q => ∃ i j k, xs = [.int i, .int j, .int k] ∧ Q (.int (if k > (if j > i then j else i) then k else (if j > i then j else i))) H) := by
  intro pins s σ H xs us Q I r h
  obtain ⟨i, j, k, rfl, q⟩ := h
  cases r with
  | cons r1 r =>
    obtain ⟨u, w', rfl, ⟨t, rfl⟩, ⟨t', rfl⟩⟩ := vals2 r
    obtain ⟨t0, rfl⟩ := r1
    refine max_three_ints (I.ok.hd hc) fun h' tk kk => ⟨_, H, I.kept kk, ?_, q⟩
    by_cases hj : j > i <;> simp only [hj, if_true, if_false] <;> split <;> exact ⟨_, rfl⟩

/-! ### truth -/
theorem tru_ok' (hK : X.K = G.K) : ∃ r, TruR X r ∧ ∀ x H Q d1 k f1, RD G.K G.Cl H d1 x f1 → truth d1 = some k → Q k H → r x H Q := by
  refine ⟨_, tru_ok, fun x H Q d1 k f1 r1 e q => ⟨k, ?_, q⟩⟩
  unfold truth at e
  split at e
  · cases e; rw [r1.ofp.none]; rfl
  · cases e; rw [r1.ofp.bool]; rfl
  · cases e; rw [r1.ofp.int]; rfl
  · split at e
    · rename_i hz; cases e; rw [r1.ofp.str]
      refine ⟨hz, ?_⟩
      rw [Bool.eq_iff_iff]; simp
    · cases e
  · cases e
    obtain ⟨a, vs, rfl, h1, s1⟩ := r1.ofp.tuple
    refine .inr (.inl ⟨vs, h1.sq, ?_⟩)
    have := s1.length
    cases vs <;> cases ‹List P› <;> simp_all
  · cases e
    obtain ⟨a, vs, rfl, h1, s1⟩ := r1.ofp.list
    refine .inl ⟨vs, h1.sq, ?_⟩
    have := s1.length
    cases vs <;> cases ‹List P› <;> simp_all
  · cases e
    obtain ⟨a, vs, rfl, h1, s1, _⟩ := r1
    refine .inl ⟨vs, SqL.of h1, ?_⟩
    have := s1.length
    cases vs <;> cases ‹List P› <;> simp_all
  · cases e
end
end DL

/-! DL5: methods that read; what changes an owned thing. -/
namespace DL
open PySem PySem.Spec PyProof.Rows L2
section
variable {X : Cx} {G : Gh}

/-! ### a tuple's index -/
theorem RPs.idx {H : Hp} {x : P} {y : V} (hx : isFlat x = true) (ry : RP H x y) : ∀ {xs : List P} {vs : List V} {n : Nat}, xs.all isFlat = true → RPs H xs vs → idxP x xs = some n →
    ∃ z, vs[n]? = some z ∧ eqV z y = true ∧ ∀ m z', m < n → vs[m]? = some z' → eqV z' y = false
  | [], _, _, _, _, e => by cases e
  | a :: xs, _, n, h, r, e => by
    rw [RPs] at r
    obtain ⟨v, t, rfl, q, z⟩ := r
    rw [List.all_cons, Bool.and_eq_true] at h
    unfold idxP at e
    split at e
    · rename_i ha
      cases e
      exact ⟨v, rfl, by rw [q.eqFlat h.1 hx ry]; exact decide_eq_true ha, fun m z' hm => by omega⟩
    · rename_i ha
      obtain ⟨n', e1, rfl⟩ := Option.map_eq_some_iff.mp e
      obtain ⟨w, h1, h2, h3⟩ := RPs.idx hx ry h.2 z e1
      refine ⟨w, h1, h2, fun m z' hm hz => ?_⟩
      cases m with
      | zero => cases hz; rw [q.eqFlat h.1 hx ry]; exact decide_eq_false ha
      | succ m => exact h3 m z' (by omega) hz
theorem mt_idx : MtR X "tuple.index" (fun x xs H Q => ∃ p vs y j z, x = .ref p ∧ xs = [y] ∧ SqT X.K H p vs ∧ flatV y = true ∧ vs.all flatV = true ∧ vs[j]? = some z ∧ eqV z y = true ∧ (∀ m z', m < j → vs[m]? = some z' → eqV z' y = false) ∧ Q (.int (j : Nat)) H) := by
  intro pins s σ H x xs v us Q I rx rs h
  obtain ⟨p, vs, y, j, z, rfl, rfl, hq, fy, fs, hy, he, hno, q⟩ := h
  cases rx
  obtain ⟨u, rfl, ru⟩ := vals1 rs
  obtain ⟨its, r, pl, hz⟩ := I.tuple hq
  obtain ⟨⟨cls, dd, dt, sl⟩, ho, hc, n, hd⟩ := pl
  simp only at hc hd
  subst hc
  subst hd
  have hl : its.toArray.size = vs.length := by rw [List.size_toArray, ← r.length]
  have hj : j < its.toArray.size := by rw [hl]; exact (List.getElem?_eq_some_iff.mp hy).1
  have at' : ∀ (m : Nat) (hm : m < its.toArray.size), ∃ w, vs[m]? = some w ∧ RelV w its.toArray[m] := fun m hm => by
    have hm' : m < vs.length := by rw [← hl]; exact hm
    obtain ⟨w, hw, hw'⟩ := r.get (i := m) (x := vs[m]) (by simp [hm'])
    refine ⟨vs[m], List.getElem?_eq_getElem hm', ?_⟩
    have e := (List.getElem?_eq_some_iff.mp hw).2
    rw [← e] at hw'
    simpa using hw'
  refine call_meets PySem.F.slot_tuple_index ⟨_, ho, rfl⟩ PySem.F.entry_tuple_index (PySem.F.args_tuple_index_2 _ _) (TI.tuple_indexAt p its.toArray n dd sl u (eqU y) j hj ?_ ?_)
    ⟨ho, fun w hw => mem_eqAt ru fy r fs w (by simpa using hw), ⟨.int (j : Nat), H, I.tok _, ⟨_, rfl⟩, q⟩⟩
  · obtain ⟨w, h1, h2⟩ := at' j hj
    rw [hy] at h1
    cases h1
    rw [eqU_of h2 (flat_at fs hy)]
    exact he
  · intro m hm hmj
    obtain ⟨w, h1, h2⟩ := at' m hm
    rw [eqU_of h2 (flat_at fs h1)]
    exact hno m w hmj h1
/-- t.index(x), t made here -/
theorem pe_idx {o e : Expr} {to : TE} {t : TA} {apos cpos : Pos} {r : V → List V → Hp → VK → Prop} (hm : MtR X "tuple.index" r) (ho : PE X o to) (ha : PA X [e] t)
    (hbase : attributeBase o "index" X.env (eval o X.env) = eval o X.env)
    (hfew : ((backTo cpos (starEach [e] X.env)).all (fun x => !x.1) && (backToKw cpos (keywordEach [] X.env)).all (fun x => x.1.isSome)
      && decide (([e] : List Expr).length + ([] : List Keyword).length + (if ([] : List Keyword).isEmpty then 0 else 1) < 30)) = true)
    (hline : (apos.endLine == cpos.line) = true) (hs : starEach [e] X.env = (false, eval e X.env) :: starEach [] X.env) :
    PE X (.Call (.Attribute o "index" apos) [e] [] cpos) (fun σ H Q => to σ H fun x H1 => (∃ a xs, x = .ref a ∧ TuF H1 a xs) ∧ t σ H1 fun xs H2 => r x xs H2 Q) := by
  refine ⟨fun pins s σ H Q I h => ?_⟩
  refine wpAny_Call_method_late hbase hfew hline rfl (thn (ho.run pins s σ H _ I h) fun v s1 ⟨x, H1, I1, r1, ty, q1⟩ => ?_)
  obtain ⟨a, xs, rfl, ob, h1, hd⟩ := ty
  cases r1
  obtain ⟨e1, _, _, _, o2, e2, hc, _⟩ := I1.hok a _ h1
  rw [e1] at e2
  cases e2
  have hA := ha.run cpos pins s1 σ H1 _ I1 q1
  rw [hs] at hA
  refine ⟨"tuple", _, PySem.F.plainAttrs_tuple, PySem.F.slot_tuple_index, PySem.F.type_tuple_index, ⟨ob, e1, hc⟩, fun b q => ?_, ?_⟩
  · cases q
    exact ⟨ob, e1, hd⟩
  · rw [hs]
    refine Calls.callWith_builtin (by rfl) (Calls.evalArgs_plain ?_)
    exact thn hA fun us s2 ⟨vs, H2, I2, r2, q2⟩ => hm pins s2 σ H2 (.ref a) vs _ us Q I2 rfl r2 q2
theorem idx_ok : ∃ r, MtR X "tuple.index" r ∧ ∀ x y H Q d1 d2 d f1 f2, RD G.K G.Cl H d1 x f1 → RD G.K G.Cl H d2 y f2 → rdIndex d1 d2 = some d → Fresh G d H Q → (∃ a xs, x = .ref a ∧ TuF H a xs) ∧ r x [y] H Q := by
  refine ⟨_, mt_idx, fun x y H Q d1 d2 d f1 f2 r1 r2 e q => ?_⟩
  unfold rdIndex at e
  split at e
  · split at e
    · rename_i c
      obtain ⟨n, e1, rfl⟩ := Option.map_eq_some_iff.mp e
      obtain ⟨a, vs, rfl, h1, s1⟩ := r1.ofp.tuple
      obtain ⟨z, h2, h3, h4⟩ := s1.idx c.1 r2.ofp c.2 e1
      exact ⟨⟨a, vs, rfl, h1⟩, a, vs, y, n, z, rfl, rfl, h1.sq, r2.ofp.flat c.1, s1.flats c.2, h2, h3, h4, q.p (by rw [RP])⟩
    · cases e
  · cases e

/-! ### how often a list has a thing -/
theorem RPs.cnt {H : Hp} {x : P} {y : V} (hx : isFlat x = true) (ry : RP H x y) : ∀ {xs : List P} {vs : List V}, xs.all isFlat = true → RPs H xs vs → vs.countP (fun z => eqV z y) = cntP x xs
  | [], _, _, r => by rw [RPs] at r; subst r; rfl
  | a :: xs, _, h, r => by
    rw [RPs] at r
    obtain ⟨v, t, rfl, q, z⟩ := r
    rw [List.all_cons, Bool.and_eq_true] at h
    unfold cntP
    rw [List.countP_cons, List.countP_cons, RPs.cnt hx ry h.2 z, q.eqFlat h.1 hx ry]
    rfl
theorem cntU {y : V} {u : Value} : ∀ {vs : List V} {its : List Value}, Vals vs its → vs.all flatV = true → its.countP (eqU y) = vs.countP (fun z => eqV z y)
  | _, _, .nil, _ => rfl
  | v :: vs, w :: its, .cons r t, h => by
    rw [List.all_cons, Bool.and_eq_true] at h
    rw [List.countP_cons, List.countP_cons, cntU (u := u) t h.2, eqU_of r h.1]
theorem mt_cntF : MtR X "list.count" (fun x xs H Q => ∃ p vs y, x = .ref p ∧ xs = [y] ∧ SqL X.K H p vs ∧ flatV y = true ∧ vs.all flatV = true ∧ Q (.int (vs.countP (fun z => eqV z y) : Nat)) H) := by
  intro pins s σ H x xs v us Q I rx rs h
  obtain ⟨p, vs, y, rfl, rfl, hq, fy, fs, q⟩ := h
  cases rx
  obtain ⟨u, rfl, ru⟩ := vals1 rs
  obtain ⟨its, r, ⟨⟨cls, dd, dt, sl⟩, n, ho, hc, hdn, hd⟩, hlen⟩ := I.list hq
  simp only at hc hd
  subst hc
  subst hd
  refine call_meets PySem.F.slot_list_count ⟨_, ho, rfl⟩ PySem.F.entry_list_count (PySem.F.args_list_count_2 _ _) (SeqAt.list_countAt p its.toArray n dd sl u (eqU y))
    ⟨ho, fun w hw => mem_eqAt ru fy r fs w (by simpa using hw), ⟨.int (vs.countP (fun z => eqV z y) : Nat), H, I.tok _, ⟨s.toks, ?_⟩, q⟩⟩
  have e : its.toArray.toList.countP (eqU y) = vs.countP (fun z => eqV z y) := cntU (u := u) r fs
  rw [e]
/-- l.count(x), l made here -/
theorem pe_cnt {o e : Expr} {to : TE} {t : TA} {apos cpos : Pos} {r : V → List V → Hp → VK → Prop} (hm : MtR X "list.count" r) (ho : PE X o to) (ha : PA X [e] t)
    (hbase : attributeBase o "count" X.env (eval o X.env) = eval o X.env)
    (hfew : ((backTo cpos (starEach [e] X.env)).all (fun x => !x.1) && (backToKw cpos (keywordEach [] X.env)).all (fun x => x.1.isSome)
      && decide (([e] : List Expr).length + ([] : List Keyword).length + (if ([] : List Keyword).isEmpty then 0 else 1) < 30)) = true)
    (hline : (apos.endLine == cpos.line) = true) (hs : starEach [e] X.env = (false, eval e X.env) :: starEach [] X.env) :
    PE X (.Call (.Attribute o "count" apos) [e] [] cpos) (fun σ H Q => to σ H fun x H1 => (∃ a xs, x = .ref a ∧ SqF H1 a xs) ∧ t σ H1 fun xs H2 => r x xs H2 Q) := by
  refine ⟨fun pins s σ H Q I h => ?_⟩
  refine wpAny_Call_method_late hbase hfew hline rfl (thn (ho.run pins s σ H _ I h) fun v s1 ⟨x, H1, I1, r1, ty, q1⟩ => ?_)
  obtain ⟨a, xs, rfl, ob, h1⟩ := ty
  cases r1
  have hA := ha.run cpos pins s1 σ H1 _ I1 q1
  rw [hs] at hA
  obtain ⟨its, rv, ⟨o2, n, e2, hc, hdn, _⟩, _⟩ := I1.list (SqF.sq ⟨ob, h1⟩)
  refine ⟨"list", _, PySem.F.plainAttrs_list, PySem.F.slot_list_count, PySem.F.type_list_count, ⟨o2, e2, hc⟩, fun b q => ?_, ?_⟩
  · cases q
    exact ⟨o2, e2, hdn⟩
  · rw [hs]
    refine Calls.callWith_builtin (by rfl) (Calls.evalArgs_plain ?_)
    exact thn hA fun us s2 ⟨vs, H2, I2, r2, q2⟩ => hm pins s2 σ H2 (.ref a) vs _ us Q I2 rfl r2 q2
theorem cnt_ok : ∃ r, MtR X "list.count" r ∧ ∀ x y H Q d1 d2 d f1 f2, RD G.K G.Cl H d1 x f1 → RD G.K G.Cl H d2 y f2 → rdCount d1 d2 = some d → Fresh G d H Q → (∃ a xs, x = .ref a ∧ SqF H a xs) ∧ r x [y] H Q := by
  refine ⟨_, mt_cntF, fun x y H Q d1 d2 d f1 f2 r1 r2 e q => ?_⟩
  unfold rdCount at e
  split at e
  · split at e
    · rename_i c
      cases e
      obtain ⟨a, vs, rfl, h1, s1⟩ := r1.ofp.list
      refine ⟨⟨a, vs, rfl, h1⟩, a, vs, y, rfl, rfl, h1.sq, r2.ofp.flat c.1, s1.flats c.2, ?_⟩
      rw [RPs.cnt c.1 r2.ofp c.2 s1]
      exact q.p (by rw [RP])
    · cases e
  · cases e
/-! ### texts -/
theorem str2_some {a b : D} {r : Str × Str} (h : str2 a b = some r) : a = .p (.str r.1) ∧ b = .p (.str r.2) := by
  unfold str2 at h
  split at h
  · cases h; exact ⟨rfl, rfl⟩
  · cases h
theorem RPs.strs {H : Hp} : ∀ {xs : List P} {vs : List V} {bs : List Str}, RPs H xs vs → strsP xs = some bs → vs = bs.map V.str
  | [], _, _, r, e => by rw [RPs] at r; subst r; cases e; rfl
  | x :: xs, _, bs, r, e => by
    rw [RPs] at r
    obtain ⟨v, t, rfl, q, z⟩ := r
    cases x with
    | str b =>
      obtain ⟨cs, e1, rfl⟩ := Option.map_eq_some_iff.mp (show (strsP xs).map (b :: ·) = some bs from e)
      rw [q.str, RPs.strs z e1]; rfl
    | _ => cases e
theorem RPs.ofStrs {H : Hp} : ∀ (bs : List Str), RPs H (bs.map PyData.str) (bs.map V.str)
  | [] => by rw [List.map_nil, List.map_nil, RPs]
  | b :: bs => .cons (by rw [RP]) (RPs.ofStrs bs)
theorem relStr (x : Str) (t : Tok) : RelV (.str x) (.str x t) := ⟨t, rfl⟩
theorem mt_partF : MtR X "str.partition" (fun x xs H Q => ∃ a b, x = .str a ∧ xs = [.str b] ∧ (b.length == 0) = false ∧ a.length ≤ sizeLine ∧
    ∀ p o, H p = none → o.dict = none → Q (.ref p) (upd H p (.frz o (.tup [.str (Txt.partition a b).1, .str (Txt.partition a b).2.1, .str (Txt.partition a b).2.2])))) := by
  intro pins s σ H x xs v us Q I rx rs h
  obtain ⟨a, b, rfl, rfl, hb, hz, h⟩ := h
  obtain ⟨t, rfl⟩ := rx
  obtain ⟨u, rfl, t', rfl⟩ := vals1 rs
  refine call_meets F.slot_str_partition (typeIs_str _ _ _) F.entry_str_partition (F.args_str_partition_2 _ _) (meets_str_partition a b t t' hb hz) ?_
  unfold Txt.partition at h
  revert h
  have small : (3 : Nat) ≤ sizeLine := by rw [sizeLine_eq]; omega
  cases Builtin.Str.occurrences a b 0 a.length 1 with
  | nil => intro h; exact tupF_new I (.cons (relStr _ _) (.cons (relStr _ _) (.cons (relStr _ _) .nil))) small h
  | cons i r => intro h; exact tupF_new I (.cons (relStr _ _) (.cons (relStr _ _) (.cons (relStr _ _) .nil))) small h
/-- the methods of texts with one argument: the method's name in the model, its rule -/
def idM : M1 → String
  | .startswith => "str.startswith" | .find => "str.find" | .split => "str.split" | .join => "str.join" | .partition => "str.partition" | _ => "str.count"
def isStrM : M1 → Bool
  | .startswith | .find | .split | .join | .partition => true
  | _ => false
theorem txt_ok (hK : X.K = G.K) (m : M1) (hm : isStrM m = true) : ∃ r, MtR X (idM m) r ∧ ∀ x y H Q d1 d2 d f1 f2, RD G.K G.Cl H d1 x f1 → RD G.K G.Cl H d2 y f2 → read1 m d1 d2 = some d → Fresh G d H Q → tyV X.K "str" x H ∧ r x [y] H Q := by
  cases m with
  | startswith =>
    refine ⟨_, mt_startswith, fun x y H Q d1 d2 d f1 f2 r1 r2 e q => ?_⟩
    obtain ⟨r, e1, rfl⟩ := Option.map_eq_some_iff.mp e
    obtain ⟨rfl, rfl⟩ := str2_some e1
    rw [r1.ofp.str, r2.ofp.str]
    exact ⟨rfl, _, _, rfl, rfl, q.p (by rw [RP])⟩
  | find =>
    refine ⟨_, mt_find, fun x y H Q d1 d2 d f1 f2 r1 r2 e q => ?_⟩
    obtain ⟨r, e1, rfl⟩ := Option.map_eq_some_iff.mp e
    obtain ⟨rfl, rfl⟩ := str2_some e1
    rw [r1.ofp.str, r2.ofp.str]
    exact ⟨rfl, _, _, rfl, rfl, q.p (by rw [RP])⟩
  | split =>
    refine ⟨_, mt_split, fun x y H Q d1 d2 d f1 f2 r1 r2 e q => ?_⟩
    obtain ⟨r, e1, e2⟩ := Option.bind_eq_some_iff.mp e
    obtain ⟨rfl, rfl⟩ := str2_some e1
    split at e2
    · rename_i c
      cases e2
      rw [r1.ofp.str, r2.ofp.str]
      exact ⟨rfl, _, _, rfl, rfl, c.1, c.2, fun p n => q.ml n (RPs.ofStrs _)⟩
    · cases e2
  | partition =>
    refine ⟨_, mt_partF, fun x y H Q d1 d2 d f1 f2 r1 r2 e q => ?_⟩
    obtain ⟨r, e1, e2⟩ := Option.bind_eq_some_iff.mp e
    obtain ⟨rfl, rfl⟩ := str2_some e1
    split at e2
    · rename_i c
      cases e2
      rw [r1.ofp.str, r2.ofp.str]
      exact ⟨rfl, _, _, rfl, rfl, c.1, c.2, fun p o n hd => q.tup n (RPs.ofStrs [_, _, _]) hd⟩
    · cases e2
  | join =>
    refine ⟨_, mt_join, fun x y H Q d1 d2 d f1 f2 r1 r2 e q => ?_⟩
    simp only [read1] at e
    split at e
    · unfold rdJoin at e
      split at e
      · rename_i hs
        split at e
        · rename_i ht
          split at e
          · rename_i hz
            cases e
            unfold joinArg at hs
            split at hs
            · cases hs
              obtain ⟨a, vs, rfl, h1, s1⟩ := r2.ofp.tuple
              have := s1.strs ht
              subst this
              rw [r1.ofp.str]
              exact ⟨rfl, _, a, _, rfl, rfl, .inr (hK ▸ h1.sq), hz, q.p (by rw [RP])⟩
            · obtain ⟨a, vs, rfl, h1, s1, _⟩ := r2.seq hs
              have := s1.strs ht
              subst this
              rw [r1.ofp.str]
              exact ⟨rfl, _, a, _, rfl, rfl, .inl (hK ▸ h1), hz, q.p (by rw [RP])⟩
          · cases e
        · cases e
      · cases e
    · cases e
  | _ => cases hm
theorem strip_ok : ∃ r, MtR X "str.strip" r ∧ ∀ x H Q d1 d f1, RD G.K G.Cl H d1 x f1 → read0 .strip d1 = some d → Fresh G d H Q → tyV X.K "str" x H ∧ r x [] H Q := by
  refine ⟨_, mt_strip, fun x H Q d1 d f1 r1 e q => ?_⟩
  unfold read0 at e
  split at e
  · split at e
    · rename_i hz; cases e
      rw [r1.ofp.str]
      exact ⟨rfl, _, rfl, rfl, hz, q.p (by rw [RP])⟩
    · cases e
  · cases e

/-! ### what changes an owned thing -/
/-- behind a change of the thing d at v: d' is there, res comes out; it may own what d owned, and fa -/
def Chg (G : Gh) (H : Hp) (v : V) (fd fa : List Addr) (d' res : D) (Q : VK) : Prop :=
  ∀ H' rv fd' fr, RD G.K G.Cl H' d' v fd' → RD G.K G.Cl H' res rv fr → (fd' ++ fr).Nodup → (∀ b ∈ fd' ++ fr, b ∈ fd ∨ b ∈ fa) → (∀ b o, H b = some o → b ∉ fd → H' b = some o) → Imm H H' → Q rv H'
theorem imm_upd {H : Hp} {a : Addr} {o o' : HO} (h : H a = some o) (m : Mut (some o)) : Imm H (upd H a o') :=
  ⟨fun b xs e => by rw [upd_ne (fun z => by subst z; rw [h] at e; cases e; exact m)]; exact e, fun b ob u e => by rw [upd_ne (fun z => by subst z; rw [h] at e; cases e; exact m)]; exact e⟩
theorem away_upd {H : Hp} {a : Addr} {o' : HO} {fd : List Addr} (ha : a ∈ fd) : ∀ b o, H b = some o → b ∉ fd → upd H a o' b = some o := fun b o e hb => by
  rw [upd_ne (fun z => hb (by rw [z]; exact ha))]; exact e
/-- a list of data gets other items -/
theorem Chg.ml {H : Hp} {a : Addr} {vs vs' : List V} {xs' : List P} {fa : List Addr} {res : D} {rv : V} {Q : VK} (q : Chg G H (.ref a) [a] fa (.ml xs') res Q) (h : H a = some (.lst vs)) (r : RPs H xs' vs')
    (hr : ∃ x, res = .p x ∧ RP H x rv) : Q rv (upd H a (.lst vs')) := by
  obtain ⟨x, rfl, rx⟩ := hr
  have im : Imm H (upd H a (.lst vs')) := imm_upd h trivial
  exact q _ rv [a] [] ⟨a, vs', rfl, upd_same, r.mono im _ _, rfl⟩ ⟨rx.mono im _ _, rfl⟩ (by simp) (fun b hb => .inl (by simpa using hb)) (away_upd (by simp)) im
theorem RD1s.keep' {H H' : Hp} {ds : List D1} {vs : List V} {f : List Addr} (h : RD1s H ds vs f) (i : Imm H H') (k : ∀ b ∈ f, ∀ o, H b = some o → H' b = some o) : RD1s H' ds vs f := h.keep ⟨i, k⟩
theorem RD1s.append {H : Hp} : ∀ {ds es : List D1} {vs ws : List V} {f g : List Addr}, RD1s H ds vs f → RD1s H es ws g → RD1s H (ds ++ es) (vs ++ ws) (f ++ g)
  | [], _, _, _, _, _, h, r => by rw [h.1, h.2]; exact r
  | d :: ds, _, _, _, _, _, h, r => by
    obtain ⟨v, t, f1, f2, rfl, q, z, rfl⟩ := h
    exact ⟨v, _, f1, _, rfl, q, RD1s.append z r, by rw [List.append_assoc]⟩
theorem RD1s.one {H : Hp} {d : D1} {v : V} {f : List Addr} (h : RD1 H d v f) : RD1s H [d] [v] f := ⟨v, [], f, [], rfl, h, ⟨rfl, rfl⟩, by simp⟩
theorem RD1s.split {H : Hp} : ∀ {ds es : List D1} {vs : List V} {f : List Addr}, RD1s H (ds ++ es) vs f → ∃ v1 v2 f1 f2, vs = v1 ++ v2 ∧ f = f1 ++ f2 ∧ RD1s H ds v1 f1 ∧ RD1s H es v2 f2
  | [], _, vs, f, h => ⟨[], vs, [], f, rfl, rfl, ⟨rfl, rfl⟩, h⟩
  | d :: ds, es, _, _, h => by
    obtain ⟨v, t, g1, g2, rfl, q, z, rfl⟩ := h
    obtain ⟨v1, v2, f1, f2, rfl, rfl, h1, h2⟩ := RD1s.split z
    exact ⟨v :: v1, v2, g1 ++ f1, f2, rfl, by rw [List.append_assoc], ⟨v, v1, g1, f1, rfl, q, h1, rfl⟩, h2⟩
theorem D1.toD {K : PySem.W.Frag} {Cl : CW} {H : Hp} {d : D1} {v : V} {f : List Addr} (h : RD1 H d v f) : RD K Cl H d.d v f := by
  cases d with
  | p x => exact h
  | ml xs => exact h
theorem D.toD1 {K : PySem.W.Frag} {Cl : CW} {H : Hp} {d : D} {x : D1} {v : V} {f : List Addr} (h : RD K Cl H d v f) (e : d.d1 = some x) : RD1 H x v f := by
  cases d with
  | p y => cases e; exact h
  | ml xs => cases e; exact h
  | _ => cases e
theorem popL_some {α : Type} {xs r : List α} {y : α} (h : popL xs = some (y, r)) : xs = r ++ [y] := by
  unfold popL at h
  split at h
  · rename_i z hz
    cases h
    have hl := (List.getElem?_eq_some_iff.mp hz).1
    have hne : xs ≠ [] := fun e => by subst e; simp at hl
    conv => lhs; rw [← List.dropLast_concat_getLast hne]
    rw [List.getLast_eq_getElem]
    have := (List.getElem?_eq_some_iff.mp hz).2
    rw [this]
  · cases h
/-- a list of lists gets other items -/
theorem Chg.ne {H : Hp} {a : Addr} {vs vs' : List V} {xs' : List D1} {f f' fr fa : List Addr} {res : D} {rv : V} {Q : VK} (q : Chg G H (.ref a) (a :: f) fa (.ne xs') res Q) (h : H a = some (.lst vs)) (r : RD1s H xs' vs' f')
    (hr : RD G.K G.Cl H res rv fr) (nd : (a :: (f' ++ fr)).Nodup) (sub : ∀ b ∈ f' ++ fr, b ∈ f ∨ b ∈ fa) : Q rv (upd H a (.lst vs')) := by
  have im : Imm H (upd H a (.lst vs')) := imm_upd h trivial
  have hna : a ∉ f' ++ fr := (List.nodup_cons.mp nd).1
  have keep : ∀ b ∈ f' ++ fr, ∀ o, H b = some o → upd H a (.lst vs') b = some o := fun b hb o e => by
    rw [upd_ne (fun z => hna (by rw [← z]; exact hb))]; exact e
  refine q _ rv (a :: f') fr ⟨a, vs', f', rfl, upd_same, r.keep' im fun b hb => keep b (List.mem_append.mpr (.inl hb)), rfl⟩ (hr.keep ⟨im, fun b hb => keep b (List.mem_append.mpr (.inr hb))⟩) nd (fun b hb => ?_) (away_upd (by simp)) im
  rcases List.mem_cons.mp hb with rfl | hb
  · exact .inl (by simp)
  · exact (sub b hb).imp (List.mem_cons_of_mem _) id
theorem append_ok {H : Hp} {v y : V} {d a d' res : D} {fd fa : List Addr} {Q : VK} (r1 : RD G.K G.Cl H d v fd) (r2 : RD G.K G.Cl H a y fa) (nd : (fd ++ fa).Nodup) (e : mut1 .append a d = some (res, d')) (q : Chg G H v fd fa d' res Q) : rAppend v [y] H Q := by
  simp only [mut1] at e
  split at e
  · split at e
    · split at e
      · rename_i hz
        cases e
        obtain ⟨l, vs, rfl, h1, s1, rfl⟩ := r1
        exact ⟨l, vs, y, rfl, rfl, h1, by rw [s1.length]; exact hz, q.ml h1 (s1.snoc r2.ofp) ⟨_, rfl, by rw [RP]⟩⟩
      · cases e
    · cases e
  · split at e
    · rename_i ha
      split at e
      · rename_i hz
        cases e
        obtain ⟨l, vs, f, rfl, h1, s1, rfl⟩ := r1
        refine ⟨l, vs, y, rfl, rfl, h1, by rw [s1.length]; exact hz, q.ne (fr := []) h1 (s1.append (RD1s.one (D.toD1 r2 ha))) (D1.toD (d := .p .none) ⟨by rw [RP], rfl⟩) (by simpa using nd) fun b hb => ?_⟩
        rw [List.append_nil] at hb
        exact List.mem_append.mp hb
      · cases e
    · cases e
  · cases e
theorem extend_ok {H : Hp} {v y : V} {d a d' res : D} {fd fa : List Addr} {Q : VK} (r1 : RD G.K G.Cl H d v fd) (r2 : RD G.K G.Cl H a y fa) (e : mut1 .extend a d = some (res, d')) (q : Chg G H v fd [] d' res Q) :
    ∃ l b xs zs, v = .ref l ∧ [y] = [.ref b] ∧ H l = some (.lst xs) ∧ LstAt H b zs ∧ xs.length + zs.length ≤ sizeLine ∧ Q .non (upd H l (.lst (xs ++ zs))) := by
  simp only [mut1] at e
  split at e
  · split at e
    · rename_i hs
      split at e
      · rename_i hz
        cases e
        obtain ⟨l, vs, rfl, h1, s1, rfl⟩ := r1
        obtain ⟨b, ws, rfl, _, s2, l2⟩ := r2.seq hs
        exact ⟨l, b, vs, ws, rfl, rfl, h1, l2, by rw [s1.length, s2.length]; exact hz, q.ml h1 (s1.append s2) ⟨_, rfl, by rw [RP]⟩⟩
      · cases e
    · cases e
  · cases e
theorem popAt_ok {H : Hp} {v y : V} {d a d' res : D} {fd fa : List Addr} {Q : VK} (r1 : RD G.K G.Cl H d v fd) (r2 : RD G.K G.Cl H a y fa) (e : mut1 .popAt a d = some (res, d')) (q : Chg G H v fd [] d' res Q) : rPopAt v [y] H Q := by
  simp only [mut1] at e
  split at e
  · split at e
    · split at e
      · rename_i hb
        split at e
        · rename_i n hn
          split at e
          · rename_i z hz
            cases e
            obtain ⟨l, vs, rfl, h1, s1, rfl⟩ := r1
            obtain ⟨u, h2, q2⟩ := s1.get hz
            rw [r2.ofp.int]
            obtain ⟨h3, _⟩ := ixN_seq hn
            exact ⟨l, vs, _, n, u, rfl, rfl, h1, hb.1, hb.2, by rw [s1.length]; exact h3, h2, q.ml h1 (s1.erase n) ⟨_, rfl, q2⟩⟩
          · cases e
        · cases e
      · cases e
    · cases e
  · cases e
theorem pop_ok {H : Hp} {v : V} {d d' res : D} {fd : List Addr} {Q : VK} (r1 : RD G.K G.Cl H d v fd) (nd : fd.Nodup) (e : mut0 .pop d = some (res, d')) (q : Chg G H v fd [] d' res Q) : rPop v [] H Q := by
  simp only [mut0] at e
  split at e
  · obtain ⟨⟨y, r⟩, e1, e2⟩ := Option.map_eq_some_iff.mp e
    cases e2
    have hx := popL_some e1
    obtain ⟨l, vs, rfl, h1, s1, rfl⟩ := r1
    rw [hx] at s1
    have hl := s1.length
    obtain ⟨u, h2, q2⟩ := s1.get (i := r.length) (d := y) (by simp)
    have h3 : vs.length - 1 = r.length := by rw [hl]; simp
    have s2 := s1.dropLast
    rw [List.dropLast_concat] at s2
    exact ⟨l, vs, u, rfl, rfl, h1, by rw [h3]; exact h2, q.ml h1 s2 ⟨_, rfl, q2⟩⟩
  · obtain ⟨⟨y, r⟩, e1, e2⟩ := Option.map_eq_some_iff.mp e
    cases e2
    have hx := popL_some e1
    obtain ⟨l, vs, f, rfl, h1, s1, rfl⟩ := r1
    rw [hx] at s1
    obtain ⟨v1, v2, f1, f2, rfl, rfl, q1, u, t, g1, g2, rfl, q2, ⟨rfl, rfl⟩, rfl⟩ := s1.split
    refine ⟨l, _, u, rfl, rfl, h1, by simp, ?_⟩
    rw [List.dropLast_concat]
    exact q.ne h1 q1 (D1.toD q2) (by simpa using nd) fun b hb => .inl (by simpa using hb)
  · cases e
theorem reverse_ok {H : Hp} {v : V} {d d' res : D} {fd : List Addr} {Q : VK} (r1 : RD G.K G.Cl H d v fd) (e : mut0 .reverse d = some (res, d')) (q : Chg G H v fd [] d' res Q) : rReverse v [] H Q := by
  simp only [mut0] at e
  split at e
  · cases e
    obtain ⟨l, vs, rfl, h1, s1, rfl⟩ := r1
    exact ⟨l, vs, rfl, rfl, h1, q.ml h1 s1.reverse ⟨_, rfl, by rw [RP]⟩⟩
  · cases e
theorem clear_ok {H : Hp} {v : V} {d d' res : D} {fd : List Addr} {Q : VK} (r1 : RD G.K G.Cl H d v fd) (e : mut0 .clear d = some (res, d')) (q : Chg G H v fd [] d' res Q) : rClear v [] H Q := by
  simp only [mut0] at e
  split at e
  · cases e
    obtain ⟨l, vs, rfl, h1, s1, rfl⟩ := r1
    exact ⟨l, vs, rfl, rfl, h1, q.ml h1 (by rw [RPs]) ⟨_, rfl, by rw [RP]⟩⟩
  · cases e
end
end DL

/-! DL6: the check that an own term is a given piece of the text. -/
namespace DL
open PySem PySem.Spec PyProof.Rows L2

/-- what hangs on the def: its names by slot, the defs and methods that may be called, whether there is the one class, whether it is an except suite, the module's constants -/
structure Cf where
  N : List Str
  funs : List String
  meths : List String
  mach : Bool
  makes : Bool
  hot : Bool
  cst : List (String × P)
  xcs : List String
  xhs : List String
def visB (sc : Scope) (x : Str) : Bool := match sc.names.lookup x with
  | some .local => true
  | some .cell => true
  | some .free => true
  | _ => false
def glB (sc : Scope) (x : Str) : Bool := match sc.names.lookup x with
  | some .globalImplicit => true
  | _ => false
def nameOk (x : Str) : Bool := !decide (x = "__debug__") && !decide (x = "__classdict__") && !decide (x = "__name__")
def slotB (cf : Cf) (sc : Scope) (i : Nat) (e : Expr) : Bool := match e with
  | .Name x _ => decide (cf.N[i]? = some x) && visB sc x && nameOk x
  | _ => false
def glName (sc : Scope) (n : Str) (e : Expr) : Bool := match e with
  | .Name x _ => decide (x = n) && glB sc x && nameOk x
  | _ => false
/-- not a starred one, not a call without arguments, not a slice, neither test nor choice -/
def nst : Expr → Bool
  | .Starred _ _ => false
  | _ => true
def nbs : Expr → Bool
  | .Call _ [] [] _ => false
  | _ => true
def nsl : Expr → Bool
  | .Slice _ _ _ _ => false
  | _ => true
def plainT : Expr → Bool
  | .UnaryOp .Not _ _ => false
  | .BoolOp _ _ _ => false
  | .IfExp _ _ _ _ => false
  | .Compare _ _ _ _ => false
  | _ => true
def noSet : Expr → Bool
  | .Set _ _ _ => false
  | _ => true
structure Chk where
  e : Expr → Bool
  l : List Expr → Bool
  o : Option Expr → Bool
  an : List Expr → Bool
  orr : List Expr → Bool
  i : Expr → Expr → Bool
def one1 (f : Expr → Bool) (l : List Expr) : Bool := match l with
  | [x] => f x && nst x
  | _ => false
def some1 (f : Expr → Bool) (l : Option Expr) : Bool := match l with
  | some x => f x
  | none => false
def isNameTg : Expr → Bool
  | .Name _ _ => true
  | _ => false
def isTupTg : Expr → Bool
  | .Tuple _ _ _ => true
  | _ => false
def dfC (f : Expr → Bool) : Chk where
  e := f
  l := fun _ => false
  o := some1 f
  an := one1 f
  orr := one1 f
  i := fun _ x => f x && noSet x
def noE : Chk where
  e := fun _ => false
  l := fun _ => false
  o := fun _ => false
  an := fun _ => false
  orr := fun _ => false
  i := fun _ _ => false
def chkK (p : P) (e : Expr) : Bool := match p, e with
  | .none, .Constant .none _ _ => true
  | .bool b, .Constant (.bool c) _ _ => b == c
  | .int b, .Constant (.int c) _ _ => decide (b = c)
  | .str b, .Constant (.str c) _ _ => decide (b = c)
  | _, _ => false
def dixB : List (Str × Str) → List (Option Expr) → List Expr → Bool
  | [], [], [] => true
  | q :: r, some (.Constant (.str a) _ _) :: ks, .Constant (.str b) _ _ :: vs => decide (q.1 = a) && decide (q.2 = b) && dixB r ks vs
  | _, _, _ => false
def call1 (f : Expr → Bool) (a : List Expr → Bool) (e : Expr) : Bool := match e with
  | .Call g (x :: xs) [] _ => f g && a (x :: xs)
  | _ => false
def methB (attr : Str) (o : Expr → Bool) (a : List Expr → Bool) (e : Expr) : Bool := match e with
  | .Call (.Attribute x n apos) xs [] cpos => decide (n = attr) && o x && nbs x && a xs && (apos.endLine == cpos.line)
  | _ => false
def nameB1 : B1 → Str
  | .len => "len" | .tuple => "tuple" | .list => "list" | .int => "int" | .any => "any" | .all => "all" | .lenset => ""
def nameM0 : M0 → Str
  | .pop => "pop" | .reverse => "reverse" | .clear => "clear" | .strip => "strip"
def nameM1 : M1 → Str
  | .append => "append" | .popAt => "pop" | .extend => "extend" | .startswith => "startswith" | .index => "index" | .split => "split" | .find => "find" | .join => "join" | .count => "count" | .partition => "partition"
def nameTy : Ty → Str
  | .int => "int" | .bool => "bool" | .str => "str" | .tuple => "tuple" | .list => "list" | .ve => "ValueError" | .xc c => c
def tysB (sc : Scope) : List Ty → List Expr → Bool
  | [], [] => true
  | t :: ts, e :: es => glName sc (nameTy t) e && tysB sc ts es
  | _, _ => false
def isiB (sc : Scope) (ts : List Ty) (one : Bool) (e : Expr) : Bool := match one, ts, e with
  | true, [t], e => glName sc (nameTy t) e
  | false, ts, .Tuple es _ _ => tysB sc ts es && decide (0 < es.length) && decide (es.length ≤ 100)
  | _, _, _ => false
def two (a b : Expr → Bool) (l : List Expr) : Bool := match l with
  | [x, y] => a x && nst x && b y && nst y
  | _ => false
def three (a b c : Expr → Bool) (l : List Expr) : Bool := match l with
  | [x, y, z] => a x && nst x && b y && nst y && c z && nst z
  | _ => false
def isNil (l : List Expr) : Bool := l.isEmpty
/-- a comprehension's own name -/
def ownB (sc scope : Scope) (t : Str) : Bool := match (relS scope sc).names.lookup t with
  | some .local => true
  | some .cell => (match scope.names.lookup t with
    | some .cell => true
    | _ => false)
  | _ => false
def lcB (cf : Cf) (sc : Scope) (i : Nat) (it : Expr → Expr → Bool) (elt : Scope → Expr → Bool) (nc : Bool) (c : Scope → Expr → Bool) (e : Expr) : Bool := match e with
  | .ListComp x [⟨.Name t p, iter, ifs, 0⟩] scope _ => decide (cf.N[i]? = some t) && nameOk t && ownB sc scope t && blkC cf.N sc scope [(t, i)] && noSet iter &&
        it (.Name t p) iter && elt (relS scope sc) x && (if nc = true then ifs.isEmpty else one1 (c (relS scope sc)) ifs)
  | _ => false
def lc2B (cf : Cf) (sc : Scope) (i j : Nat) (it : Expr → Expr → Bool) (elt : Scope → Expr → Bool) (e : Expr) : Bool := match e with
  | .ListComp x [⟨.Tuple [.Name t p, .Name u q] k r, iter, [], 0⟩] scope _ => decide (cf.N[i]? = some t) && decide (cf.N[j]? = some u) && ownB sc scope t && ownB sc scope u && blkC cf.N sc scope [(t, i), (u, j)] && noSet iter &&
        it (.Tuple [.Name t p, .Name u q] k r) iter && elt (relS scope sc) x
  | _ => false
/-- a class that an exception may be asked of -/
def xTy (cf : Cf) (t : Ty) : Bool := match t with
  | .ve => true
  | .xc d => decide (d ∈ cf.xcs)
  | _ => false
/-- a place that is changed, where it stays while the argument is worked out -/
def plOk (o a : E) : Bool := isPl o && ((isVar o).isSome || quiet a)
def attB (n : Str) (o : Expr → Bool) (e : Expr) : Bool := match e with
  | .Attribute x m _ => decide (m = n) && o x && nbs x
  | _ => false
def isiOk (cf : Cf) (a : E) (ts : List Ty) : Bool := (!cf.hot && ts.all isB) || (cf.hot && ts.all (xTy cf) && (isVar a).isSome)
def chk (cf : Cf) : E → Scope → Chk
  | .k p, _ => dfC (chkK p)
  | .g n p, sc => dfC fun e => glName sc n e && decide ((n, p) ∈ cf.cst)
  | .v i, sc => dfC (slotB cf sc i)
  | .mv i, sc => dfC (slotB cf sc i)
  | .fz i, sc => dfC (slotB cf sc i)
  | .bw i, sc => dfC (slotB cf sc i)
  | .rw i, sc => dfC (slotB cf sc i)
  | .fr e, sc => dfC fun x => plainT x && (chk cf e sc).e x
  | .tup es, sc => dfC fun e => match e with
    | .Tuple xs _ _ => (chk cf es sc).l xs && decide (xs.length ≤ 1000)
    | _ => false
  | .lst es, sc => dfC fun e => match e with
    | .List xs _ => (chk cf es sc).l xs && decide (xs.length ≤ 1000)
    | _ => false
  | .lsn es, sc => dfC fun e => match e with
    | .List xs _ => (chk cf es sc).l xs && decide (xs.length ≤ 1000)
    | _ => false
  | .nil, _ => { noE with l := fun xs => xs.isEmpty }
  | .cons e es, sc => { noE with l := fun xs => match xs with
    | x :: r => (chk cf e sc).e x && nst x && (chk cf es sc).l r
    | _ => false }
  | .no, _ => { noE with o := fun x => x.isNone }
  | .bin o a b, sc => dfC fun e => match e with
    | .BinOp x op y _ => decide (op = pyB o) && (chk cf a sc).e x && (chk cf b sc).e y
    | _ => false
  | .neg a, sc => dfC fun e => match e with
    | .UnaryOp .USub x _ => (chk cf a sc).e x
    | _ => false
  | .cmp o a b, sc => dfC fun e => match e with
    | .Compare x [op] [y] _ => decide (op = pyC o) && (chk cf a sc).e x && (chk cf b sc).e y && noSet y
    | _ => false
  | .chn o o' a b c, sc => dfC fun e => match e with
    | .Compare x [op, op'] [y, z] _ => decide (op = pyC o) && decide (op' = pyC o') && (chk cf a sc).e x && (chk cf b sc).e y && (chk cf c sc).e z && noSet z
    | _ => false
  | .an a b, sc =>
    let l := fun xs => match xs with
      | x :: y :: r => (chk cf a sc).e x && (chk cf b sc).an (y :: r)
      | _ => false
    let f := fun e => match e with
      | .BoolOp .And xs _ => l xs
      | _ => false
    { dfC f with an := fun xs => l xs || one1 f xs }
  | .orr a b, sc =>
    let l := fun xs => match xs with
      | x :: y :: r => (chk cf a sc).e x && (chk cf b sc).orr (y :: r)
      | _ => false
    let f := fun e => match e with
      | .BoolOp .Or xs _ => l xs
      | _ => false
    { dfC f with orr := fun xs => l xs || one1 f xs }
  | .nt a, sc => dfC fun e => match e with
    | .UnaryOp .Not x _ => (chk cf a sc).e x
    | _ => false
  | .ife c a b, sc => dfC fun e => match e with
    | .IfExp x y z _ => (chk cf c sc).e x && (chk cf a sc).e y && (chk cf b sc).e z
    | _ => false
  | .ix a i, sc => dfC fun e => match e with
    | .Subscript x y _ => (chk cf a sc).e x && (chk cf i sc).e y && nsl y
    | _ => false
  | .lns a, sc => dfC fun e => call1 (glName sc "len") (one1 fun y => call1 (glName sc "set") (one1 (chk cf a sc).e) y) e && !cf.hot
  | .dix kvs i, sc => dfC fun e => (match e with
    | .Subscript (.Dict ks vs _) y _ => dixB kvs ks vs && (chk cf i sc).e y && nsl y
    | _ => false) && (decide (kvs.map (·.1)).Nodup && decide (kvs ≠ []) && decide (kvs.length ≤ 15))
  | .mvi i k, sc => dfC fun e => (match e with
    | .Subscript x y _ => slotB cf sc i x && (chk cf k sc).e y && nsl y
    | _ => false) && (negIx k).isSome
  | .sl a lo hi, sc => dfC fun e => match e with
    | .Subscript x (.Slice l h none _) _ => (chk cf a sc).e x && (chk cf lo sc).o l && (chk cf hi sc).o h
    | _ => false
  | .call f es, sc => dfC fun e => call1 (glName sc f) (chk cf es sc).l e && decide (f ∈ cf.funs) && !cf.hot
  | .b1 f a, sc => dfC fun e => call1 (glName sc (nameB1 f)) (one1 (chk cf a sc).e) e && (match f with
    | .any => !cf.hot
    | .all => !cf.hot
    | .lenset => false
    | _ => true)
  | .mx2 a b, sc => dfC fun e => call1 (glName sc "max") (two (chk cf a sc).e (chk cf b sc).e) e && !cf.hot
  | .mx3 a b c, sc => dfC fun e => call1 (glName sc "max") (three (chk cf a sc).e (chk cf b sc).e (chk cf c sc).e) e && !cf.hot
  | .isi a ts one, sc => dfC fun e => call1 (glName sc "isinstance") (two (chk cf a sc).e (isiB sc ts one)) e && isiOk cf a ts
  | .m0 m o, sc => dfC fun e => methB (nameM0 m) (chk cf o sc).e isNil e && (match m with
    | .strip => true
    | _ => isPl o)
  | .m1 m o a, sc => dfC fun e => methB (nameM1 m) (chk cf o sc).e (one1 (chk cf a sc).e) e && (match m with
    | .append => plOk o a
    | .extend => plOk o a
    | .popAt => plOk o a
    | _ => true)
  | .dgt o a b, sc => dfC fun e => methB "get" (chk cf o sc).e (two (chk cf a sc).e (chk cf b sc).e) e
  | .lc elt i it c, sc => dfC fun e => lcB cf sc i (chk cf it sc).i (fun s => (chk cf elt s).e) (noC c) (fun s => (chk cf c s).e) e && !cf.hot
  | .lc2 elt i j it c, sc => dfC fun e => lc2B cf sc i j (chk cf it sc).i (fun s => (chk cf elt s).e) e && noC c && !cf.hot
  | .dc _, _ => dfC fun e => match e with
    | .Dict [] [] _ => true
    | _ => false
  | .dsp _, _ => noE
  | .fld o f, sc => dfC fun e => attB f.name (chk cf o sc).e e && cf.mach
  | .mk es, sc => dfC fun e => call1 (glName sc "Machine") (chk cf es sc).l e && cf.makes && !cf.hot
  | .mth m o es, sc => dfC fun e => methB m (chk cf o sc).e (fun l => (chk cf es sc).l l && decide (l.length < 20)) e && (recvA o).isSome && decide (m ∈ cf.meths) && cf.mach && !cf.hot
  | .lrg a, sc => dfC fun e => call1 (glName sc "list") (one1 fun x => call1 (glName sc "range") (one1 (chk cf a sc).e) x) e && !cf.hot
  | .rg1 a, sc => { noE with i := fun _ e => call1 (glName sc "range") (one1 (chk cf a sc).e) e }
  | .rg2 a b, sc => { noE with i := fun _ e => call1 (glName sc "range") (two (chk cf a sc).e (chk cf b sc).e) e }
  | .rev a, sc => { noE with i := fun _ e => call1 (glName sc "reversed") (one1 (chk cf a sc).e) e }
  | .zip a b, sc => { noE with i := fun t e => isTupTg t && call1 (glName sc "zip") (two (chk cf a sc).e (chk cf b sc).e) e }
  | .enu a, sc => { noE with i := fun t e => isTupTg t && call1 (glName sc "enumerate") (one1 (chk cf a sc).e) e }
end DL

/-! DL7: what a term's reading is; the rules, construct by construct. -/
namespace DL
open PySem PySem.Spec PyProof.Rows L2

/-- the caller's side of a def: from the arguments' slots to what comes back -/
def spD (K : PySem.W.Frag) (Cl : CW) (cls : String → Addr) (call : Env → CR) (np : Nat) : Sp := fun vs H Q E =>
  ∃ (ts : Env) (fp : Nat → List Addr) (Z : Addr → Prop), vs.length = np ∧ ts.length = np ∧ SE ⟨K, Cl, fun i => vs[i]?, Z, none⟩ H (vs.map some) ts fp ∧
    (match call ts with
      | .ok d outs => ∀ v H' σ' fp' fd, SE ⟨K, Cl, fun i => vs[i]?, Z, none⟩ H' σ' outs fp' → RD K Cl H' d v fd → fd.Nodup → (∀ a ∈ fd, ¬ In fp' a ∧ ¬ Z a) → Stp (In fp) H (fun a => In fp' a ∨ a ∈ fd) H' → Q v H'
      | .ex c => ∀ H', Stp (In fp) H (fun _ => False) H' → E (.ref (cls c)) none H'
      | .st => False)
structure FnF (X : Cx) (G : Gh) (C : Calls) (cls : String → Addr) (f : String) : Prop where
  ex : ∃ (a : Addr) (fd : FuncData) (ps : List Str) (k np : Nat), (∀ ts, C.call f ts ≠ .st → ts.length = np) ∧ FnOk X.prog X.w X.K X.mg X.base (L2.CX X.prog X.w) k a fd ps (spD G.K G.Cl cls (C.call f) np) ∧ Room k X.A ∧ X.mg f = some (.ref a) ∧ PySem.W.keepIn X.K (.ref a) = true ∧ Binds X.K fd ps []
structure FnM (X : Cx) (G : Gh) (C : Calls) (cls : String → Addr) (f : String) : Prop where
  ex : ∃ (a : Addr) (fd : FuncData) (ps : List Str) (k np : Nat), (∀ ts, C.call f ts ≠ .st → ts.length = np) ∧ FnOk X.prog X.w X.K X.mg X.base (L2.CX X.prog X.w) k a fd ps (spD G.K G.Cl cls (C.call f) np) ∧ Room k X.A ∧ Meth X.K G.Cl.a f a ∧ Binds X.K fd ps [] ∧ ∀ g : Fld, g.name ≠ f
structure FnI (X : Cx) (G : Gh) (C : Calls) (cls : String → Addr) : Prop where
  ex : ∃ (a : Addr) (fd : FuncData) (ps : List Str) (k np : Nat), (∀ ts, C.call "Machine" ts ≠ .st → ts.length = np) ∧ FnOk X.prog X.w X.K X.mg X.base (L2.CX X.prog X.w) k a fd ps (spD G.K G.Cl cls (C.call "Machine") np) ∧ Room (k + 1) X.A ∧ Mk X.K G.Cl.a a ∧ X.mg "Machine" = some (.ref G.Cl.a) ∧ Binds X.K fd ps []
def tyXV (cls : String → Addr) : Ty → Value
  | .xc d => .ref (cls d)
  | _ => .type "ValueError"
/-- an exception of the class c lies at a: the suite that holds it -/
structure XcF (cf : Cf) (X : Cx) (cls : String → Addr) (a : Addr) (c : String) : Prop where
  ex : ∃ (X0 : Cx) (oe : Obj) (pn : List (Addr × Obj)), X = X0.suite a ((a, oe) :: pn) ∧ Zc (.ref (cls c)) none oe ∧ ∃ vs, oe.data = .fields vs
  exc : ExcC X.K (cls c)
  kit : ∀ t, xTy cf t = true → PySem.W.kitOne X.K (.ref (cls c)) (tyXV cls t) = some (isXc c t)
  mgx : ∀ d ∈ cf.xcs, X.mg d = some (.ref (cls d))
/-- what is known where a piece of a def runs -/
structure Ctx (cf : Cf) (X : Cx) (G : Gh) (C : Calls) (W : WX) (cls : String → Addr) : Prop where
  N : X.N = cf.N
  K : X.K = G.K
  wd : G.Cl.w = X.w
  nd : X.N.Nodup
  units : X.A.units + 66 < cLine
  calm : cf.hot = false → X.calm = true
  takes : Takes X W
  blt : ∀ x : Str, x ∈ (["len", "tuple", "list", "int", "any", "all", "max", "isinstance", "range", "reversed", "zip", "enumerate", "bool", "str", "ValueError", "set"] : List Str) → X.mg x = none
  cst : ∀ n p, (n, p) ∈ cf.cst → ∃ v u, X.mg n = some u ∧ RelV v u ∧ ∀ H, RP H p v
  cal : ∀ f ∈ cf.funs, cf.hot = false → FnF X G C cls f
  cl : cf.mach = true → Cls X.K G.Cl.a ∧ ∀ g : Fld, NoAttr X.K G.Cl.a g.name
  met : ∀ f ∈ cf.meths, cf.hot = false → FnM X G C cls f
  ini : cf.makes = true → cf.hot = false → FnI X G C cls
  xa0 : cf.hot = false → G.xa = none
  hx : ∀ a c, G.xa = some (a, c) → XcF cf X cls a c

/-- what is wanted behind a term that gives d over env' -/
def RQ {α : Type} (G : Gh) (W : WX) (cls : String → Addr) (σ : L2.St) (H : Hp) (fp : Nat → List Addr) (r : R α) (T : α → Env → Prop) : Prop :=
  match r with
  | .ok d env' => T d env'
  | .ex c env' => ∀ H' fp', SE G H' σ env' fp' → Stp (In fp) H (In fp') H' → W (.ref (cls c)) none σ H'
  | .st => False
section
variable (G : Gh) (W : WX) (cls : String → Addr)
/-- a term as a value -/
def rdV (q : Bool) (r : Env → R D) : TE := fun σ H Q => ∃ env fp, SE G H σ env fp ∧ RQ G W cls σ H fp (r env) fun d env' =>
  ∀ v H' fp' fd, SE G H' σ env' fp' → RD G.K G.Cl H' d v fd → fd.Nodup → (∀ a ∈ fd, ¬ In fp' a ∧ ¬ G.Z a) → Stp (In fp) H (fun a => In fp' a ∨ a ∈ fd) H' → (q = true → L2.Same H H' ∧ env' = env) → Q v H'
/-- a term, or what stands at a place: to be read at once -/
def rdB (q : Bool) (r : Env → R D) : TE := fun σ H Q => ∃ env fp, SE G H σ env fp ∧ RQ G W cls σ H fp (r env) fun d env' =>
  ∀ v H' fp' fd, SE G H' σ env' fp' → RD G.K G.Cl H' d v fd → Stp (In fp) H (In fp') H' → (q = true → L2.Same H H' ∧ env' = env) → Q v H'
def rdT (r : Env → R Bool) : TT := fun σ H Q => ∃ env fp, SE G H σ env fp ∧ RQ G W cls σ H fp (r env) fun k env' =>
  ∀ H' fp', SE G H' σ env' fp' → Stp (In fp) H (In fp') H' → Q k H'
/-- a test that changes nothing -/
def rdTQ (r : Env → R Bool) : TT := fun σ H Q => ∃ env fp, SE G H σ env fp ∧ RQ G W cls σ H fp (r env) fun k env' =>
  ∀ H' fp', SE G H' σ env' fp' → Stp (In fp) H (In fp') H' → L2.Same H H' ∧ env' = env → Q k H'
/-- data from the left -/
def rdS (q : Bool) (r : Env → R (List P)) : TA := fun σ H Q => ∃ env fp, SE G H σ env fp ∧ RQ G W cls σ H fp (r env) fun ds env' =>
  ∀ vs H' fp', SE G H' σ env' fp' → RPs H' ds vs → Stp (In fp) H (In fp') H' → (q = true → L2.Same H H' ∧ env' = env) → Q vs H'
def rdN (r : Env → R (List D1)) : TA := fun σ H Q => ∃ env fp, SE G H σ env fp ∧ RQ G W cls σ H fp (r env) fun ds env' =>
  ∀ vs H' fp' fd, SE G H' σ env' fp' → RD1s H' ds vs fd → fd.Nodup → (∀ a ∈ fd, ¬ In fp' a ∧ ¬ G.Z a) → Stp (In fp) H (fun a => In fp' a ∨ a ∈ fd) H' → Q vs H'
/-- an argument's value: a datum, or what stands in a slot -/
def AVal (H : Hp) (σ : L2.St) (a : AV) (v : V) (f : List Addr) : Prop := match a with
  | .va d => RD G.K G.Cl H d v f
  | .br i => σ[i]? = some (some v) ∧ f = []
  | .rr i => σ[i]? = some (some v) ∧ f = []
def AVals (H : Hp) (σ : L2.St) : List AV → List V → List (List Addr) → Prop
  | [], vs, fs => vs = [] ∧ fs = []
  | a :: as, vs, fs => ∃ v r f g, vs = v :: r ∧ fs = f :: g ∧ AVal G H σ a v f ∧ AVals H σ as r g
def rdA (q : Bool) (r : Env → R (List AV)) : TA := fun σ H Q => ∃ env fp, SE G H σ env fp ∧ RQ G W cls σ H fp (r env) fun as env' =>
  ∀ vs H' fp' fs, SE G H' σ env' fp' → AVals G H' σ as vs fs → fs.flatten.Nodup → (∀ a ∈ fs.flatten, ¬ In fp' a ∧ ¬ G.Z a) → Stp (In fp) H (fun a => In fp' a ∨ a ∈ fs.flatten) H' → (q = true → L2.Same H H' ∧ env' = env) → Q vs H'
def rdO (q : Bool) (r : Env → R (Option Int)) : TO := fun σ H Q => ∃ env fp, SE G H σ env fp ∧ RQ G W cls σ H fp (r env) fun o env' =>
  ∀ H' fp', SE G H' σ env' fp' → Stp (In fp) H (In fp') H' → (q = true → L2.Same H H' ∧ env' = env) → Q o H'
/-- an item that has come: a datum, or a new pair of two data -/
def Item (t : Bool) (p : P) (x : V) (H H' : Hp) : Prop :=
  (H' = H ∧ RP H p x) ∨ ∃ T u w a b, t = true ∧ p = .tuple [a, b] ∧ x = .ref T ∧ H T = none ∧ H' = upd H T (.tup [u, w]) ∧ RP H a u ∧ RP H b w
def rdI (t : Bool) (r : Env → R (List P)) : TI := fun σ H Q => ∃ env fp, SE G H σ env fp ∧ RQ G W cls σ H fp (r env) fun ds env' =>
  ∀ J H' fp' (Gd : Hp → Prop) Y, SE G H' σ env' fp' → Stp (In fp) H (In fp') H' → Walk J ds.length Gd Y → (∀ H'', Imm H' H'' → Gd H'') →
    (∀ i H1 x H1', i < ds.length → Imm H' H1 → Y i H1 x H1' → ∃ p, ds[i]? = some p ∧ Item t p x H1 H1') → Q J H'
end

section
variable {cf : Cf} {X : Cx} {G : Gh} {C : Calls} {W : WX} {cls : String → Addr}

/-! ### joining -/
theorem RQ.bind {α β : Type} {σ : L2.St} {H : Hp} {fp : Nat → List Addr} {r : R α} {f : α → Env → R β} {T : β → Env → Prop} (h : RQ G W cls σ H fp (r.bind f) T) :
    RQ G W cls σ H fp r fun a env' => RQ G W cls σ H fp (f a env') T := by
  cases r with
  | ok a e => exact h
  | ex c e => exact h
  | st => exact h
/-- a later state's wish, from this one's -/
theorem RQ.later {α : Type} {σ : L2.St} {H H1 : Hp} {fp fp1 : Nat → List Addr} {r : R α} {T T' : α → Env → Prop} (h : RQ G W cls σ H fp r T) (s : Stp (In fp) H (In fp1) H1)
    (i : ∀ a env', T a env' → T' a env') : RQ G W cls σ H1 fp1 r T' := by
  cases r with
  | ok a e => exact i _ _ h
  | ex c e => exact fun H' fp' se st => h H' fp' se (s.trans st)
  | st => exact h
theorem RQ.of {α : Type} {σ : L2.St} {H : Hp} {fp : Nat → List Addr} {o : Option α} {env : Env} {T : α → Env → Prop} (h : RQ G W cls σ H fp (R.of o env) T) : ∃ a, o = some a ∧ T a env := by
  cases o with
  | none => exact h.elim
  | some a => exact ⟨a, rfl, h⟩
theorem Stp.drop {F : Fp} {H H' : Hp} {F' : Fp} {fd : List Addr} (s : Stp F H (fun a => F' a ∨ a ∈ fd) H') : Stp F H F' H' := s.less fun _ h => .inl h
theorem Stp.nil {F F' : Fp} {H H' : Hp} (s : Stp F H F' H') : Stp F H (fun a => F' a ∨ a ∈ ([] : List Addr)) H' := s.less fun _ h => h.elim id fun z => nomatch z
/-- a term whose value is a datum -/
theorem rdV_p {q : Bool} {r : Env → R D} {σ : L2.St} {H : Hp} {Q : VK} {env : Env} {fp : Nat → List Addr} (se : SE G H σ env fp)
    (h : RQ G W cls σ H fp (asP (r env)) fun x env' => ∀ v H' fp', SE G H' σ env' fp' → RP H' x v → Stp (In fp) H (In fp') H' → (q = true → L2.Same H H' ∧ env' = env) → Q v H') : rdV G W cls q r σ H Q := by
  refine ⟨env, fp, se, ?_⟩
  unfold asP at h
  cases hr : r env with
  | st => rw [hr] at h; exact h.elim
  | ex c e => rw [hr] at h; exact h
  | ok d e =>
    rw [hr] at h
    cases d with
    | p x => exact fun v H' fp' fd s1 r1 _ _ st sm => h v H' fp' s1 r1.ofp st.drop sm
    | _ => exact h.elim
theorem RQ.imp {α : Type} {σ : L2.St} {H : Hp} {fp : Nat → List Addr} {r : R α} {T T' : α → Env → Prop} (h : RQ G W cls σ H fp r T) (i : ∀ a env', T a env' → T' a env') : RQ G W cls σ H fp r T' := by
  cases r with
  | ok a e => exact i _ _ h
  | ex c e => exact h
  | st => exact h
theorem RQ.imp' {α : Type} {σ : L2.St} {H : Hp} {fp : Nat → List Addr} {r : R α} {T T' : α → Env → Prop} (h : RQ G W cls σ H fp r T) (i : ∀ a env', r = .ok a env' → T a env' → T' a env') : RQ G W cls σ H fp r T' := by
  cases r with
  | ok a e => exact i _ _ rfl h
  | ex c e => exact h
  | st => exact h
abbrev PostV (G : Gh) (σ : L2.St) (H : Hp) (fp : Nat → List Addr) (q : Bool) (env : Env) (Q : VK) (d : D) (env' : Env) : Prop :=
  ∀ v H' fp' fd, SE G H' σ env' fp' → RD G.K G.Cl H' d v fd → fd.Nodup → (∀ a ∈ fd, ¬ In fp' a ∧ ¬ G.Z a) → Stp (In fp) H (fun a => In fp' a ∨ a ∈ fd) H' → (q = true → L2.Same H H' ∧ env' = env) → Q v H'
theorem SE.none_in {σ : L2.St} {env : Env} {fp : Nat → List Addr} {H : Hp} (se : SE G H σ env fp) {a : Addr} (h : H a = none) : ¬ In fp a ∧ ¬ G.Z a :=
  ⟨fun hi => by have := se.owned a hi; rw [h] at this; exact this, fun hz => (se.zz a hz).2 h⟩
theorem fresh_done {σ : L2.St} {H H2 : Hp} {fp fp2 : Nat → List Addr} {q : Bool} {env env2 : Env} {Q : VK} {d : D} (se2 : SE G H2 σ env2 fp2) (st : Stp (In fp) H (In fp2) H2) (sm : q = true → L2.Same H H2 ∧ env2 = env)
    (T : PostV G σ H fp q env Q d env2) : Fresh G d H2 Q := fun v H3 fd rd nd fr same => by
  refine T v H3 fp2 fd (se2.same same) rd nd (fun a ha => se2.none_in (fr a ha)) (st.trans ⟨fun b o e _ => same b o e, fun a ha => ?_⟩) fun hq => ⟨(sm hq).1.trans same, (sm hq).2⟩
  rcases ha with ha | ha
  · exact .inl ha
  · exact .inr (fr a ha)
/-- an operand stays while the next is worked out -/
theorem stay {H H1 : Hp} {F F' : Fp} {d : D} {x : V} {f : List Addr} {b : E} (rd : RD G.K G.Cl H d x f) (st : Stp F H F' H1) (ow : OwnedF H F) (hk : okQ d b = true) (sm : quiet b = true → L2.Same H H1) : ∃ f', RD G.K G.Cl H1 d x f' := by
  cases d with
  | p y => exact ⟨[], rd.ofp.mono (st.imm ow) _ _, rfl⟩
  | _ => exact ⟨f, rd.keep (same_keep (sm (by simpa [okQ, isP] using hk)) _)⟩
/-- a term's value is read at once -/
theorem rdB_of {q : Bool} {r : Env → R D} {x : Expr} (h : PE X x (rdV G W cls q r)) : PE X x (rdB G W cls q r) := PE_imp h fun σ H Q ⟨env, fp, se, h⟩ =>
  ⟨env, fp, se, h.imp fun d env' T v H' fp' fd se' rd nd ap st sm => T v H' fp' fd se' rd st.drop sm⟩
/-- two ends of a quiet way -/
theorem sm2 {q1 q2 : Bool} {H H1 H2 : Hp} {e e1 e2 : Env} (a : q1 = true → L2.Same H H1 ∧ e1 = e) (b : q2 = true → L2.Same H1 H2 ∧ e2 = e1) : (q1 && q2) = true → L2.Same H H2 ∧ e2 = e := fun h => by
  rw [Bool.and_eq_true] at h
  exact ⟨(a h.1).1.trans (b h.2).1, (b h.2).2.trans (a h.1).2⟩
theorem nq {A : Prop} : false = true → A := fun h => by cases h

/-! ### constants, names -/
theorem de_const {x : P} {v : V} {e : Expr} {q : Bool} (h : PE X e (tC v)) (r : ∀ H, RP H x v) : PE X e (rdV G W cls q fun env => .ok (.p x) env) := PE_imp h fun σ H Q ⟨env, fp, se, T⟩ =>
  T v H fp [] se ⟨r H, rfl⟩ .nil (fun _ z => nomatch z) ⟨fun _ _ h _ => h, fun a ha => ha.elim .inl fun z => nomatch z⟩ fun _ => ⟨L2.Same.refl H, rfl⟩
theorem de_k {p : P} {e : Expr} {q : Bool} (h : chkK p e = true) : PE X e (rdV G W cls q fun env => .ok (.p p) env) := by
  unfold chkK at h
  split at h
  · exact de_const pe_non fun H => by rw [RP]
  · have e := eq_of_beq h; subst e; exact de_const pe_bl fun H => by rw [RP]
  · have e := of_decide_eq_true h; subst e; exact de_const pe_int fun H => by rw [RP]
  · have e := of_decide_eq_true h; subst e; exact de_const pe_str fun H => by rw [RP]
  · cases h
theorem visB_vis {sc : Scope} {x : Str} (h : visB sc x = true) : Vis sc x := by
  unfold visB at h
  split at h
  · exact .inl (by assumption)
  · exact .inr (.inl (by assumption))
  · exact .inr (.inr (by assumption))
  · cases h
theorem nameOk_of {x : Str} (h : nameOk x = true) : (x == ("__debug__" : Str)) = false ∧ (x == ("__classdict__" : Str)) = false ∧ x ≠ "__name__" := by
  unfold nameOk at h
  simp only [Bool.and_eq_true, Bool.not_eq_true', decide_eq_false_iff_not] at h
  exact ⟨beq_eq_false_iff_ne.mpr h.1.1, beq_eq_false_iff_ne.mpr h.1.2, h.2⟩
theorem slot_pe (cx : Ctx cf X G C W cls) {i : Nat} {e : Expr} (h : slotB cf X.env.scope i e = true) : PE X e (tVar i) := by
  unfold slotB at h
  split at h
  · simp only [Bool.and_eq_true, decide_eq_true_eq] at h
    obtain ⟨h1, h2, _⟩ := nameOk_of h.2
    exact pe_var (by rw [cx.N]; exact h.1.1) (visB_vis h.1.2) h1 h2
  · cases h
theorem de_v {i : Nat} {e : Expr} {q : Bool} (h : PE X e (tVar i)) : PE X e (rdV G W cls q (evV i)) := PE_imp h fun σ H Q ⟨env, fp, se, T⟩ => by
  unfold evV at T
  split at T
  · rename_i x hx
    obtain ⟨v, f, h1, h2, _⟩ := se.rd hx
    exact ⟨v, h1, T v H fp [] se ⟨h2.ofp, rfl⟩ .nil (fun _ z => nomatch z) Stp.refl.nil fun _ => ⟨L2.Same.refl H, rfl⟩⟩
  · exact T.elim
theorem de_vB {i : Nat} {e : Expr} {q : Bool} (h : PE X e (tVar i)) : PE X e (rdB G W cls q (orB (.v i) (evV i))) := PE_imp h fun σ H Q ⟨env, fp, se, T⟩ => by
  unfold orB at T
  split at T
  · rename_i d hx
    obtain ⟨v, f, h1, h2, _⟩ := se.rd hx
    exact ⟨v, h1, T v H fp f se h2 Stp.refl fun _ => ⟨L2.Same.refl H, rfl⟩⟩
  · rename_i hx
    unfold evV at T
    rw [show (gt env i).rd = none from hx] at T
    exact T.elim
theorem ow_lt {env : Env} {i : Nat} {d : D} (h : gt env i = .ow d) : i < env.length := gt_lt fun q => by rw [h] at q; cases q
theorem SE.ow {σ : L2.St} {env : Env} {fp : Nat → List Addr} {H : Hp} (se : SE G H σ env fp) {i : Nat} {d : D} (h : gt env i = .ow d) : ∃ v, σ[i]? = some (some v) ∧ RD G.K G.Cl H d v (fp i) := by
  obtain ⟨o, e1, r⟩ := se.sl i (ow_lt h)
  rw [h] at r
  obtain ⟨v, rfl, r⟩ := r
  exact ⟨v, e1, r⟩
theorem σ_set {σ : L2.St} {i : Nat} {o : Option V} (h : σ[i]? = some o) : σ.set i o = σ := by
  refine List.ext_getElem? fun j => ?_
  by_cases hj : i = j
  · subst hj
    have := (List.getElem?_eq_some_iff.mp h).1
    rw [List.getElem?_set_self this, h]
  · rw [List.getElem?_set_ne hj]
theorem de_mv {i : Nat} {e : Expr} (h : PE X e (tVar i)) : PE X e (rdV G W cls false (evMv i)) := PE_imp h fun σ H Q ⟨env, fp, se, T⟩ => by
  unfold evMv at T
  split at T
  · rename_i d hx
    obtain ⟨v, h1, h2⟩ := se.ow hx
    refine ⟨v, h1, ?_⟩
    have se' := se.put (i := i) (s := .no) (o := some v) (f := []) (ow_lt hx) ⟨fun _ _ h => h, fun _ _ _ h => h⟩ (fun _ _ _ h => h) rfl .nil (fun _ z => nomatch z)
    rw [σ_set h1] at se'
    refine T v H _ (fp i) se' h2 (se.nd i) (fun a ha => ⟨fun ⟨j, hj⟩ => ?_, fun hz => (se.zz a hz).1 ⟨i, ha⟩⟩) ⟨fun _ _ h _ => h, fun a ha => .inl ?_⟩ nq
    · by_cases e : j = i
      · simp only [if_pos e] at hj; cases hj
      · simp only [if_neg e] at hj; exact e (se.dj j i a hj ha)
    · rcases ha with ⟨j, hj⟩ | ha
      · by_cases e : j = i
        · simp only [if_pos e] at hj; cases hj
        · simp only [if_neg e] at hj; exact ⟨j, hj⟩
      · exact ⟨i, ha⟩
  · exact T.elim
/-- an owned list or dict, locked for good, is a datum -/
theorem frz_rp {H : Hp} {d : D} {x : P} {v : V} {fd : List Addr} (r : RD G.K G.Cl H d v fd) (e : frz d = some x) : (RP H x v ∧ fd = []) ∨ ∃ a u, v = .ref a ∧ H a = some u ∧ Mut (some u) ∧ fd = [a] ∧ ∀ o, RP (upd H a (.frz o u)) x v := by
  cases d with
  | p y => cases e; exact .inl r
  | ml xs =>
    cases e
    obtain ⟨a, vs, rfl, h1, s1, rfl⟩ := r
    refine .inr ⟨a, _, rfl, h1, trivial, rfl, fun o => ?_⟩
    rw [RP]
    exact ⟨a, vs, rfl, ⟨o, upd_same⟩, s1.mono (imm_upd h1 trivial) _ _⟩
  | dc t kvs =>
    cases t with
    | false =>
      cases e
      obtain ⟨a, kw, rfl, h1, s1, rfl⟩ := r
      refine .inr ⟨a, _, rfl, h1, trivial, rfl, fun o => ?_⟩
      rw [RP]
      exact ⟨a, kw, rfl, ⟨o, upd_same⟩, s1.mono (imm_upd h1 trivial) _ _⟩
    | true => cases e
  | _ => cases e
theorem de_fz {i : Nat} {e : Expr} (h : PE X e (tVar i)) : PE X e (rdV G W cls false (evFz i)) := PE_imp (pe_frz h) fun σ H Q ⟨env, fp, se, T⟩ => by
  unfold evFz at T
  split at T
  · rename_i d hx
    split at T
    · rename_i x hf
      obtain ⟨v, h1, h2⟩ := se.ow hx
      refine ⟨v, h1, ?_⟩
      rcases frz_rp h2 hf with ⟨r, e0⟩ | ⟨a, u, rfl, ha, mu, e0, r⟩
      · refine .inl ?_
        have se' := se.put (i := i) (s := .ow (.p x)) (o := some v) (f := []) (ow_lt hx) ⟨fun _ _ h => h, fun _ _ _ h => h⟩ (fun _ _ _ h => h) ⟨v, rfl, r, rfl⟩ .nil (fun _ z => nomatch z)
        rw [σ_set h1] at se'
        refine T v H _ [] se' ⟨r, rfl⟩ .nil (fun _ z => nomatch z) ⟨fun _ _ h _ => h, fun a ha => .inl ?_⟩ nq
        rcases ha with ⟨j, hj⟩ | ha
        · by_cases e : j = i
          · simp only [if_pos e] at hj; cases hj
          · simp only [if_neg e] at hj; exact ⟨j, hj⟩
        · cases ha
      · refine .inr ⟨a, u, rfl, ha, mu, fun o => ?_⟩
        have hin : a ∈ fp i := by rw [e0]; simp
        have im : Imm H (upd H a (.frz o u)) := imm_upd ha mu
        have se' := se.put (i := i) (s := .ow (.p x)) (o := some (.ref a)) (f := []) (ow_lt hx) im (fun b hb ob e => by
          rw [upd_ne (fun z => ?_)]; exact e
          subst z
          rcases hb with ⟨j, hj, hm⟩ | hz
          · exact hj (se.dj j i b hm hin)
          · exact (se.zz b hz).1 ⟨i, hin⟩) ⟨_, rfl, r o, rfl⟩ .nil (fun _ z => nomatch z)
        rw [σ_set h1] at se'
        refine T _ _ _ [] se' ⟨r o, rfl⟩ .nil (fun _ z => nomatch z) ⟨fun b ob e hb => ?_, fun b hb => .inl ?_⟩ nq
        · rw [upd_ne (fun z => hb (by rw [z]; exact ⟨i, hin⟩))]; exact e
        · rcases hb with ⟨j, hj⟩ | hb
          · by_cases e : j = i
            · simp only [if_pos e] at hj; cases hj
            · simp only [if_neg e] at hj; exact ⟨j, hj⟩
          · cases hb
    · exact T.elim
  · exact T.elim
theorem de_fr {e : Expr} {q : Bool} {r : Env → R D} (h : PE X e (rdV G W cls q r)) : PE X e (rdV G W cls false fun env => (r env).bind frzD) := PE_imp (pe_frz h) fun σ H Q ⟨env, fp, se, T⟩ => by
  refine ⟨env, fp, se, T.bind.imp fun d env' T v H' fp' fd se' rd nd ap st sm => ?_⟩
  unfold frzD at T
  split at T
  · rename_i x hf
    rcases frz_rp rd hf with ⟨r, e0⟩ | ⟨a, u, rfl, ha, mu, e0, r⟩
    · exact .inl (T v H' fp' [] se' ⟨r, rfl⟩ .nil (fun _ z => nomatch z) st.drop.nil nq)
    · refine .inr ⟨a, u, rfl, ha, mu, fun o => ?_⟩
      have hin : a ∈ fd := by rw [e0]; simp
      have im : Imm H' (upd H' a (.frz o u)) := imm_upd ha mu
      have se2 : SE G (upd H' a (.frz o u)) σ env' fp' := se'.keep im fun b hb ob e => by
        rw [upd_ne (fun z => by subst z; exact hb.elim (ap b hin).1 (ap b hin).2)]; exact e
      refine T _ _ fp' [] se2 ⟨r o, rfl⟩ .nil (fun _ z => nomatch z) ⟨fun b ob e hb => ?_, fun b hb => ?_⟩ nq
      · have hne : b ≠ a := fun z => by
          subst z
          rcases st.ow b (.inr hin) with q | q
          · exact hb q
          · rw [e] at q; cases q
        rw [upd_ne hne]
        exact st.st b ob e hb
      · rcases hb with hb | hb
        · exact st.ow b (.inl hb)
        · cases hb
  · exact T.elim
end
end DL

/-! DL8: the rules, construct by construct (2). -/
namespace DL
open PySem PySem.Spec PyProof.Rows L2
section
variable {cf : Cf} {X : Cx} {G : Gh} {C : Calls} {W : WX} {cls : String → Addr}

/-! ### displays, argument lists -/
theorem starEach_plain {e : Expr} {es : List Expr} {env : PySem.Env} (h : (match e with | .Starred _ _ => false | _ => true) = true) : starEach (e :: es) env = (false, eval e env) :: starEach es env := by
  cases e <;> first | rfl | (cases h)
theorem de_nilS {q : Bool} : PA X [] (rdS G W cls q fun env => .ok [] env) := PA_imp pa_nil fun σ H Q ⟨env, fp, se, T⟩ =>
  T [] H fp se (by rw [RPs]) Stp.refl fun _ => ⟨L2.Same.refl H, rfl⟩
theorem de_consS {q1 q2 : Bool} {e : Expr} {es : List Expr} {r : Env → R D} {rs : Env → R (List P)} (h : PE X e (rdV G W cls q1 r)) (hs : PA X es (rdS G W cls q2 rs)) (ns : starEach (e :: es) X.env = (false, eval e X.env) :: starEach es X.env) :
    PA X (e :: es) (rdS G W cls (q1 && q2) fun env => (asP (r env)).bind fun x env => (rs env).bind fun xs env => .ok (x :: xs) env) := PA_imp (pa_cons h hs ns) fun σ H Q ⟨env, fp, se, T⟩ => by
  refine rdV_p se (T.bind.imp fun x env1 T v H1 fp1 se1 rv st1 sm1 => ?_)
  refine ⟨env1, fp1, se1, (T.bind.later st1 fun xs env2 T vs H2 fp2 se2 rvs st2 sm => ?_)⟩
  exact T (v :: vs) H2 fp2 se2 (.cons (rv.mono (st2.imm se1.owned) _ _) rvs) (st1.trans st2) (sm2 sm1 sm)
theorem de_nilN : PA X [] (rdN G W cls fun env => .ok [] env) := PA_imp pa_nil fun σ H Q ⟨env, fp, se, T⟩ =>
  T [] H fp [] se ⟨rfl, rfl⟩ .nil (fun _ z => nomatch z) Stp.refl.nil
theorem de_consN {q1 : Bool} {e : Expr} {es : List Expr} {r : Env → R D} {rs : Env → R (List D1)} (h : PE X e (rdV G W cls q1 r)) (hs : PA X es (rdN G W cls rs)) (ns : starEach (e :: es) X.env = (false, eval e X.env) :: starEach es X.env) :
    PA X (e :: es) (rdN G W cls fun env => (r env).bind fun d env => (R.of d.d1 env).bind fun x env => (rs env).bind fun xs env => .ok (x :: xs) env) := PA_imp (pa_cons h hs ns) fun σ H Q ⟨env, fp, se, T⟩ => by
  refine ⟨env, fp, se, T.bind.imp fun d env1 T v H1 fp1 fd1 se1 rd1 nd1 ap1 st1 sm1 => ?_⟩
  obtain ⟨x, hx, T⟩ := T.bind.of
  refine ⟨env1, fp1, se1, (T.bind.later st1.drop fun xs env2 T vs H2 fp2 fd2 se2 rd2 nd2 ap2 st2 => ?_)⟩
  have own1 := rd1.owned
  have there : ∀ a ∈ fd1, H1 a ≠ none := fun a ha e => by have := own1 a ha; rw [e] at this; exact this
  have kp : Keep fd1 H1 H2 := st2.keep se1.owned fun a ha => (ap1 a ha).1
  have dj : ∀ a ∈ fd1, ¬ In fp2 a ∧ a ∉ fd2 := fun a ha => by
    have := st2.apart (there a ha) (ap1 a ha).1
    exact ⟨fun z => this (.inl z), fun z => this (.inr z)⟩
  refine T (v :: vs) H2 fp2 (fd1 ++ fd2) se2 ⟨v, vs, fd1, fd2, rfl, (D.toD1 rd1 hx).keep kp, rd2, rfl⟩ (List.nodup_append.mpr ⟨nd1, nd2, fun a ha b hb e => (dj a ha).2 (e ▸ hb)⟩) (fun a ha => ?_) ⟨fun b o e hb => ?_, fun b hb => ?_⟩
  · rcases List.mem_append.mp ha with ha | ha
    · exact ⟨(dj a ha).1, (ap1 a ha).2⟩
    · exact ap2 a ha
  · have h1 := st1.st b o e hb
    exact st2.st b o h1 fun z => st1.apart (by rw [e]; exact fun z => nomatch z) hb (.inl z)
  · have back : ∀ b, (In fp1 b ∨ H1 b = none) → In fp b ∨ H b = none := fun b hb => by
      rcases hb with hb | hb
      · exact st1.ow b (.inl hb)
      · by_cases hf : In fp b
        · exact .inl hf
        · refine .inr ?_
          cases z : H b with
          | none => rfl
          | some o => rw [st1.st b o z hf] at hb; cases hb
    rcases hb with hb | hb
    · exact back b (st2.ow b (.inl hb))
    · rcases List.mem_append.mp hb with hb | hb
      · exact st1.ow b (.inr hb)
      · exact back b (st2.ow b (.inr hb))
theorem de_tup {q : Bool} {es : List Expr} {k : Nat} {pos : Pos} {rs : Env → R (List P)} (hs : PA X es (rdS G W cls q rs)) (hl : es.length ≤ 1000) (hlen : ∀ env xs env', rs env = .ok xs env' → xs.length = es.length) :
    PE X (.Tuple es k pos) (rdV G W cls q fun env => (rs env).bind fun xs env => .ok (.p (.tuple xs)) env) := PE_imp (pe_tupF hs) fun σ H Q ⟨env, fp, se, T⟩ => by
  refine ⟨env, fp, se, RQ.imp' T.bind fun xs env1 hrs T vs H1 fp1 se1 rv st1 sm1 => ⟨?_, fun p o n hd => Fresh.tup (fresh_done se1 st1 sm1 T) n rv hd⟩⟩
  rw [rv.length, hlen env xs env1 hrs, sizeLine_eq]
  omega
theorem de_lst {q : Bool} {es : List Expr} {pos : Pos} {rs : Env → R (List P)} (hs : PA X es (rdS G W cls q rs)) (hl : es.length ≤ 1000) (hlen : ∀ env xs env', rs env = .ok xs env' → xs.length = es.length) :
    PE X (.List es pos) (rdV G W cls q fun env => (rs env).bind fun xs env => .ok (.ml xs) env) := PE_imp (pe_lst hs) fun σ H Q ⟨env, fp, se, T⟩ => by
  refine ⟨env, fp, se, RQ.imp' T.bind fun xs env1 hrs T vs H1 fp1 se1 rv st1 sm1 => ⟨?_, fun p n => Fresh.ml (fresh_done se1 st1 sm1 T) n rv⟩⟩
  rw [rv.length, hlen env xs env1 hrs, sizeLine_eq]
  omega
theorem de_lsn {es : List Expr} {pos : Pos} {rs : Env → R (List D1)} (hs : PA X es (rdN G W cls rs)) (hl : es.length ≤ 1000) (hlen : ∀ env xs env', rs env = .ok xs env' → xs.length = es.length) :
    PE X (.List es pos) (rdV G W cls false fun env => (rs env).bind fun xs env => .ok (.ne xs) env) := PE_imp (pe_lst hs) fun σ H Q ⟨env, fp, se, T⟩ => by
  refine ⟨env, fp, se, RQ.imp' T.bind fun xs env1 hrs T vs H1 fp1 fd1 se1 rd1 nd1 ap1 st1 => ⟨?_, fun p n => ?_⟩⟩
  · rw [rd1.length, hlen env xs env1 hrs, sizeLine_eq]
    omega
  · have own1 := rd1.owned
    have np : p ∉ fd1 := fun z => by have := own1 p z; rw [n] at this; exact this
    have sm := same_upd (o := .lst vs) n
    obtain ⟨n1, n2⟩ := se1.none_in n
    refine T _ _ fp1 (p :: fd1) (se1.same sm) ⟨p, vs, fd1, rfl, upd_same, rd1.keep (same_keep sm _), rfl⟩ (List.nodup_cons.mpr ⟨np, nd1⟩) (fun a ha => ?_) ⟨fun b o e hb => sm b o (st1.st b o e hb), fun b hb => ?_⟩ nq
    · rcases List.mem_cons.mp ha with rfl | ha
      · exact ⟨n1, n2⟩
      · exact ap1 a ha
    · rcases hb with hb | hb
      · exact st1.ow b (.inl hb)
      · rcases List.mem_cons.mp hb with rfl | hb
        · by_cases hf : In fp b
          · exact .inl hf
          · refine .inr ?_
            cases z : H b with
            | none => rfl
            | some o => rw [st1.st b o z hf] at n; cases n
        · exact st1.ow b (.inr hb)

/-! ### operators -/
theorem de_bin (hK : X.K = G.K) {o : BOp} {a b : Expr} {ta : Env → R D} {tb : Env → R D} {qa qb : Bool} {eb : E} {pos : Pos} (ha : PE X a (rdB G W cls qa ta)) (hb : PE X b (rdB G W cls qb tb)) (hq : qb = quiet eb) :
    PE X (.BinOp a (pyB o) b pos) (rdV G W cls (qa && qb) fun env => (ta env).bind fun d1 env => (tb env).bind fun d2 env => R.of (if okQ d1 eb = true then op2 o d1 d2 else none) env) := by
  obtain ⟨r, ho, hr⟩ := op2_ok (X := X) (G := G) hK o
  refine PE_imp (pe_op ho ha hb) fun σ H Q ⟨env, fp, se, T⟩ => ?_
  refine ⟨env, fp, se, T.bind.imp fun d1 env1 T x H1 fp1 fd1 se1 rd1 st1 sm1 => ?_⟩
  refine ⟨env1, fp1, se1, T.bind.later st1 fun d2 env2 T y H2 fp2 fd2 se2 rd2 st2 sm2' => ?_⟩
  obtain ⟨d, e, T⟩ := T.of
  split at e
  · rename_i hk
    obtain ⟨f1, rd1⟩ := stay rd1 st2 se1.owned hk fun h => (sm2' (hq.trans h)).1
    exact hr x y H2 Q d1 d2 d f1 fd2 rd1 rd2 e (fresh_done se2 (st1.trans st2) (sm2 sm1 sm2') T)
  · cases e
theorem boolD_of {σ : L2.St} {H : Hp} {fp : Nat → List Addr} {o : Option Bool} {env : Env} {T : D → Env → Prop} (h : RQ G W cls σ H fp (boolD o env) T) : ∃ k, o = some k ∧ T (.p (.bool k)) env := by
  cases o with
  | none => exact h.elim
  | some k => exact ⟨k, rfl, h⟩
theorem notSet_mark {op : CmpOp} {b : Expr} (h : noSet b = true) : behindInMarks op b = false := by
  cases b <;> first | rfl | (cases h)
theorem de_cmp (cx : Ctx cf X G C W cls) {o : COp} {a b : Expr} {ta : Env → R D} {tb : Env → R D} {qa qb : Bool} {eb : E} {pos : Pos} (ha : PE X a (rdB G W cls qa ta)) (hb : PE X b (rdB G W cls qb tb)) (hq : qb = quiet eb) (hm : noSet b = true) :
    PE X (.Compare a [pyC o] [b] pos) (rdV G W cls false fun env => (ta env).bind fun d1 env => (tb env).bind fun d2 env => boolD (if okQ d1 eb = true then opC o d1 d2 else none) env) := by
  obtain ⟨r, ho, hr⟩ := opC_ok (X := X) (G := G) cx.K cx.units cx.wd o
  refine PE_imp (pe_cmpR ho ha hb (notSet_mark hm)) fun σ H Q ⟨env, fp, se, T⟩ => ?_
  refine ⟨env, fp, se, T.bind.imp fun d1 env1 T x H1 fp1 fd1 se1 rd1 st1 sm1 => ?_⟩
  refine ⟨env1, fp1, se1, T.bind.later st1 fun d2 env2 T y H2 fp2 fd2 se2 rd2 st2 sm2' => ?_⟩
  obtain ⟨k, e, T⟩ := boolD_of T
  split at e
  · rename_i hk
    obtain ⟨f1, rd1⟩ := stay rd1 st2 se1.owned hk fun h => (sm2' (hq.trans h)).1
    exact hr x y H2 Q d1 d2 k f1 fd2 rd1 rd2 e (Fresh.p (fresh_done se2 (st1.trans st2) nq T) (by rw [RP]))
  · cases e
theorem dt_cmp (cx : Ctx cf X G C W cls) {o : COp} {a b : Expr} {ta : Env → R D} {tb : Env → R D} {qa qb : Bool} {eb : E} {pos : Pos} (ha : PE X a (rdB G W cls qa ta)) (hb : PE X b (rdB G W cls qb tb)) (hq : qb = quiet eb) (hm : noSet b = true) :
    PT X (.Compare a [pyC o] [b] pos) (rdT G W cls fun env => ((ta env).bind fun d1 env => (tb env).bind fun d2 env => boolD (if okQ d1 eb = true then opC o d1 d2 else none) env).bind fun d env => R.of (truth d) env) := by
  obtain ⟨r, ho, hr⟩ := opC_ok (X := X) (G := G) cx.K cx.units cx.wd o
  refine PT_imp (pt_cmpR ho ha hb (notSet_mark hm)) fun σ H Q ⟨env, fp, se, T⟩ => ?_
  refine ⟨env, fp, se, T.bind.bind.imp fun d1 env1 T x H1 fp1 fd1 se1 rd1 st1 sm1 => ?_⟩
  refine ⟨env1, fp1, se1, T.bind.later st1 fun d2 env2 T y H2 fp2 fd2 se2 rd2 st2 sm2' => ?_⟩
  obtain ⟨k, e, T⟩ := boolD_of T
  obtain ⟨k', e', T⟩ := T.of
  cases e'
  split at e
  · rename_i hk
    obtain ⟨f1, rd1⟩ := stay rd1 st2 se1.owned hk fun h => (sm2' (hq.trans h)).1
    exact hr x y H2 _ d1 d2 k f1 fd2 rd1 rd2 e ⟨k, rfl, T H2 fp2 se2 (st1.trans st2)⟩
  · cases e
theorem dt_cmpQ (cx : Ctx cf X G C W cls) {o : COp} {a b : Expr} {ta : Env → R D} {tb : Env → R D} {eb : E} {pos : Pos} (ha : PE X a (rdB G W cls true ta)) (hb : PE X b (rdB G W cls true tb)) (hq : true = quiet eb) (hm : noSet b = true) :
    PT X (.Compare a [pyC o] [b] pos) (rdTQ G W cls fun env => ((ta env).bind fun d1 env => (tb env).bind fun d2 env => boolD (if okQ d1 eb = true then opC o d1 d2 else none) env).bind fun d env => R.of (truth d) env) := by
  obtain ⟨r, ho, hr⟩ := opC_ok (X := X) (G := G) cx.K cx.units cx.wd o
  refine PT_imp (pt_cmpR ho ha hb (notSet_mark hm)) fun σ H Q ⟨env, fp, se, T⟩ => ?_
  refine ⟨env, fp, se, T.bind.bind.imp fun d1 env1 T x H1 fp1 fd1 se1 rd1 st1 sm1 => ?_⟩
  refine ⟨env1, fp1, se1, T.bind.later st1 fun d2 env2 T y H2 fp2 fd2 se2 rd2 st2 sm2' => ?_⟩
  obtain ⟨k, e, T⟩ := boolD_of T
  obtain ⟨k', e', T⟩ := T.of
  cases e'
  split at e
  · rename_i hk
    obtain ⟨f1, rd1⟩ := stay rd1 st2 se1.owned hk fun h => (sm2' (hq.trans h)).1
    exact hr x y H2 _ d1 d2 k f1 fd2 rd1 rd2 e ⟨k, rfl, T H2 fp2 se2 (st1.trans st2) ⟨(sm1 rfl).1.trans (sm2' rfl).1, (sm2' rfl).2.trans (sm1 rfl).2⟩⟩
  · cases e
/-- a plain term as a test -/
theorem dt_plain (hK : X.K = G.K) {a : Expr} {q : Bool} {ta : Env → R D} (ha : PE X a (rdB G W cls q ta)) (he : ∀ whole, isTrue a X.env whole = (do let v ← whole; standAt a.pos; holding [v] (truthy v))) :
    PT X a (rdT G W cls fun env => (ta env).bind fun d env => R.of (truth d) env) := by
  obtain ⟨r, ho, hr⟩ := tru_ok' (X := X) (G := G) hK
  refine ⟨fun pins s σ H Q I ⟨env, fp, se, T⟩ => ?_⟩
  refine isTrue_plain (thn (ha.run pins s σ H (fun v H1 => r v H1 Q) I ⟨env, fp, se, T.bind.imp fun d env1 T x H1 fp1 fd1 se1 rd1 st1 sm1 => ?_⟩) fun v s1 ⟨x, H1, I1, r1, q1⟩ => ho pins s1 σ H1 x v Q I1 r1 q1) (he _)
  obtain ⟨k, e, T⟩ := T.of
  exact hr x H1 Q d k fd1 rd1 e (T H1 fp1 se1 st1)
/-- two data in a chain -/
theorem de_chn (cx : Ctx cf X G C W cls) {o o' : COp} {a b c : Expr} {ta tb tc : Env → R D} {qa qb qc : Bool} {pos : Pos} (ha : PE X a (rdV G W cls qa ta)) (hb : PE X b (rdV G W cls qb tb)) (hc : PE X c (rdV G W cls qc tc)) (hm : lastMarks [pyC o, pyC o'] [b, c] = false) :
    PE X (.Compare a [pyC o, pyC o'] [b, c] pos) (rdV G W cls false fun env => (asP (ta env)).bind fun x env => (asP (tb env)).bind fun y env => (R.of (opC o (.p x) (.p y)) env).bind fun k env =>
      if k = true then (asP (tc env)).bind fun z env => boolD (opC o' (.p y) (.p z)) env else .ok (.p (.bool false)) env) := by
  obtain ⟨r, ho, hr⟩ := opC_ok (X := X) (G := G) cx.K cx.units cx.wd o
  obtain ⟨r', ho', hr'⟩ := opC_ok (X := X) (G := G) cx.K cx.units cx.wd o'
  refine PE_imp (pe_chain ho ho' ha hb hc hm) fun σ H Q ⟨env, fp, se, T⟩ => ?_
  refine rdV_p se (T.bind.imp fun x env1 T v1 H1 fp1 se1 r1 st1 sm1 => ?_)
  refine rdV_p se1 (T.bind.later st1 fun y env2 T v2 H2 fp2 se2 r2 st2 sm2' => ?_)
  obtain ⟨k, e, T⟩ := T.bind.of
  have r1 := r1.mono (st2.imm se1.owned) _ _
  refine hr v1 v2 H2 _ (.p x) (.p y) k [] [] ⟨r1, rfl⟩ ⟨r2, rfl⟩ e ⟨k, rfl, ?_⟩
  cases k with
  | false => exact T (.bl false) H2 fp2 [] se2 ⟨by rw [RP], rfl⟩ .nil (fun _ z => nomatch z) (st1.trans st2).nil nq
  | true =>
    refine rdV_p se2 (RQ.later (RQ.bind T) (st1.trans st2) fun z env3 T v3 H3 fp3 se3 r3 st3 sm3 => ?_)
    obtain ⟨k', e', T⟩ := boolD_of T
    exact hr' v2 v3 H3 Q (.p y) (.p z) k' [] [] ⟨r2.mono (st3.imm se2.owned) _ _, rfl⟩ ⟨r3, rfl⟩ e' (T (.bl k') H3 fp3 [] se3 ⟨by rw [RP], rfl⟩ .nil (fun _ z => nomatch z) ((st1.trans st2).trans st3).nil nq)
theorem dt_chn (cx : Ctx cf X G C W cls) {o o' : COp} {a b c : Expr} {ta tb tc : Env → R D} {qa qb qc : Bool} {pos : Pos} (ha : PE X a (rdV G W cls qa ta)) (hb : PE X b (rdV G W cls qb tb)) (hc : PE X c (rdV G W cls qc tc)) (hm : lastMarks [pyC o, pyC o'] [b, c] = false) :
    PT X (.Compare a [pyC o, pyC o'] [b, c] pos) (rdT G W cls fun env => ((asP (ta env)).bind fun x env => (asP (tb env)).bind fun y env => (R.of (opC o (.p x) (.p y)) env).bind fun k env =>
      if k = true then (asP (tc env)).bind fun z env => boolD (opC o' (.p y) (.p z)) env else .ok (.p (.bool false)) env).bind fun d env => R.of (truth d) env) := by
  obtain ⟨r, ho, hr⟩ := opC_ok (X := X) (G := G) cx.K cx.units cx.wd o
  obtain ⟨r', ho', hr'⟩ := opC_ok (X := X) (G := G) cx.K cx.units cx.wd o'
  refine PT_imp (pt_chain ho ho' ha hb hc hm) fun σ H Q ⟨env, fp, se, T⟩ => ?_
  refine rdV_p se (T.bind.bind.imp fun x env1 T v1 H1 fp1 se1 r1 st1 sm1 => ?_)
  refine rdV_p se1 (T.bind.later st1 fun y env2 T v2 H2 fp2 se2 r2 st2 sm2' => ?_)
  obtain ⟨k, e, T⟩ := T.bind.of
  have r1 := r1.mono (st2.imm se1.owned) _ _
  refine hr v1 v2 H2 _ (.p x) (.p y) k [] [] ⟨r1, rfl⟩ ⟨r2, rfl⟩ e ⟨k, rfl, ?_⟩
  cases k with
  | false =>
    rw [if_neg (by decide)] at T
    dsimp only [RQ, truth, R.of] at T
    exact ⟨false, rfl, T H2 fp2 se2 (st1.trans st2)⟩
  | true =>
    rw [if_pos rfl] at T
    refine rdV_p se2 (RQ.later (RQ.bind (r := asP (tc env2)) T) (st1.trans st2) fun z env3 T v3 H3 fp3 se3 r3 st3 sm3 => ?_)
    obtain ⟨k', e', T⟩ := boolD_of T
    obtain ⟨k2, e2, T⟩ := T.of
    cases e2
    exact hr' v2 v3 H3 _ (.p y) (.p z) k' [] [] ⟨r2.mono (st3.imm se2.owned) _ _, rfl⟩ ⟨r3, rfl⟩ e' ⟨k', rfl, T H3 fp3 se3 ((st1.trans st2).trans st3)⟩
theorem de_neg {a : Expr} {ta : Env → R D} {qa : Bool} {pos : Pos} (ha : PE X a (rdV G W cls qa ta)) : PE X (.UnaryOp .USub a pos) (rdV G W cls qa fun env => (ta env).bind fun d env => R.of (negD d) env) := by
  refine PE_imp (pe_un un_neg ha) fun σ H Q ⟨env, fp, se, T⟩ => ?_
  refine ⟨env, fp, se, T.bind.imp fun d env1 T x H1 fp1 fd1 se1 rd1 nd1 ap1 st1 sm1 => ?_⟩
  obtain ⟨d', e, T⟩ := T.of
  unfold negD at e
  split at e
  · cases e
    exact ⟨_, rd1.ofp.int, Fresh.p (fresh_done se1 st1.drop sm1 T) (by rw [RP])⟩
  · cases e

/-! ### and, or, not -/
theorem boolOf_some {d : D} {k : Bool} (h : boolOf d = some k) : d = .p (.bool k) := by
  unfold boolOf at h
  split at h
  · cases h; rfl
  · cases h
theorem de_an {a b : Expr} {rest : List Expr} {ta tb : Env → R D} {qa qb : Bool} {pos : Pos} (ha : PE X a (rdV G W cls qa ta)) (hb : PE X (.BoolOp .And (b :: rest) pos) (rdV G W cls qb tb)) :
    PE X (.BoolOp .And (a :: b :: rest) pos) (rdV G W cls false fun env => (ta env).bind fun d env => (R.of (boolOf d) env).bind fun k env => if k = true then tb env else .ok (.p (.bool false)) env) := by
  refine PE_imp (pe_and ha hb) fun σ H Q ⟨env, fp, se, T⟩ => ?_
  refine ⟨env, fp, se, T.bind.imp fun d env1 T x H1 fp1 fd1 se1 rd1 nd1 ap1 st1 sm1 => ?_⟩
  obtain ⟨k, e, T⟩ := T.bind.of
  cases boolOf_some e
  refine ⟨k, rd1.ofp.bool, ?_⟩
  cases k with
  | false => exact T (.bl false) H1 fp1 [] se1 ⟨by rw [RP], rfl⟩ .nil (fun _ z => nomatch z) st1.drop.nil nq
  | true => exact ⟨env1, fp1, se1, RQ.later T st1.drop fun d env2 T v H2 fp2 fd2 se2 rd2 nd2 ap2 st2 sm2' => T v H2 fp2 fd2 se2 rd2 nd2 ap2 (st1.drop.trans st2) nq⟩
theorem de_orr {a b : Expr} {rest : List Expr} {ta tb : Env → R D} {qa qb : Bool} {pos : Pos} (ha : PE X a (rdV G W cls qa ta)) (hb : PE X (.BoolOp .Or (b :: rest) pos) (rdV G W cls qb tb)) :
    PE X (.BoolOp .Or (a :: b :: rest) pos) (rdV G W cls false fun env => (ta env).bind fun d env => (R.of (boolOf d) env).bind fun k env => if k = true then .ok (.p (.bool true)) env else tb env) := by
  refine PE_imp (pe_or ha hb) fun σ H Q ⟨env, fp, se, T⟩ => ?_
  refine ⟨env, fp, se, T.bind.imp fun d env1 T x H1 fp1 fd1 se1 rd1 nd1 ap1 st1 sm1 => ?_⟩
  obtain ⟨k, e, T⟩ := T.bind.of
  cases boolOf_some e
  refine ⟨k, rd1.ofp.bool, ?_⟩
  cases k with
  | true => exact T (.bl true) H1 fp1 [] se1 ⟨by rw [RP], rfl⟩ .nil (fun _ z => nomatch z) st1.drop.nil nq
  | false => exact ⟨env1, fp1, se1, RQ.later T st1.drop fun d env2 T v H2 fp2 fd2 se2 rd2 nd2 ap2 st2 sm2' => T v H2 fp2 fd2 se2 rd2 nd2 ap2 (st1.drop.trans st2) nq⟩
theorem de_nt {a : Expr} {ta : Env → R D} {qa : Bool} {pos : Pos} (ha : PE X a (rdV G W cls qa ta)) : PE X (.UnaryOp .Not a pos) (rdV G W cls false fun env => (ta env).bind fun d env => (R.of (boolOf d) env).bind fun k env => .ok (.p (.bool (!k))) env) := by
  refine PE_imp (pe_not ha) fun σ H Q ⟨env, fp, se, T⟩ => ?_
  refine ⟨env, fp, se, T.bind.imp fun d env1 T x H1 fp1 fd1 se1 rd1 nd1 ap1 st1 sm1 => ?_⟩
  obtain ⟨k, e, T⟩ := T.bind.of
  cases boolOf_some e
  exact ⟨k, rd1.ofp.bool, T (.bl (!k)) H1 fp1 [] se1 ⟨by rw [RP], rfl⟩ .nil (fun _ z => nomatch z) st1.drop.nil nq⟩
abbrev PWs (X : Cx) (e : Expr) (t : TT) : Prop := PW X e t
theorem dt_an {a b : Expr} {rest : List Expr} {ta tb : Env → R Bool} {pos : Pos} (ha : PT X a (rdT G W cls ta)) (hb : PW X (.BoolOp .And (b :: rest) pos) (rdT G W cls tb)) :
    PW X (.BoolOp .And (a :: b :: rest) pos) (rdT G W cls fun env => (ta env).bind fun k env => if k = true then tb env else .ok false env) := by
  have h := pw_and ha hb
  refine ⟨fun wh pins s σ H Q I ⟨env, fp, se, T⟩ => h.run wh pins s σ H Q I ⟨env, fp, se, T.bind.imp fun k env1 T H1 fp1 se1 st1 => ?_⟩⟩
  cases k with
  | false => exact T H1 fp1 se1 st1
  | true => exact ⟨env1, fp1, se1, RQ.later T st1 fun d env2 T H2 fp2 se2 st2 => T H2 fp2 se2 (st1.trans st2)⟩
theorem dt_orr {a b : Expr} {rest : List Expr} {ta tb : Env → R Bool} {pos : Pos} (ha : PT X a (rdT G W cls ta)) (hb : PW X (.BoolOp .Or (b :: rest) pos) (rdT G W cls tb)) :
    PW X (.BoolOp .Or (a :: b :: rest) pos) (rdT G W cls fun env => (ta env).bind fun k env => if k = true then .ok true env else tb env) := by
  have h := pw_or ha hb
  refine ⟨fun wh pins s σ H Q I ⟨env, fp, se, T⟩ => h.run wh pins s σ H Q I ⟨env, fp, se, T.bind.imp fun k env1 T H1 fp1 se1 st1 => ?_⟩⟩
  cases k with
  | true => exact T H1 fp1 se1 st1
  | false => exact ⟨env1, fp1, se1, RQ.later T st1 fun d env2 T H2 fp2 se2 st2 => T H2 fp2 se2 (st1.trans st2)⟩
theorem dt_nt {a : Expr} {ta : Env → R Bool} {pos : Pos} (ha : PT X a (rdT G W cls ta)) : PT X (.UnaryOp .Not a pos) (rdT G W cls fun env => (ta env).bind fun k env => .ok (!k) env) :=
  PT_imp (pt_not ha) fun σ H Q ⟨env, fp, se, T⟩ => ⟨env, fp, se, T.bind.imp fun k env1 T H1 fp1 se1 st1 => T H1 fp1 se1 st1⟩
theorem de_ife {c a b : Expr} {tc : Env → R Bool} {ta tb : Env → R D} {qa qb : Bool} {pos : Pos} (hc : PT X c (rdT G W cls tc)) (ha : PE X a (rdV G W cls qa ta)) (hb : PE X b (rdV G W cls qb tb)) :
    PE X (.IfExp c a b pos) (rdV G W cls false fun env => (tc env).bind fun k env => if k = true then ta env else tb env) := by
  refine PE_imp (pe_ifExp hc ha hb) fun σ H Q ⟨env, fp, se, T⟩ => ?_
  refine ⟨env, fp, se, T.bind.imp fun k env1 T H1 fp1 se1 st1 => ?_⟩
  cases k with
  | true => exact ⟨env1, fp1, se1, RQ.later T st1 fun d env2 T v H2 fp2 fd2 se2 rd2 nd2 ap2 st2 sm2' => T v H2 fp2 fd2 se2 rd2 nd2 ap2 (st1.trans st2) nq⟩
  | false => exact ⟨env1, fp1, se1, RQ.later T st1 fun d env2 T v H2 fp2 fd2 se2 rd2 nd2 ap2 st2 sm2' => T v H2 fp2 fd2 se2 rd2 nd2 ap2 (st1.trans st2) nq⟩

theorem de_ifeQ {c a b : Expr} {tc : Env → R Bool} {ta tb : Env → R D} {qa qb : Bool} {pos : Pos} (hc : PT X c (rdTQ G W cls tc)) (ha : PE X a (rdV G W cls qa ta)) (hb : PE X b (rdV G W cls qb tb)) :
    PE X (.IfExp c a b pos) (rdV G W cls (qa && qb) fun env => (tc env).bind fun k env => if k = true then ta env else tb env) := by
  refine PE_imp (pe_ifExp hc ha hb) fun σ H Q ⟨env, fp, se, T⟩ => ?_
  refine ⟨env, fp, se, T.bind.imp fun k env1 T H1 fp1 se1 st1 sm1 => ?_⟩
  cases k with
  | true => exact ⟨env1, fp1, se1, RQ.later T st1 fun d env2 T v H2 fp2 fd2 se2 rd2 nd2 ap2 st2 sm2' => T v H2 fp2 fd2 se2 rd2 nd2 ap2 (st1.trans st2) fun q => by
      have q := (Bool.and_eq_true _ _ |>.mp q).1
      exact ⟨sm1.1.trans (sm2' q).1, (sm2' q).2.trans sm1.2⟩⟩
  | false => exact ⟨env1, fp1, se1, RQ.later T st1 fun d env2 T v H2 fp2 fd2 se2 rd2 nd2 ap2 st2 sm2' => T v H2 fp2 fd2 se2 rd2 nd2 ap2 (st1.trans st2) fun q => by
      have q := (Bool.and_eq_true _ _ |>.mp q).2
      exact ⟨sm1.1.trans (sm2' q).1, (sm2' q).2.trans sm1.2⟩⟩

/-! ### subscripts, slices, built-ins -/
theorem de_ix (cx : Ctx cf X G C W cls) {a i : Expr} {ta ti : Env → R D} {qa qi : Bool} {ei : E} {pos : Pos} (ha : PE X a (rdB G W cls qa ta)) (hi : PE X i (rdV G W cls qi ti)) (hq : qi = quiet ei) (hp : PlainIx i) :
    PE X (.Subscript a i pos) (rdV G W cls (qa && qi) fun env => (ta env).bind fun d1 env => (ti env).bind fun d2 env => R.of (ixD d1 d2 ei) env) := by
  obtain ⟨r, ho, hr⟩ := ix_ok (X := X) (G := G) cx.K cx.units cx.wd
  refine PE_imp (pe_ix ho ha hi hp) fun σ H Q ⟨env, fp, se, T⟩ => ?_
  refine ⟨env, fp, se, T.bind.imp fun d1 env1 T x H1 fp1 fd1 se1 rd1 st1 sm1 => ?_⟩
  refine ⟨env1, fp1, se1, T.bind.later st1 fun d2 env2 T y H2 fp2 fd2 se2 rd2 nd2 ap2 st2 sm2' => ?_⟩
  obtain ⟨d, e, T⟩ := T.of
  unfold ixD at e
  split at e
  · rename_i hk
    obtain ⟨p, e1, rfl⟩ := Option.map_eq_some_iff.mp e
    obtain ⟨f1, rd1⟩ := stay rd1 st2.drop se1.owned hk fun h => (sm2' (hq.trans h)).1
    exact hr x y H2 Q d1 d2 p f1 fd2 rd1 rd2 e1 fun v rv => Fresh.p (fresh_done se2 (st1.trans st2.drop) (sm2 sm1 sm2') T) rv
  · cases e
theorem do_no : PO X none (rdO G W cls true fun env => .ok none env) := ⟨fun pins s σ H Q I ⟨env, fp, se, T⟩ => po_none.run pins s σ H Q I (T H fp se Stp.refl fun _ => ⟨L2.Same.refl H, rfl⟩)⟩
theorem do_some {e : Expr} {q : Bool} {r : Env → R D} (h : PE X e (rdV G W cls q r)) : PO X (some e) (rdO G W cls q fun env => (r env).bind partD) := ⟨fun pins s σ H Q I ⟨env, fp, se, T⟩ => by
  refine (po_some h).run pins s σ H Q I ⟨env, fp, se, T.bind.imp fun d env1 T x H1 fp1 fd1 se1 rd1 nd1 ap1 st1 sm1 => ?_⟩
  unfold partD at T
  split at T
  · exact ⟨_, rd1.ofp.int, T H1 fp1 se1 st1.drop sm1⟩
  · exact T.elim⟩
theorem de_sl (hK : X.K = G.K) {a : Expr} {lo hi : Option Expr} {ta : Env → R D} {tl th : Env → R (Option Int)} {qa ql qh : Bool} {el eh : E} {p2 pos : Pos} (ha : PE X a (rdB G W cls qa ta)) (hl : PO X lo (rdO G W cls ql tl)) (hh : PO X hi (rdO G W cls qh th)) (h1 : ql = quiet el) (h2 : qh = quiet eh) :
    PE X (.Subscript a (.Slice lo hi none p2) pos) (rdV G W cls (qa && ql && qh) fun env => (ta env).bind fun d1 env => (tl env).bind fun l env => (th env).bind fun h env => R.of (if okQ d1 el = true ∧ okQ d1 eh = true then opSl d1 l h else none) env) := by
  obtain ⟨r, ho, hr⟩ := sl_ok (X := X) (G := G) hK
  refine PE_imp (pe_slice ho ha hl hh) fun σ H Q ⟨env, fp, se, T⟩ => ?_
  refine ⟨env, fp, se, T.bind.imp fun d1 env1 T x H1 fp1 fd1 se1 rd1 st1 sm1 => ?_⟩
  refine ⟨env1, fp1, se1, T.bind.later st1 fun l env2 T H2 fp2 se2 st2 sm2' => ?_⟩
  refine ⟨env2, fp2, se2, T.bind.later (st1.trans st2) fun h env3 T H3 fp3 se3 st3 sm3 => ?_⟩
  obtain ⟨d, e, T⟩ := T.of
  split at e
  · rename_i hk
    obtain ⟨f1, rd1⟩ := stay rd1 st2 se1.owned hk.1 fun h => (sm2' (h1.trans h)).1
    obtain ⟨f2, rd1⟩ := stay rd1 st3 se2.owned hk.2 fun h => (sm3 (h2.trans h)).1
    exact hr x l h H3 Q d1 d f2 rd1 e (fresh_done se3 ((st1.trans st2).trans st3) (sm2 (sm2 sm1 sm2') sm3) T)
  · cases e
theorem gl_of {sc : Scope} {n : Str} {e : Expr} (h : glName sc n e = true) : ∃ p, e = .Name n p ∧ sc.names.lookup n = some .globalImplicit ∧ (n == ("__debug__" : Str)) = false ∧ n ≠ "__name__" := by
  unfold glName at h
  split at h
  · simp only [Bool.and_eq_true, decide_eq_true_eq] at h
    obtain ⟨⟨rfl, h2⟩, h3⟩ := h
    obtain ⟨k1, k2, k3⟩ := nameOk_of h3
    refine ⟨_, rfl, ?_, k1, k3⟩
    unfold glB at h2
    split at h2
    · assumption
    · cases h2
  · cases h
theorem de_b1 (cx : Ctx cf X G C W cls) {f : B1} {e g : Expr} {te : Env → R D} {q : Bool} {pos : Pos} (he : PE X e (rdB G W cls q te)) (hg : glName X.env.scope (nameB1 f) g = true) (hc : (f = .any ∨ f = .all) → X.calm = true) (hf : f ≠ .lenset)
    (hs : starEach [e] X.env = (false, eval e X.env) :: starEach [] X.env) :
    PE X (.Call g [e] [] pos) (rdV G W cls q fun env => (te env).bind fun d env => R.of (opB1 f d) env) := by
  obtain ⟨r, ho, hr⟩ := b1_ok (X := X) (G := G) cx.K cx.wd f hc
  obtain ⟨p, rfl, hgl, hd, hn⟩ := gl_of hg
  have main : PE X (.Call (.Name (nameB1 f) p) [e] [] pos) (tCB r (tCons (rdB G W cls q te) tNil)) := by
    have hpl : (backTo pos (starEach ([] : List Expr) X.env)).any (·.1) = false := rfl
    cases f with
    | len => exact pe_callB ho hgl (cx.blt "len" (by simp)) (by decide +kernel) (pa_cons he pa_nil hs) hn hd hs hpl
    | any => exact pe_callB ho hgl (cx.blt "any" (by simp)) (by decide +kernel) (pa_cons he pa_nil hs) hn hd hs hpl
    | all => exact pe_callB ho hgl (cx.blt "all" (by simp)) (by decide +kernel) (pa_cons he pa_nil hs) hn hd hs hpl
    | tuple => exact pe_callTy ho hgl (cx.blt "tuple" (by simp)) (by decide +kernel) (pa_cons he pa_nil hs) hn hd hs hpl
    | list => exact pe_callTy ho hgl (cx.blt "list" (by simp)) (by decide +kernel) (pa_cons he pa_nil hs) hn hd hs hpl
    | int => exact pe_callTy ho hgl (cx.blt "int" (by simp)) (by decide +kernel) (pa_cons he pa_nil hs) hn hd hs hpl
    | lenset => exact absurd rfl hf
  refine PE_imp main fun σ H Q ⟨env, fp, se, T⟩ => ?_
  refine ⟨env, fp, se, T.bind.imp fun d env1 T x H1 fp1 fd1 se1 rd1 st1 sm1 => ?_⟩
  obtain ⟨d', e', T⟩ := T.of
  exact hr x H1 Q d d' fd1 rd1 e' (fresh_done se1 st1 sm1 T)
end
end DL

/-! DL9: arguments, calls, what changes a list, kinds. -/
namespace DL
open PySem PySem.Spec PyProof.Rows L2
section
variable {cf : Cf} {X : Cx} {G : Gh} {C : Calls} {W : WX} {cls : String → Addr}

/-! ### arguments -/
theorem de_nilA {q : Bool} : PA X [] (rdA G W cls q fun env => .ok [] env) := PA_imp pa_nil fun σ H Q ⟨env, fp, se, T⟩ => T [] H fp [] se ⟨rfl, rfl⟩ .nil (fun a ha => nomatch ha) Stp.refl.nil fun _ => ⟨L2.Same.refl H, rfl⟩
def tArg (G : Gh) (W : WX) (cls : String → Addr) (q : Bool) (r : Env → R AV) : TE := fun σ H Q => ∃ env fp, SE G H σ env fp ∧ RQ G W cls σ H fp (r env) fun a env' =>
  ∀ v H' fp' f, SE G H' σ env' fp' → AVal G H' σ a v f → f.Nodup → (∀ a ∈ f, ¬ In fp' a ∧ ¬ G.Z a) → Stp (In fp) H (fun a => In fp' a ∨ a ∈ f) H' → (q = true → L2.Same H H' ∧ env' = env) → Q v H'
theorem de_argV {e : Expr} {q : Bool} {r : Env → R D} (h : PE X e (rdV G W cls q r)) : PE X e (tArg G W cls q fun env => (asP (r env)).bind fun x env => .ok (.va (.p x)) env) := PE_imp h fun σ H Q ⟨env, fp, se, T⟩ =>
  rdV_p se (T.bind.imp fun x env1 T v H1 fp1 se1 rv st1 sm1 => T v H1 fp1 [] se1 ⟨rv, rfl⟩ .nil (fun a ha => nomatch ha) st1.nil sm1)
/-- a new list, given away -/
theorem de_argL {e : Expr} {q : Bool} {r : Env → R D} (h : PE X e (rdV G W cls q r)) : PE X e (tArg G W cls q fun env => (r env).bind fun d env => .ok (.va d) env) := PE_imp h fun σ H Q ⟨env, fp, se, T⟩ =>
  ⟨env, fp, se, T.bind.imp fun d env1 T v H1 fp1 fd1 se1 rd1 nd1 ap1 st1 sm1 => T v H1 fp1 fd1 se1 rd1 nd1 ap1 st1 sm1⟩
theorem de_argS {i : Nat} {e : Expr} {a : AV} {q : Bool} (h : PE X e (tVar i)) (ha : ∀ H σ v, σ[i]? = some (some v) → AVal G H σ a v []) : PE X e (tArg G W cls q fun env => if (gt env i).rd.isSome = true then .ok a env else .st) := PE_imp h fun σ H Q ⟨env, fp, se, T⟩ => by
  dsimp only at T
  split at T
  · rename_i hx
    obtain ⟨d, hx⟩ := Option.isSome_iff_exists.mp hx
    obtain ⟨v, f, h1, h2, _⟩ := se.rd hx
    exact ⟨v, h1, T v H fp [] se (ha H σ v h1) .nil (fun a ha => nomatch ha) Stp.refl.nil fun _ => ⟨L2.Same.refl H, rfl⟩⟩
  · exact T.elim
theorem AVal.keep {H H' : Hp} {σ : L2.St} {a : AV} {v : V} {f : List Addr} (h : AVal G H σ a v f) (k : Keep f H H') : AVal G H' σ a v f := by
  cases a with
  | va d => exact RD.keep h k
  | br i => exact h
  | rr i => exact h
theorem AVal.owned {H : Hp} {σ : L2.St} {a : AV} {v : V} {f : List Addr} (h : AVal G H σ a v f) : Owned H f := by
  cases a with
  | va d => exact RD.owned h
  | br i => rw [h.2]; intro a ha; cases ha
  | rr i => rw [h.2]; intro a ha; cases ha
theorem de_consA {q1 q2 : Bool} {e : Expr} {es : List Expr} {r : Env → R AV} {rs : Env → R (List AV)} (h : PE X e (tArg G W cls q1 r)) (hs : PA X es (rdA G W cls q2 rs)) (ns : starEach (e :: es) X.env = (false, eval e X.env) :: starEach es X.env) :
    PA X (e :: es) (rdA G W cls (q1 && q2) fun env => (r env).bind fun x env => (rs env).bind fun xs env => .ok (x :: xs) env) := PA_imp (pa_cons h hs ns) fun σ H Q ⟨env, fp, se, T⟩ => by
  refine ⟨env, fp, se, T.bind.imp fun x env1 T v H1 fp1 fd1 se1 rd1 nd1 ap1 st1 sm1 => ?_⟩
  refine ⟨env1, fp1, se1, (T.bind.later st1.drop fun xs env2 T vs H2 fp2 fs2 se2 rd2 nd2 ap2 st2 sm2' => ?_)⟩
  have own1 := rd1.owned
  have there : ∀ a ∈ fd1, H1 a ≠ none := fun a ha e => by have := own1 a ha; rw [e] at this; exact this
  have kp : Keep fd1 H1 H2 := st2.keep se1.owned fun a ha => (ap1 a ha).1
  have dj : ∀ a ∈ fd1, ¬ In fp2 a ∧ a ∉ fs2.flatten := fun a ha => by
    have := st2.apart (there a ha) (ap1 a ha).1
    exact ⟨fun z => this (.inl z), fun z => this (.inr z)⟩
  refine T (v :: vs) H2 fp2 (fd1 :: fs2) se2 ⟨v, vs, fd1, fs2, rfl, rfl, rd1.keep kp, rd2⟩ (by
    rw [List.flatten_cons]
    exact List.nodup_append.mpr ⟨nd1, nd2, fun a ha b hb e => (dj a ha).2 (e ▸ hb)⟩) (fun a ha => ?_) ⟨fun b o e hb => ?_, fun b hb => ?_⟩ (sm2 sm1 sm2')
  · rcases List.mem_append.mp (by rw [← List.flatten_cons]; exact ha) with ha | ha
    · exact ⟨(dj a ha).1, (ap1 a ha).2⟩
    · exact ap2 a ha
  · have h1 := st1.st b o e hb
    exact st2.st b o h1 fun z => st1.apart (by rw [e]; exact fun z => nomatch z) hb (.inl z)
  · have back : ∀ b, (In fp1 b ∨ H1 b = none) → In fp b ∨ H b = none := fun b hb => by
      rcases hb with hb | hb
      · exact st1.ow b (.inl hb)
      · by_cases hf : In fp b
        · exact .inl hf
        · refine .inr ?_
          cases z : H b with
          | none => rfl
          | some o => rw [st1.st b o z hf] at hb; cases hb
    rcases hb with hb | hb
    · exact back b (st2.ow b (.inl hb))
    · rw [List.flatten_cons] at hb
      rcases List.mem_append.mp hb with hb | hb
      · exact st1.ow b (.inr hb)
      · exact back b (st2.ow b (.inr hb))

/-! ### what is lent -/
/-- the place of slot i among the arguments, where it is lent to be changed -/
def lp : List AV → Nat → Option Nat
  | [], _ => none
  | .br j :: r, i => if j = i then some 0 else (lp r i).map (· + 1)
  | _ :: r, i => (lp r i).map (· + 1)
theorem lp_br : ∀ {as : List AV} {i p : Nat}, lp as i = some p → as[p]? = some (.br i)
  | [], _, _, h => by cases h
  | .br j :: r, i, p, h => by
    unfold lp at h
    split at h
    · rename_i e; subst e; cases h; rfl
    · obtain ⟨q, h1, rfl⟩ := Option.map_eq_some_iff.mp h
      simpa using lp_br h1
  | .va d :: r, i, p, h => by
    obtain ⟨q, h1, rfl⟩ := Option.map_eq_some_iff.mp (show (lp r i).map (· + 1) = some p from h)
    simpa using lp_br h1
  | .rr d :: r, i, p, h => by
    obtain ⟨q, h1, rfl⟩ := Option.map_eq_some_iff.mp (show (lp r i).map (· + 1) = some p from h)
    simpa using lp_br h1
theorem lentOnce_br {i : Nat} {r : List AV} (h : lentOnce (.br i :: r) = true) : (∀ a ∈ r, a ≠ .br i ∧ a ≠ .rr i) ∧ lentOnce r = true := by
  simp only [lentOnce, Bool.and_eq_true, List.all_eq_true] at h
  refine ⟨fun a ha => ⟨fun e => ?_, fun e => ?_⟩, h.2⟩
  · have := h.1 a ha; subst e; simp at this
  · have := h.1 a ha; subst e; simp at this
theorem lentOnce_rr {i : Nat} {r : List AV} (h : lentOnce (.rr i :: r) = true) : (∀ a ∈ r, a ≠ .br i) ∧ lentOnce r = true := by
  simp only [lentOnce, Bool.and_eq_true, List.all_eq_true] at h
  refine ⟨fun a ha e => ?_, h.2⟩
  have := h.1 a ha; subst e; simp at this
theorem lp_of : ∀ {as : List AV} {i p : Nat}, lentOnce as = true → as[p]? = some (.br i) → lp as i = some p
  | [], _, _, _, h => by simp at h
  | .br j :: r, i, 0, _, h => by simp at h; subst h; simp [lp]
  | .va d :: r, i, 0, _, h => by simp at h
  | .rr d :: r, i, 0, _, h => by simp at h
  | .br j :: r, i, p + 1, hl, h => by
    have h' : r[p]? = some (.br i) := by simpa using h
    have hne : j ≠ i := fun e => by subst e; exact ((lentOnce_br hl).1 _ (List.mem_of_getElem? h')).1 rfl
    simp [lp, hne, lp_of (lentOnce_br hl).2 h']
  | .va d :: r, i, p + 1, hl, h => by
    have h' : r[p]? = some (.br i) := by simpa using h
    show (lp r i).map (· + 1) = some (p + 1)
    rw [lp_of (as := r) hl h']; rfl
  | .rr d :: r, i, p + 1, hl, h => by
    have h' : r[p]? = some (.br i) := by simpa using h
    show (lp r i).map (· + 1) = some (p + 1)
    rw [lp_of (lentOnce_rr hl).2 h']; rfl
theorem rr_lp : ∀ {as : List AV} {i p : Nat}, lentOnce as = true → as[p]? = some (.rr i) → lp as i = none
  | [], _, _, _, h => by simp at h
  | .rr j :: r, i, 0, hl, h => by
    simp at h; subst h
    show (lp r j).map (· + 1) = none
    cases q : lp r j with
    | none => rfl
    | some p => exact absurd rfl ((lentOnce_rr hl).1 _ (List.mem_of_getElem? (lp_br q)))
  | .va d :: r, i, 0, _, h => by simp at h
  | .br d :: r, i, 0, _, h => by simp at h
  | .br j :: r, i, p + 1, hl, h => by
    have h' : r[p]? = some (.rr i) := by simpa using h
    have hne : j ≠ i := fun e => by subst e; exact ((lentOnce_br hl).1 _ (List.mem_of_getElem? h')).2 rfl
    simp [lp, hne, rr_lp (lentOnce_br hl).2 h']
  | .va d :: r, i, p + 1, hl, h => by
    have h' : r[p]? = some (.rr i) := by simpa using h
    show (lp r i).map (· + 1) = none
    rw [rr_lp (as := r) hl h']; rfl
  | .rr d :: r, i, p + 1, hl, h => by
    have h' : r[p]? = some (.rr i) := by simpa using h
    show (lp r i).map (· + 1) = none
    rw [rr_lp (lentOnce_rr hl).2 h']; rfl
theorem slotsOf_at : ∀ {env : Env} {as : List AV} {ts : Env}, slotsOf env as = some ts → ts.length = as.length ∧ ∀ p a, as[p]? = some a → slotOf env a = some (gt ts p)
  | env, [], ts, h => by cases h; exact ⟨rfl, fun p a e => by simp at e⟩
  | env, a :: r, ts, h => by
    unfold slotsOf at h
    split at h
    · rename_i s hs
      obtain ⟨t, h1, rfl⟩ := Option.map_eq_some_iff.mp h
      obtain ⟨h2, h3⟩ := slotsOf_at h1
      refine ⟨by simp [h2], fun p b e => ?_⟩
      cases p with
      | zero => simp at e; subst e; exact hs
      | succ p => exact h3 p b (by simpa using e)
    · cases h
theorem giveBack_at : ∀ {env : Env} {as : List AV} {outs env' : Env}, giveBack env as outs = some env' → lentOnce as = true →
    env'.length = env.length ∧ ∀ i, match lp as i with
      | none => gt env' i = gt env i
      | some p => ∃ d, gt outs p = .bo d ∧ (((∃ d0, gt env i = .ow d0) ∧ gt env' i = .ow d) ∨ ((∃ d0, gt env i = .bo d0) ∧ gt env' i = .bo d))
  | env, [], outs, env', h, _ => by
    simp only [giveBack] at h; cases h; exact ⟨rfl, fun i => rfl⟩
  | env, .va d :: r, [], env', h, _ => by simp [giveBack] at h
  | env, .rr d :: r, [], env', h, _ => by simp [giveBack] at h
  | env, .br d :: r, [], env', h, _ => by simp [giveBack] at h
  | env, .va d :: r, o :: os, env', h, hl => by
    obtain ⟨h1, h2⟩ := giveBack_at (env := env) (as := r) (outs := os) (env' := env') (by simpa [giveBack] using h) hl
    refine ⟨h1, fun i => ?_⟩
    have := h2 i
    rw [show lp (.va d :: r) i = (lp r i).map (· + 1) from rfl]
    cases q : lp r i with
    | none => rw [q] at this; exact this
    | some p => rw [q] at this; exact this
  | env, .rr d :: r, o :: os, env', h, hl => by
    obtain ⟨h1, h2⟩ := giveBack_at (env := env) (as := r) (outs := os) (env' := env') (by simpa [giveBack] using h) (lentOnce_rr hl).2
    refine ⟨h1, fun i => ?_⟩
    have := h2 i
    rw [show lp (.rr d :: r) i = (lp r i).map (· + 1) from rfl]
    cases q : lp r i with
    | none => rw [q] at this; exact this
    | some p => rw [q] at this; exact this
  | env, .br j :: r, o :: os, env', h, hl => by
    have hj : lp r j = none := by
      cases q : lp r j with
      | none => rfl
      | some p => exact absurd rfl ((lentOnce_br hl).1 _ (List.mem_of_getElem? (lp_br q))).1
    have step : ∀ s d, o = .bo d → giveBack (env.set j s) r os = some env' → ((∃ d0, gt env j = .ow d0) ∧ s = .ow d ∨ (∃ d0, gt env j = .bo d0) ∧ s = .bo d) →
        env'.length = env.length ∧ ∀ i, match lp (.br j :: r) i with
          | none => gt env' i = gt env i
          | some p => ∃ d, gt (o :: os) p = .bo d ∧ (((∃ d0, gt env i = .ow d0) ∧ gt env' i = .ow d) ∨ ((∃ d0, gt env i = .bo d0) ∧ gt env' i = .bo d)) := fun s d ho hg hs => by
      obtain ⟨h1, h2⟩ := giveBack_at hg (lentOnce_br hl).2
      have hlt : j < env.length := gt_lt fun z => by
        rcases hs with ⟨⟨d0, q⟩, _⟩ | ⟨⟨d0, q⟩, _⟩ <;> rw [z] at q <;> cases q
      refine ⟨by rw [h1, List.length_set], fun i => ?_⟩
      by_cases e : j = i
      · subst e
        rw [show lp (.br j :: r) j = some 0 by simp [lp]]
        refine ⟨d, ho, ?_⟩
        have z := h2 j
        rw [hj] at z
        have e' : gt (env.set j s) j = s := by rw [gt_set, if_pos ⟨rfl, hlt⟩]
        simp only [e'] at z
        rcases hs with ⟨hs, rfl⟩ | ⟨hs, rfl⟩
        · exact .inl ⟨hs, z⟩
        · exact .inr ⟨hs, z⟩
      · rw [show lp (.br j :: r) i = (lp r i).map (· + 1) by simp [lp, e]]
        have z := h2 i
        have e' : ¬ (i = j ∧ j < env.length) := fun q => e q.1.symm
        cases q : lp r i with
        | none => rw [q] at z; simp only [gt_set, if_neg e'] at z; exact z
        | some p => rw [q] at z; simp only [gt_set, if_neg e'] at z; exact z
    simp only [giveBack] at h
    split at h
    · split at h
      · rename_i d d0 h0
        exact step _ _ rfl h (.inl ⟨⟨_, h0⟩, rfl⟩)
      · rename_i d d0 h0
        exact step _ _ rfl h (.inr ⟨⟨_, h0⟩, rfl⟩)
      · cases h
    · cases h
theorem lostBy_at : ∀ {as : List AV} {env : Env}, (lostBy env as).length = env.length ∧ ∀ i, gt (lostBy env as) i = if (lp as i).isSome = true then .no else gt env i
  | [], env => ⟨rfl, fun i => rfl⟩
  | .va d :: r, env => by
    obtain ⟨h1, h2⟩ := lostBy_at (as := r) (env := env)
    refine ⟨h1, fun i => ?_⟩
    rw [show lp (.va d :: r) i = (lp r i).map (· + 1) from rfl, Option.isSome_map]
    exact h2 i
  | .rr d :: r, env => by
    obtain ⟨h1, h2⟩ := lostBy_at (as := r) (env := env)
    refine ⟨h1, fun i => ?_⟩
    rw [show lp (.rr d :: r) i = (lp r i).map (· + 1) from rfl, Option.isSome_map]
    exact h2 i
  | .br j :: r, env => by
    obtain ⟨h1, h2⟩ := lostBy_at (as := r) (env := env.set j .no)
    refine ⟨by rw [lostBy, h1, List.length_set], fun i => ?_⟩
    rw [lostBy, h2 i]
    by_cases e : j = i
    · subst e
      simp only [lp, if_true, Option.isSome_some]
      split
      · rfl
      · rw [gt_set]
        split
        · rfl
        · rename_i hh
          cases q : gt env j with
          | no => rfl
          | _ => exact absurd ⟨rfl, gt_lt (by rw [q]; exact fun z => nomatch z)⟩ hh
    · simp only [lp, if_neg e, Option.isSome_map]
      split
      · rfl
      · rw [gt_set, if_neg (fun q => e q.1.symm)]
theorem avals_at {H : Hp} {σ : L2.St} : ∀ {as : List AV} {vs : List V} {fs : List (List Addr)}, AVals G H σ as vs fs → vs.length = as.length ∧ fs.length = as.length ∧ ∀ (p : Nat) (a : AV), as[p]? = some a → ∃ v f, vs[p]? = some v ∧ fs[p]? = some f ∧ AVal G H σ a v f
  | [], vs, fs, h => by obtain ⟨rfl, rfl⟩ := h; exact ⟨rfl, rfl, fun p a e => by simp at e⟩
  | a :: as, vs, fs, h => by
    obtain ⟨v, r, f, g, rfl, rfl, h1, h2⟩ := h
    obtain ⟨h3, h3', h4⟩ := avals_at h2
    refine ⟨by simp [h3], by simp [h3'], fun p b e => ?_⟩
    cases p with
    | zero => simp at e; subst e; exact ⟨v, f, rfl, rfl, h1⟩
    | succ p => obtain ⟨u, w, hu, hw, hv⟩ := h4 p b (by simpa using e); exact ⟨u, w, by simpa using hu, by simpa using hw, hv⟩
theorem flat_nd : ∀ {fs : List (List Addr)}, fs.flatten.Nodup → (∀ p : Nat, ((fs[p]?).getD []).Nodup) ∧ ∀ (p q : Nat) (a : Addr), a ∈ (fs[p]?).getD [] → a ∈ (fs[q]?).getD [] → p = q
  | [], _ => ⟨fun p => by simp, fun p q a h => by simp at h⟩
  | f :: fs, h => by
    rw [List.flatten_cons] at h
    obtain ⟨h1, h2, h3⟩ := List.nodup_append.mp h
    obtain ⟨i1, i2⟩ := flat_nd h2
    have mem : ∀ (q : Nat) (a : Addr), a ∈ (fs[q]?).getD [] → a ∈ fs.flatten := fun q a ha => by
      cases e : fs[q]? with
      | none => rw [e] at ha; cases ha
      | some g => rw [e] at ha; exact List.mem_flatten.mpr ⟨g, List.mem_of_getElem? e, ha⟩
    refine ⟨fun p => ?_, fun p q a ha hb => ?_⟩
    · cases p with
      | zero => simpa using h1
      | succ p => simpa using i1 p
    · cases p with
      | zero =>
        cases q with
        | zero => rfl
        | succ q => exact absurd rfl (h3 a (by simpa using ha) a (mem q a (by simpa using hb)))
      | succ p =>
        cases q with
        | zero => exact absurd rfl (h3 a (by simpa using hb) a (mem p a (by simpa using ha)))
        | succ q => rw [i2 p q a (by simpa using ha) (by simpa using hb)]
theorem flat_mem {fs : List (List Addr)} {p : Nat} {a : Addr} (h : a ∈ (fs[p]?).getD []) : a ∈ fs.flatten := by
  cases e : fs[p]? with
  | none => rw [e] at h; cases h
  | some g => rw [e] at h; exact List.mem_flatten.mpr ⟨g, List.mem_of_getElem? e, h⟩
theorem gt_none {env : Env} {i : Nat} (h : env.length ≤ i) : gt env i = .no := by
  cases q : gt env i with
  | no => rfl
  | _ => exact absurd (gt_lt (env := env) (i := i) (by rw [q]; exact fun z => nomatch z)) (by omega)

/-- what the caller keeps back -/
def kept (G : Gh) (fp : Nat → List Addr) (as : List AV) : Addr → Prop := fun a => G.Z a ∨ ∃ i, a ∈ fp i ∧ lp as i = none
/-- what the callee gets -/
def given (fp : Nat → List Addr) (fs : List (List Addr)) (as : List AV) : Nat → List Addr := fun p => match as[p]? with
  | some (.br i) => fp i
  | some (.va _) => (fs[p]?).getD []
  | _ => []
/-- where a given thing comes from -/
theorem given_of {fp : Nat → List Addr} {fs : List (List Addr)} {as : List AV} {p : Nat} {a : Addr} (h : a ∈ given fp fs as p) : (∃ i, as[p]? = some (.br i) ∧ a ∈ fp i) ∨ ((∃ d, as[p]? = some (.va d)) ∧ a ∈ (fs[p]?).getD []) := by
  unfold given at h
  split at h
  · rename_i i e; exact .inl ⟨i, e, h⟩
  · rename_i d e; exact .inr ⟨⟨d, e⟩, h⟩
  · cases h
/-- the arguments' own things are apart from the slots' -/
structure Apt (G : Gh) (fp : Nat → List Addr) (fs : List (List Addr)) : Prop where
  nd : fs.flatten.Nodup
  ap : ∀ a ∈ fs.flatten, ¬ In fp a ∧ ¬ G.Z a
theorem apart_kept {G : Gh} {σ : L2.St} {H : Hp} {env : Env} {fp : Nat → List Addr} {fs : List (List Addr)} {as : List AV} (se : SE G H σ env fp) (hl : lentOnce as = true) (A : Apt G fp fs) : ∀ a, kept G fp as a → ¬ In (given fp fs as) a := fun a ha ⟨p, hp⟩ => by
  rcases given_of hp with ⟨i, e1, m1⟩ | ⟨_, m1⟩
  · rcases ha with hz | ⟨j, mj, hj⟩
    · exact (se.zz a hz).1 ⟨i, m1⟩
    · have := se.dj i j a m1 mj
      subst this
      rw [lp_of hl e1] at hj
      cases hj
  · obtain ⟨z1, z2⟩ := A.ap a (flat_mem m1)
    rcases ha with hz | ⟨j, mj, hj⟩
    · exact z2 hz
    · exact z1 ⟨j, mj⟩
/-- the callee's slots at its entry -/
theorem se_in {σ : L2.St} {H : Hp} {env : Env} {fp : Nat → List Addr} {fs : List (List Addr)} {as : List AV} {ts : Env} {vs : List V} (se : SE G H σ env fp) (hl : lentOnce as = true) (hs : slotsOf env as = some ts) (hv : AVals G H σ as vs fs) (A : Apt G fp fs) :
    SE ⟨G.K, G.Cl, fun i => vs[i]?, kept G fp as, none⟩ H (vs.map some) ts (given fp fs as) := by
  obtain ⟨l1, at1⟩ := slotsOf_at hs
  obtain ⟨l2, l3, at2⟩ := avals_at hv
  obtain ⟨n1, n2⟩ := flat_nd A.nd
  have gv : ∀ p i, as[p]? = some (.br i) → given fp fs as p = fp i := fun p i e => by simp [given, e]
  refine ⟨by simp [l1, l2], fun p hp => ?_, fun p hp => ?_, fun p => ?_, fun p q a h1 h2 => ?_, fun a ha => ⟨fun hg => apart_kept se hl A a ha hg, ?_⟩⟩
  · have hp' : p < as.length := by omega
    have ea : as[p]? = some as[p] := by simp [hp']
    obtain ⟨v, f, hv1, hf1, hv2⟩ := at2 p _ ea
    have hs1 := at1 p _ ea
    refine ⟨some v, by simp [hv1], ?_⟩
    generalize as[p] = a at ea hv2 hs1
    cases a with
    | va d =>
      simp only [slotOf, Option.some.injEq] at hs1
      rw [← hs1, show given fp fs as p = f by simp [given, ea, hf1]]
      exact ⟨v, rfl, hv2⟩
    | br i =>
      rw [gv p i ea]
      have hv2 := hv2.1
      simp only [slotOf] at hs1
      split at hs1
      · rename_i d hd
        simp only [Option.some.injEq] at hs1
        obtain ⟨u, e1, r⟩ := se.ow hd
        rw [show σ[i]? = some (some v) from hv2] at e1
        cases e1
        rw [← hs1]
        exact ⟨v, rfl, hv1, r⟩
      · rename_i d hd
        simp only [Option.some.injEq] at hs1
        obtain ⟨o, e1, r⟩ := se.sl i (gt_lt (by rw [hd]; exact fun z => nomatch z))
        rw [show σ[i]? = some (some v) from hv2] at e1
        cases e1
        rw [hd] at r
        obtain ⟨u, e2, _, r⟩ := r
        cases e2
        rw [← hs1]
        exact ⟨v, rfl, hv1, r⟩
      · cases hs1
    | rr i =>
      have hv2 := hv2.1
      simp only [slotOf] at hs1
      split at hs1
      · rename_i d hd
        simp only [Option.some.injEq] at hs1
        rw [← hs1]
        refine ⟨by simp [given, ea], ?_⟩
        obtain ⟨u, f, e1, r, hz⟩ := se.rd hd
        rw [show σ[i]? = some (some v) from hv2] at e1
        cases e1
        -- f lies in the slot's own or in what is lent to be read
        have hlp := rr_lp hl ea
        obtain ⟨o, e1, r'⟩ := se.sl i (gt_lt (by intro z; rw [z] at hd; cases hd))
        rw [show σ[i]? = some (some v) from hv2] at e1
        cases e1
        cases q : gt env i with
        | no => rw [q] at hd; cases hd
        | xc c => rw [q] at hd; cases hd
        | ow d' =>
          rw [q] at hd r'; cases hd
          obtain ⟨u, e2, r2⟩ := r'
          cases e2
          exact ⟨v, fp i, rfl, r2, fun a ha => .inr ⟨i, ha, hlp⟩⟩
        | bo d' =>
          rw [q] at hd r'; cases hd
          obtain ⟨u, e2, _, r2⟩ := r'
          cases e2
          exact ⟨v, fp i, rfl, r2, fun a ha => .inr ⟨i, ha, hlp⟩⟩
        | ro d' =>
          rw [q] at hd r'; cases hd
          obtain ⟨_, u, g, e2, r2, z⟩ := r'
          cases e2
          exact ⟨v, g, rfl, r2, fun a ha => .inl (z a ha)⟩
      · cases hs1
  · unfold given
    rw [show as[p]? = none by simp; omega]
  · unfold given
    split
    · exact se.nd _
    · exact n1 p
    · exact .nil
  · rcases given_of h1 with ⟨i, e1, m1⟩ | ⟨_, m1⟩ <;> rcases given_of h2 with ⟨j, e2, m2⟩ | ⟨_, m2⟩
    · have := se.dj i j a m1 m2
      subst this
      have z1 := lp_of hl e1
      have z2 := lp_of hl e2
      rw [z1] at z2
      cases z2
      rfl
    · exact absurd ⟨i, m1⟩ (A.ap a (flat_mem m2)).1
    · exact absurd ⟨j, m2⟩ (A.ap a (flat_mem m1)).1
    · exact n2 p q a m1 m2
  · rcases ha with hz | ⟨j, mj, hj⟩
    · exact (se.zz a hz).2
    · intro e
      have := se.owned a ⟨j, mj⟩
      rw [e] at this
      exact this
theorem avals_owned {H : Hp} {σ : L2.St} : ∀ {as : List AV} {vs : List V} {fs : List (List Addr)}, AVals G H σ as vs fs → Owned H fs.flatten
  | [], vs, fs, h => by obtain ⟨_, rfl⟩ := h; intro a ha; cases ha
  | a :: as, vs, fs, h => by
    obtain ⟨v, r, f, g, rfl, rfl, h1, h2⟩ := h
    rw [List.flatten_cons]
    exact h1.owned.append (avals_owned h2)
/-- the caller's slots behind the call -/
def backFp (fp fp' : Nat → List Addr) (as : List AV) : Nat → List Addr := fun i => match lp as i with
  | some p => fp' p
  | none => fp i
theorem keptOn {H H' : Hp} {σ : L2.St} {env : Env} {fp : Nat → List Addr} {fs : List (List Addr)} {as : List AV} {F' : Fp} (se : SE G H σ env fp) (hl : lentOnce as = true) (A : Apt G fp fs) (ow : Owned H fs.flatten) (st : Stp (In (given fp fs as)) H F' H') :
    (∀ a, kept G fp as a → ∀ o, H a = some o → H' a = some o) ∧ Imm H H' := by
  refine ⟨fun a ha o e => st.st a o e (apart_kept se hl A a ha), st.imm fun a ⟨p, hp⟩ => ?_⟩
  rcases given_of hp with ⟨i, _, m1⟩ | ⟨_, m1⟩
  · exact se.owned a ⟨i, m1⟩
  · exact ow a (flat_mem m1)
theorem se_out {σ σ' : L2.St} {H H' : Hp} {env env' : Env} {fp fp' : Nat → List Addr} {fs : List (List Addr)} {as : List AV} {outs : Env} {vs : List V} {F' : Fp} (se : SE G H σ env fp) (hl : lentOnce as = true) (hv : AVals G H σ as vs fs) (A : Apt G fp fs) (hb : giveBack env as outs = some env')
    (sc : SE ⟨G.K, G.Cl, fun i => vs[i]?, kept G fp as, none⟩ H' σ' outs fp') (st : Stp (In (given fp fs as)) H F' H') : SE G H' σ env' (backFp fp fp' as) := by
  obtain ⟨l1, at1⟩ := giveBack_at hb hl
  obtain ⟨l2, l3, at2⟩ := avals_at hv
  obtain ⟨k1, im⟩ := keptOn se hl A (avals_owned hv) st
  have kz : ∀ a, G.Z a → ∀ o, H a = some o → H' a = some o := fun a ha => k1 a (.inl ha)
  have bf : ∀ i a, a ∈ backFp fp fp' as i → (∃ p, lp as i = some p ∧ a ∈ fp' p) ∨ (lp as i = none ∧ a ∈ fp i) := fun i a h => by
    unfold backFp at h
    cases q : lp as i with
    | none => rw [q] at h; exact .inr ⟨rfl, h⟩
    | some p => rw [q] at h; exact .inl ⟨p, rfl, h⟩
  refine ⟨by rw [l1, se.len], fun i hi => ?_, fun i hi => ?_, fun i => ?_, fun i j a h1 h2 => ?_, fun a ha => ⟨fun ⟨i, hm⟩ => ?_, ?_⟩⟩
  · obtain ⟨o, e1, r⟩ := se.sl i (by omega)
    refine ⟨o, e1, ?_⟩
    have z := at1 i
    cases q : lp as i with
    | none =>
      rw [q] at z
      simp only at z
      rw [z, show backFp fp fp' as i = fp i by simp [backFp, q]]
      exact r.keep ⟨im, fun a ha => k1 a (.inr ⟨i, ha, q⟩)⟩ kz
    | some p =>
      rw [q] at z
      obtain ⟨d, ho, hz⟩ := z
      rw [show backFp fp fp' as i = fp' p by simp [backFp, q]]
      obtain ⟨v, f, hv1, _, hv2⟩ := at2 p _ (lp_br q)
      have hv3 : σ[i]? = some (some v) := hv2.1
      rw [hv3] at e1
      cases e1
      obtain ⟨o', _, r'⟩ := sc.sl p (gt_lt (by rw [ho]; exact fun z => nomatch z))
      rw [ho] at r'
      obtain ⟨u, _, hu, rd⟩ := r'
      rw [show (⟨G.K, G.Cl, fun i => vs[i]?, kept G fp as, none⟩ : Gh).pv p = vs[p]? from rfl, hv1] at hu
      cases hu
      rcases hz with ⟨_, hz⟩ | ⟨⟨d0, h0⟩, hz⟩
      · rw [hz]
        exact ⟨v, rfl, rd⟩
      · rw [hz]
        rw [h0] at r
        obtain ⟨w, e2, pw, _⟩ := r
        cases e2
        exact ⟨v, rfl, pw, rd⟩
  · have z := at1 i
    cases q : lp as i with
    | none => rw [show backFp fp fp' as i = fp i by simp [backFp, q]]; exact se.off i (by omega)
    | some p =>
      rw [q] at z
      obtain ⟨d, ho, hz⟩ := z
      rw [gt_none (env := env') (by omega)] at hz
      rcases hz with ⟨_, hz⟩ | ⟨_, hz⟩ <;> cases hz
  · unfold backFp
    split
    · exact sc.nd _
    · exact se.nd _
  · rcases bf i a h1 with ⟨p, e1, m1⟩ | ⟨e1, m1⟩ <;> rcases bf j a h2 with ⟨q, e2, m2⟩ | ⟨e2, m2⟩
    · have := sc.dj p q a m1 m2
      subst this
      have z1 := lp_br e1
      rw [lp_br e2] at z1
      cases z1
      rfl
    · exact absurd ⟨p, m1⟩ (sc.zz a (.inr ⟨j, m2, e2⟩)).1
    · exact absurd ⟨q, m2⟩ (sc.zz a (.inr ⟨i, m1, e1⟩)).1
    · exact se.dj i j a m1 m2
  · rcases bf i a hm with ⟨p, e1, m1⟩ | ⟨e1, m1⟩
    · exact (sc.zz a (.inl ha)).1 ⟨p, m1⟩
    · exact (se.zz a ha).1 ⟨i, m1⟩
  · exact (sc.zz a (.inl ha)).2
theorem se_lost {σ : L2.St} {H H' : Hp} {env : Env} {fp : Nat → List Addr} {fs : List (List Addr)} {as : List AV} {F' : Fp} (se : SE G H σ env fp) (hl : lentOnce as = true) (A : Apt G fp fs) (ow : Owned H fs.flatten) (st : Stp (In (given fp fs as)) H F' H') : SE G H' σ (lostBy env as) (backFp fp (fun _ => []) as) := by
  obtain ⟨l1, at1⟩ := lostBy_at (as := as) (env := env)
  obtain ⟨k1, im⟩ := keptOn se hl A ow st
  have bf : ∀ i a, a ∈ backFp fp (fun _ => []) as i → lp as i = none ∧ a ∈ fp i := fun i a h => by
    unfold backFp at h
    cases q : lp as i with
    | none => rw [q] at h; exact ⟨rfl, h⟩
    | some p => rw [q] at h; cases h
  refine ⟨by rw [l1, se.len], fun i hi => ?_, fun i hi => ?_, fun i => ?_, fun i j a h1 h2 => se.dj i j a (bf i a h1).2 (bf j a h2).2, fun a ha => ⟨fun ⟨i, hm⟩ => (se.zz a ha).1 ⟨i, (bf i a hm).2⟩, ?_⟩⟩
  · obtain ⟨o, e1, r⟩ := se.sl i (by omega)
    refine ⟨o, e1, ?_⟩
    rw [at1 i]
    cases q : lp as i with
    | none =>
      rw [show backFp fp (fun _ => []) as i = fp i by simp [backFp, q]]
      exact r.keep ⟨im, fun a ha => k1 a (.inr ⟨i, ha, q⟩)⟩ fun a ha => k1 a (.inl ha)
    | some p => simp [backFp, q, RS1]
  · unfold backFp
    split
    · rfl
    · exact se.off i (by omega)
  · unfold backFp
    split
    · exact .nil
    · exact se.nd _
  · cases q : H a with
    | none => exact absurd q (se.zz a ha).2
    | some o => rw [k1 a (.inl ha) o q]; exact fun z => nomatch z
/-- the call of a def -/
theorem de_call (cx : Ctx cf X G C W cls) {f : String} {g e : Expr} {es : List Expr} {ta : Env → R (List AV)} {qa : Bool} {pos : Pos} (ha : PA X (e :: es) (rdA G W cls qa ta)) (hg : glName X.env.scope f g = true) (hf : f ∈ cf.funs) (hh : cf.hot = false)
    (hs : starEach (e :: es) X.env = (false, eval e X.env) :: starEach es X.env) (hpl : (backTo pos (starEach es X.env)).any (·.1) = false) :
    PE X (.Call g (e :: es) [] pos) (rdV G W cls false fun env => (ta env).bind fun as env => doCall C f as env) := by
  obtain ⟨a, fd, ps, k, np, hnp, F, hr, hm, hk, hb⟩ := (cx.cal f hf hh).ex
  obtain ⟨p, rfl, hgl, hd, hn⟩ := gl_of hg
  refine PE_imp (pe_callS F hr hgl hm hk hb (L2.passAt cx.takes) ha hd hs hpl) fun σ H Q ⟨env, fp, se, T⟩ => ?_
  refine ⟨env, fp, se, T.bind.imp fun as env1 T vs H1 fp1 fs se1 hv nds aps st1 _ => ?_⟩
  have A : Apt G fp1 fs := ⟨nds, aps⟩
  have ow := avals_owned hv
  unfold doCall at T
  split at T
  · rename_i hl
    split at T
    · rename_i ts hts
      have se0 := se_in se1 hl hts hv A
      obtain ⟨l1, _⟩ := slotsOf_at hts
      obtain ⟨l2, _, _⟩ := avals_at hv
      cases hc : C.call f ts with
      | st => rw [hc] at T; exact T.elim
      | ok d outs =>
        rw [hc] at T
        have hn2 := hnp ts (by rw [hc]; exact fun z => nomatch z)
        refine ⟨ts, given fp1 fs as, kept G fp1 as, by omega, hn2, se0, ?_⟩
        rw [hc]
        intro v H2 σ' fp' fd sc rd nd ap st2
        simp only at T
        split at T
        · rename_i env2 hgb
          refine T v H2 (backFp fp1 fp' as) fd (se_out se1 hl hv A hgb sc st2) rd nd (fun b hb => ⟨fun ⟨i, hi⟩ => ?_, fun hz => (ap b hb).2 (.inl hz)⟩) (st1.trans ⟨fun b o e hb => st2.st b o e fun ⟨p, hp⟩ => hb ?_, fun b hb => ?_⟩) nq
          · unfold backFp at hi
            cases q : lp as i with
            | none => rw [q] at hi; exact (ap b hb).2 (.inr ⟨i, hi, q⟩)
            | some p => rw [q] at hi; exact (ap b hb).1 ⟨p, hi⟩
          · rcases given_of hp with ⟨i, _, m1⟩ | ⟨_, m1⟩
            · exact .inl ⟨i, m1⟩
            · exact .inr (flat_mem m1)
          · have back : (In fp' b ∨ b ∈ fd) → (In fp1 b ∨ b ∈ fs.flatten) ∨ H1 b = none := fun h => by
              rcases st2.ow b h with ⟨p, hp⟩ | q
              · rcases given_of hp with ⟨i, _, m1⟩ | ⟨_, m1⟩
                · exact .inl (.inl ⟨i, m1⟩)
                · exact .inl (.inr (flat_mem m1))
              · exact .inr q
            rcases hb with ⟨i, hi⟩ | hb
            · unfold backFp at hi
              cases q : lp as i with
              | none => rw [q] at hi; exact .inl (.inl ⟨i, hi⟩)
              | some p => rw [q] at hi; exact back (.inl ⟨p, hi⟩)
            · exact back (.inr hb)
        · exact T.elim
      | ex c =>
        rw [hc] at T
        have hn2 := hnp ts (by rw [hc]; exact fun z => nomatch z)
        refine ⟨ts, given fp1 fs as, kept G fp1 as, by omega, hn2, se0, ?_⟩
        rw [hc]
        intro H2 st2
        refine T H2 (backFp fp1 (fun _ => []) as) (se_lost se1 hl A ow st2) (st1.trans ⟨fun b o e hb => st2.st b o e fun ⟨p, hp⟩ => hb ?_, fun b ⟨i, hi⟩ => ?_⟩)
        · rcases given_of hp with ⟨i, _, m1⟩ | ⟨_, m1⟩
          · exact .inl ⟨i, m1⟩
          · exact .inr (flat_mem m1)
        · unfold backFp at hi
          cases q : lp as i with
          | none => rw [q] at hi; exact .inl (.inl ⟨i, hi⟩)
          | some p => rw [q] at hi; cases hi
    · exact T.elim
  · exact T.elim
end
end DL

/-! DL10: methods, kinds, the greatest. -/
namespace DL
open PySem PySem.Spec PyProof.Rows L2
section
variable {cf : Cf} {X : Cx} {G : Gh} {C : Calls} {W : WX} {cls : String → Addr}
theorem nodup_left {α : Type} {a b : List α} (h : (a ++ b).Nodup) : a.Nodup := (List.nodup_append.mp h).1
theorem nodup_right {α : Type} {a b : List α} (h : (a ++ b).Nodup) : b.Nodup := (List.nodup_append.mp h).2.1
/-- what changes the thing in the slot i -/
theorem se_chg {σ : L2.St} {H : Hp} {env env' : Env} {fp : Nat → List Addr} {i : Nat} {f : D → Option (D × D)} {res : D} {v : V} {fa : List Addr} {Q : VK} (se : SE G H σ env fp) (hv : σ[i]? = some (some v))
    (fr0 : ∀ a ∈ fa, ¬ In fp a ∧ ¬ G.Z a) (e : modP (.v i) env f = some (res, env'))
    (T : ∀ rv H' fp' fd, SE G H' σ env' fp' → RD G.K G.Cl H' res rv fd → fd.Nodup → (∀ a ∈ fd, ¬ In fp' a ∧ ¬ G.Z a) → Stp (fun a => In fp a ∨ a ∈ fa) H (fun a => In fp' a ∨ a ∈ fd) H' → Q rv H') :
    ∃ d d', RD G.K G.Cl H d v (fp i) ∧ f d = some (res, d') ∧ Chg G H v (fp i) fa d' res Q := by
  have key : ∀ s d d', i < env.length → RD G.K G.Cl H d v (fp i) → (∀ H' fd', RD G.K G.Cl H' d' v fd' → RS1 G H' (G.pv i) s (some v) fd') → env' = env.set i s → Chg G H v (fp i) fa d' res Q := by
    rintro s d d' hi rd hs rfl H' rv fd' fr rd' rr nd sub st im
    have k : ∀ a, (∃ j, j ≠ i ∧ a ∈ fp j) ∨ G.Z a → ∀ o, H a = some o → H' a = some o := fun a ha o eo => st a o eo fun hm => by
      rcases ha with ⟨j, hj, hm'⟩ | hz
      · exact hj (se.dj j i a hm' hm)
      · exact (se.zz a hz).1 ⟨i, hm⟩
    have ap : ∀ a ∈ fd' ++ fr, (∀ j, j ≠ i → a ∉ fp j) ∧ ¬ G.Z a := fun a ha => by
      rcases sub a ha with hm | hm
      · exact ⟨fun j hj hm' => hj (se.dj j i a hm' hm), fun hz => (se.zz a hz).1 ⟨i, hm⟩⟩
      · exact ⟨fun j _ hm' => (fr0 a hm).1 ⟨j, hm'⟩, (fr0 a hm).2⟩
    have se' := se.put (i := i) (s := s) (o := some v) (f := fd') hi im k (hs H' fd' rd') (nodup_left nd) fun a ha => ap a (List.mem_append.mpr (.inl ha))
    rw [σ_set hv] at se'
    refine T rv H' _ fr se' rr (nodup_right nd) (fun a ha => ⟨fun ⟨j, hj⟩ => ?_, (ap a (List.mem_append.mpr (.inr ha))).2⟩) ⟨fun b o eo hb => st b o eo fun hm => hb (.inl ⟨i, hm⟩), fun b hb => .inl ?_⟩
    · by_cases ej : j = i
      · simp only [if_pos ej] at hj
        exact (List.nodup_append.mp nd).2.2 a hj a ha rfl
      · simp only [if_neg ej] at hj
        exact (ap a (List.mem_append.mpr (.inr ha))).1 j ej hj
    · have z : b ∈ fd' ++ fr → In fp b ∨ b ∈ fa := fun h => (sub b h).imp (fun h => ⟨i, h⟩) id
      rcases hb with ⟨j, hj⟩ | hb
      · by_cases ej : j = i
        · simp only [if_pos ej] at hj
          exact z (List.mem_append.mpr (.inl hj))
        · simp only [if_neg ej] at hj
          exact .inl ⟨j, hj⟩
      · exact z (List.mem_append.mpr (.inr hb))
  simp only [modP] at e
  obtain ⟨⟨r1, s1⟩, e1, e2⟩ := Option.map_eq_some_iff.mp e
  cases e2
  unfold Sl.upd at e1
  split at e1
  · rename_i d hd
    obtain ⟨⟨r2, d'⟩, e3, e4⟩ := Option.map_eq_some_iff.mp e1
    cases e4
    obtain ⟨u, hu, rd⟩ := se.ow hd
    rw [hv] at hu
    cases hu
    exact ⟨d, d', rd, e3, key (.ow d') d d' (ow_lt hd) rd (fun H' fd' r => ⟨v, rfl, r⟩) rfl⟩
  · rename_i d hd
    obtain ⟨⟨r2, d'⟩, e3, e4⟩ := Option.map_eq_some_iff.mp e1
    cases e4
    have hlt : i < env.length := gt_lt (by rw [hd]; exact fun z => nomatch z)
    obtain ⟨o, hu, rs⟩ := se.sl i hlt
    rw [hv] at hu
    cases hu
    rw [hd] at rs
    obtain ⟨u, eu, pu, rd⟩ := rs
    cases eu
    exact ⟨d, d', rd, e3, key (.bo d') d d' hlt rd (fun H' fd' r => ⟨v, rfl, pu, r⟩) rfl⟩
  · cases e1
/-! ### places -/
theorem fld_inj {f g : Fld} (h : f.name = g.name) : f = g := by
  cases f <;> cases g <;> first | rfl | (exact absurd h (by decide +kernel))
theorem RD1s.sp {H : Hp} : ∀ {ds : List D1} {vs : List V} {ff : List Addr} {n : Nat} {d1 : D1}, RD1s H ds vs ff → ff.Nodup → ds[n]? = some d1 → ∃ v1 f1, vs[n]? = some v1 ∧ RD1 H d1 v1 f1 ∧ f1.Nodup ∧ (∀ b ∈ f1, b ∈ ff) ∧
    ∀ H' x f1', RD1 H' x v1 f1' → f1'.Nodup → (∀ b ∈ f1', b ∈ f1 ∨ b ∉ ff) → (∀ b ∈ ff, b ∉ f1 → ∀ o, H b = some o → H' b = some o) → Imm H H' → ∃ ff', RD1s H' (ds.set n x) vs ff' ∧ ff'.Nodup ∧ ∀ b ∈ ff', (b ∈ ff ∧ b ∉ f1) ∨ b ∈ f1'
  | [], _, _, _, _, _, _, e => by simp at e
  | d :: ds, _, _, 0, _, h, nd, e => by
    obtain ⟨v, r, g1, g2, rfl, q, z, rfl⟩ := h
    simp at e; subst e
    obtain ⟨n1, n2, n3⟩ := List.nodup_append.mp nd
    refine ⟨v, g1, rfl, q, n1, fun b hb => List.mem_append.mpr (.inl hb), fun H' x f1' rx nx sub keep im => ⟨f1' ++ g2, ⟨v, r, f1', g2, rfl, rx, z.keep ⟨im, fun b hb => keep b (List.mem_append.mpr (.inr hb)) fun hb1 => n3 b hb1 b hb rfl⟩, rfl⟩, List.nodup_append.mpr ⟨nx, n2, fun a ha b hb e => ?_⟩, fun b hb => ?_⟩⟩
    · subst e
      rcases sub a ha with h1 | h1
      · exact n3 a h1 a hb rfl
      · exact h1 (List.mem_append.mpr (.inr hb))
    · rcases List.mem_append.mp hb with hb | hb
      · exact .inr hb
      · exact .inl ⟨List.mem_append.mpr (.inr hb), fun h1 => n3 b h1 b hb rfl⟩
  | d :: ds, _, _, n + 1, _, h, nd, e => by
    obtain ⟨v, r, g1, g2, rfl, q, z, rfl⟩ := h
    obtain ⟨n1, n2, n3⟩ := List.nodup_append.mp nd
    obtain ⟨v1, f1, h1, h2, h3, h4, h5⟩ := RD1s.sp (n := n) z n2 (by simpa using e)
    refine ⟨v1, f1, by simpa using h1, h2, h3, fun b hb => List.mem_append.mpr (.inr (h4 b hb)), fun H' x f1' rx nx sub keep im => ?_⟩
    obtain ⟨ff', k1, k2, k3⟩ := h5 H' x f1' rx nx (fun b hb => (sub b hb).imp id fun h hm => h (List.mem_append.mpr (.inr hm))) (fun b hb hn => keep b (List.mem_append.mpr (.inr hb)) hn) im
    refine ⟨g1 ++ ff', ⟨v, r, g1, ff', rfl, q.keep ⟨im, fun b hb => keep b (List.mem_append.mpr (.inl hb)) fun h => n3 b hb b (h4 b h) rfl⟩, k1, rfl⟩, List.nodup_append.mpr ⟨n1, k2, fun a ha b hb e => ?_⟩, fun b hb => ?_⟩
    · subst e
      rcases k3 a hb with ⟨h, _⟩ | h
      · exact n3 a ha a h rfl
      · rcases sub a h with h | h
        · exact n3 a ha a (h4 a h) rfl
        · exact h (List.mem_append.mpr (.inl ha))
    · rcases List.mem_append.mp hb with hb | hb
      · exact .inl ⟨List.mem_append.mpr (.inl hb), fun h => n3 b hb b (h4 b h) rfl⟩
      · exact (k3 b hb).imp (fun ⟨h, h'⟩ => ⟨List.mem_append.mpr (.inr h), h'⟩) id
theorem RFs.sp {H : Hp} {f : Fld} : ∀ {ds : List (Fld × D1)} {vs : List (Str × V)} {ff : List Addr} {d1 : D1}, RFs H ds vs ff → ff.Nodup → lookF f ds = some d1 → ∃ v1 f1, vs.lookup f.name = some v1 ∧ RD1 H d1 v1 f1 ∧ f1.Nodup ∧ (∀ b ∈ f1, b ∈ ff) ∧
    ∀ H' x f1', RD1 H' x v1 f1' → f1'.Nodup → (∀ b ∈ f1', b ∈ f1 ∨ b ∉ ff) → (∀ b ∈ ff, b ∉ f1 → ∀ o, H b = some o → H' b = some o) → Imm H H' → ∃ ff', RFs H' (putFl f x ds) vs ff' ∧ ff'.Nodup ∧ ∀ b ∈ ff', (b ∈ ff ∧ b ∉ f1) ∨ b ∈ f1'
  | [], _, _, _, _, _, e => by cases e
  | (g, d) :: ds, _, _, _, h, nd, e => by
    obtain ⟨v, r, g1, g2, rfl, q, z, rfl⟩ := h
    obtain ⟨n1, n2, n3⟩ := List.nodup_append.mp nd
    simp only [lookF] at e
    by_cases hg : g = f
    · subst hg
      rw [if_pos rfl] at e
      cases e
      refine ⟨v, g1, by simp [List.lookup], q, n1, fun b hb => List.mem_append.mpr (.inl hb), fun H' x f1' rx nx sub keep im => ⟨f1' ++ g2, ?_, List.nodup_append.mpr ⟨nx, n2, fun a ha b hb e => ?_⟩, fun b hb => ?_⟩⟩
      · simp only [putFl, if_true]
        exact ⟨v, r, f1', g2, rfl, rx, z.keep ⟨im, fun b hb => keep b (List.mem_append.mpr (.inr hb)) fun hb1 => n3 b hb1 b hb rfl⟩, rfl⟩
      · subst e
        rcases sub a ha with h1 | h1
        · exact n3 a h1 a hb rfl
        · exact h1 (List.mem_append.mpr (.inr hb))
      · rcases List.mem_append.mp hb with hb | hb
        · exact .inr hb
        · exact .inl ⟨List.mem_append.mpr (.inr hb), fun h1 => n3 b h1 b hb rfl⟩
    · rw [if_neg hg] at e
      obtain ⟨v1, f1, h1, h2, h3, h4, h5⟩ := RFs.sp z n2 e
      have hne : (f.name == g.name) = false := beq_eq_false_iff_ne.mpr fun e => hg (fld_inj e).symm
      refine ⟨v1, f1, by simp only [List.lookup, hne]; exact h1, h2, h3, fun b hb => List.mem_append.mpr (.inr (h4 b hb)), fun H' x f1' rx nx sub keep im => ?_⟩
      obtain ⟨ff', k1, k2, k3⟩ := h5 H' x f1' rx nx (fun b hb => (sub b hb).imp id fun h hm => h (List.mem_append.mpr (.inr hm))) (fun b hb hn => keep b (List.mem_append.mpr (.inr hb)) hn) im
      refine ⟨g1 ++ ff', ?_, List.nodup_append.mpr ⟨n1, k2, fun a ha b hb e => ?_⟩, fun b hb => ?_⟩
      · simp only [putFl, if_neg hg]
        exact ⟨v, r, g1, ff', rfl, q.keep ⟨im, fun b hb => keep b (List.mem_append.mpr (.inl hb)) fun h => n3 b hb b (h4 b h) rfl⟩, k1, rfl⟩
      · subst e
        rcases k3 a hb with ⟨h, _⟩ | h
        · exact n3 a ha a h rfl
        · rcases sub a h with h | h
          · exact n3 a ha a (h4 a h) rfl
          · exact h (List.mem_append.mpr (.inl ha))
      · rcases List.mem_append.mp hb with hb | hb
        · exact .inl ⟨List.mem_append.mpr (.inl hb), fun h => n3 b hb b (h4 b h) rfl⟩
        · exact (k3 b hb).imp (fun ⟨h, h'⟩ => ⟨List.mem_append.mpr (.inr h), h'⟩) id
theorem RFs.at {H : Hp} {f : Fld} : ∀ {ds : List (Fld × D1)} {vs : List (Str × V)} {ff : List Addr} {d1 : D1}, RFs H ds vs ff → lookF f ds = some d1 → ∃ v1 f1, vs.lookup f.name = some v1 ∧ RD1 H d1 v1 f1 ∧ (∀ b ∈ f1, b ∈ ff) ∧ (ff.Nodup → f1.Nodup)
  | [], _, _, _, _, e => by cases e
  | (g, d) :: ds, _, _, _, h, e => by
    obtain ⟨v, r, g1, g2, rfl, q, z, rfl⟩ := h
    simp only [lookF] at e
    by_cases hg : g = f
    · subst hg
      rw [if_pos rfl] at e
      cases e
      exact ⟨v, g1, by simp [List.lookup], q, fun b hb => List.mem_append.mpr (.inl hb), fun nd => (List.nodup_append.mp nd).1⟩
    · rw [if_neg hg] at e
      obtain ⟨v1, f1, h1, h2, h3, h4⟩ := RFs.at z e
      have hne : (f.name == g.name) = false := beq_eq_false_iff_ne.mpr fun e => hg (fld_inj e).symm
      exact ⟨v1, f1, by simp only [List.lookup, hne]; exact h1, h2, fun b hb => List.mem_append.mpr (.inr (h3 b hb)), fun nd => h4 (List.nodup_append.mp nd).2.1⟩
/-- what stands at the place o -/
def AtP (G : Gh) (H : Hp) (σ : L2.St) (o : E) (v : V) : Prop := match o with
  | .v i => σ[i]? = some (some v)
  | .fld (.v i) f => ∃ a dx fs, σ[i]? = some (some (.ref a)) ∧ H a = some (.ins G.Cl.a dx fs) ∧ fs.lookup f.name = some v
  | .ix (.v i) k => ∃ a vs j, σ[i]? = some (some (.ref a)) ∧ H a = some (.lst vs) ∧ negIx k = some j ∧ atI vs j = some v
  | _ => False
theorem isPl_cases {o : E} (h : isPl o = true) : (∃ i, o = .v i) ∨ (∃ i f, o = .fld (.v i) f) ∨ ∃ i k j, o = .ix (.v i) k ∧ negIx k = some j := by
  cases o with
  | v i => exact .inl ⟨i, rfl⟩
  | fld a f => cases a <;> first | exact .inr (.inl ⟨_, _, rfl⟩) | (cases h)
  | ix a k =>
    cases a with
    | v i =>
      obtain ⟨j, hj⟩ := Option.isSome_iff_exists.mp (show (negIx k).isSome = true from h)
      exact .inr (.inr ⟨i, k, j, rfl, hj⟩)
    | _ => cases h
  | _ => cases h
theorem AtP.same {H H' : Hp} {σ : L2.St} {o : E} {v : V} (ho : isPl o = true) (h : AtP G H σ o v) (s : L2.Same H H') : AtP G H' σ o v := by
  rcases isPl_cases ho with ⟨i, rfl⟩ | ⟨i, f, rfl⟩ | ⟨i, k, j, rfl, _⟩
  · exact h
  · obtain ⟨a, dx, fs, h1, h2, h3⟩ := h
    exact ⟨a, dx, fs, h1, s _ _ h2, h3⟩
  · obtain ⟨a, vs, j, h1, h2, h3⟩ := h
    exact ⟨a, vs, j, h1, s _ _ h2, h3⟩
/-- .. and it is what the slots say -/
theorem brw_at {H : Hp} {σ : L2.St} {env : Env} {fp : Nat → List Addr} {o : E} {d : D} (se : SE G H σ env fp) (ho : isPl o = true) (h : brw o env = some d) : ∃ v f, AtP G H σ o v ∧ RD G.K G.Cl H d v f ∧ ∀ a ∈ f, In fp a ∨ G.Z a := by
  rcases isPl_cases ho with ⟨i, rfl⟩ | ⟨i, f, rfl⟩ | ⟨i, k, j, rfl, hj⟩
  · obtain ⟨v, f, h1, h2, h3⟩ := se.rd (show (gt env i).rd = some d from h)
    exact ⟨v, f, h1, h2, h3⟩
  · simp only [brw] at h
    split at h
    · rename_i fs hx
      obtain ⟨d1, h1, rfl⟩ := Option.map_eq_some_iff.mp h
      obtain ⟨v, g, h2, rd, hz⟩ := se.rd hx
      obtain ⟨a, dx, fs', ff, rfl, h3, h4, rfl⟩ := rd
      obtain ⟨v1, f1, k1, k2, k3, _⟩ := h4.at h1
      exact ⟨v1, f1, ⟨a, dx, fs', h2, h3, k1⟩, D1.toD k2, fun b hb => hz b (List.mem_cons_of_mem _ (k3 b hb))⟩
    · cases h
  · simp only [brw] at h
    split at h
    · rename_i xs hx
      rw [hj] at h
      obtain ⟨d1, h1, rfl⟩ := Option.map_eq_some_iff.mp h
      obtain ⟨v, g, h2, rd, hz⟩ := se.rd hx
      obtain ⟨a, vs, ff, rfl, h3, h4, rfl⟩ := rd
      obtain ⟨n, _, hn, hv⟩ := atI_n h4.length h1
      obtain ⟨w, f1, e1, k2, k3⟩ := h4.at hn
      exact ⟨w, f1, ⟨a, vs, j, h2, h3, hj, hv w e1⟩, D1.toD k2, fun b hb => hz b (List.mem_cons_of_mem _ (k3 b hb))⟩
    · cases h
/-- a change of a part, from a change of the whole -/
theorem chg_in {H : Hp} {a : Addr} {v1 : V} {ff f1 fa : List Addr} {d0' d'' res : D} {Q : VK} (q : Chg G H (.ref a) (a :: ff) fa d0' res Q) (nd : (a :: ff).Nodup) (sub1 : ∀ b ∈ f1, b ∈ ff) (dj : ∀ b ∈ fa, b ∉ a :: ff)
    (mk : ∀ H' fd', RD G.K G.Cl H' d'' v1 fd' → fd'.Nodup → (∀ b ∈ fd', b ∈ f1 ∨ b ∉ ff) → (∀ b ∈ ff, b ∉ f1 → ∀ o, H b = some o → H' b = some o) → (∀ o, H a = some o → H' a = some o) → Imm H H' → ∃ ff', RD G.K G.Cl H' d0' (.ref a) (a :: ff') ∧ ff'.Nodup ∧ ∀ b ∈ ff', (b ∈ ff ∧ b ∉ f1) ∨ b ∈ fd') :
    Chg G H v1 f1 fa d'' res Q := by
  intro H' rv fd' fr rd' rr nd' sub st im
  obtain ⟨na, nf⟩ := List.nodup_cons.mp nd
  have sd : ∀ b ∈ fd', b ∈ f1 ∨ b ∉ ff := fun b hb => (sub b (List.mem_append.mpr (.inl hb))).imp id fun h hm => dj b h (List.mem_cons_of_mem _ hm)
  have a1 : a ∉ f1 := fun h => na (sub1 a h)
  have afa : a ∉ fa := fun h => dj a h (by simp)
  obtain ⟨ff', k1, k2, k3⟩ := mk H' fd' rd' (nodup_left nd') sd (fun b _ hn o e => st b o e hn) (fun o e => st a o e a1) im
  have an : ∀ b ∈ fd' ++ fr, b ≠ a := fun b hb e => by
    subst e
    exact (sub b hb).elim a1 afa
  refine q H' rv (a :: ff') fr k1 rr ?_ (fun b hb => ?_) (fun b o e hn => st b o e fun h => hn (List.mem_cons_of_mem _ (sub1 b h))) im
  · rw [List.cons_append]
    refine List.nodup_cons.mpr ⟨fun h => ?_, List.nodup_append.mpr ⟨k2, nodup_right nd', fun b hb c hc e => ?_⟩⟩
    · rcases List.mem_append.mp h with h | h
      · rcases k3 a h with ⟨h, _⟩ | h
        · exact na h
        · exact an a (List.mem_append.mpr (.inl h)) rfl
      · exact an a (List.mem_append.mpr (.inr h)) rfl
    · subst e
      rcases k3 b hb with ⟨h, h'⟩ | h
      · rcases sub b (List.mem_append.mpr (.inr hc)) with z | z
        · exact h' z
        · exact dj b z (List.mem_cons_of_mem _ h)
      · exact (List.nodup_append.mp nd').2.2 b h b hc rfl
  · rw [List.cons_append] at hb
    rcases List.mem_cons.mp hb with rfl | hb
    · exact .inl (by simp)
    · rcases List.mem_append.mp hb with hb | hb
      · rcases k3 b hb with ⟨h, _⟩ | h
        · exact .inl (List.mem_cons_of_mem _ h)
        · exact (sub b (List.mem_append.mpr (.inl h))).imp (fun h => List.mem_cons_of_mem _ (sub1 b h)) id
      · exact (sub b (List.mem_append.mpr (.inr hb))).imp (fun h => List.mem_cons_of_mem _ (sub1 b h)) id
/-- what changes the thing at a place -/
theorem se_chgP {σ : L2.St} {H : Hp} {env env' : Env} {fp : Nat → List Addr} {o : E} {f : D → Option (D × D)} {res : D} {v : V} {fa : List Addr} {Q : VK} (se : SE G H σ env fp) (ho : isPl o = true) (hv : AtP G H σ o v)
    (fr0 : ∀ a ∈ fa, ¬ In fp a ∧ ¬ G.Z a) (e : modP o env f = some (res, env'))
    (T : ∀ rv H' fp' fd, SE G H' σ env' fp' → RD G.K G.Cl H' res rv fd → fd.Nodup → (∀ a ∈ fd, ¬ In fp' a ∧ ¬ G.Z a) → Stp (fun a => In fp a ∨ a ∈ fa) H (fun a => In fp' a ∨ a ∈ fd) H' → Q rv H') :
    ∃ d d' fd, RD G.K G.Cl H d v fd ∧ fd.Nodup ∧ (∀ a ∈ fd, In fp a) ∧ f d = some (res, d') ∧ Chg G H v fd fa d' res Q := by
  rcases isPl_cases ho with ⟨i, rfl⟩ | ⟨i, fl, rfl⟩ | ⟨i, k, j, rfl, hj⟩
  · obtain ⟨d, d', h1, h2, h3⟩ := se_chg se hv fr0 e T
    exact ⟨d, d', fp i, h1, se.nd i, fun a ha => ⟨i, ha⟩, h2, h3⟩
  · obtain ⟨a, dx, fs', hσ, hH, hl⟩ := hv
    obtain ⟨d0, d0', r0, e0, q⟩ := se_chg (f := inFld fl f) se hσ fr0 e T
    unfold inFld at e0
    split at e0
    · rename_i fs
      split at e0
      · rename_i d1 hd1
        split at e0
        · rename_i r d'' hf
          obtain ⟨x, hx, e0⟩ := Option.map_eq_some_iff.mp e0
          cases e0
          have nd := se.nd i
          obtain ⟨a', dx', fs2, ff, ea, h2, h3, efp⟩ := r0
          cases ea
          rw [hH] at h2
          cases h2
          rw [efp] at q nd
          obtain ⟨v1, f1, k1, k2, k3, k4, k5⟩ := h3.sp (List.nodup_cons.mp nd).2 hd1
          rw [hl] at k1
          cases k1
          refine ⟨d1.d, d'', f1, D1.toD k2, k3, fun b hb => ⟨i, by rw [efp]; exact List.mem_cons_of_mem _ (k4 b hb)⟩, hf, chg_in q nd k4 (fun b hb hm => (fr0 b hb).1 ⟨i, by rw [efp]; exact hm⟩) fun H' fd' rd' nd' sd keep ka im => ?_⟩
          obtain ⟨ff', z1, z2, z3⟩ := k5 H' x fd' (D.toD1 rd' hx) nd' sd keep im
          exact ⟨ff', ⟨a, dx, fs', ff', rfl, ka _ hH, z1, rfl⟩, z2, z3⟩
        · cases e0
      · cases e0
    · cases e0
  · obtain ⟨a, vs, j', hσ, hH, hj', hl⟩ := hv
    rw [hj] at hj'
    cases hj'
    have e' : modP (.v i) env (inIx j f) = some (res, env') := by
      simp only [modP, hj] at e
      exact e
    obtain ⟨d0, d0', r0, e0, q⟩ := se_chg (f := inIx j f) se hσ fr0 e' T
    unfold inIx at e0
    split at e0
    · rename_i xs
      split at e0
      · rename_i n hn
        split at e0
        · rename_i d1 hd1
          split at e0
          · rename_i r d'' hf
            obtain ⟨x, hx, e0⟩ := Option.map_eq_some_iff.mp e0
            cases e0
            have nd := se.nd i
            obtain ⟨a', vs2, ff, ea, h2, h3, efp⟩ := r0
            cases ea
            rw [hH] at h2
            cases h2
            rw [efp] at q nd
            obtain ⟨v1, f1, k1, k2, k3, k4, k5⟩ := h3.sp (List.nodup_cons.mp nd).2 hd1
            have hl2 : atI vs j = some v1 := by
              unfold atI
              rw [h3.length, hn]
              exact k1
            rw [hl] at hl2
            cases hl2
            refine ⟨d1.d, d'', f1, D1.toD k2, k3, fun b hb => ⟨i, by rw [efp]; exact List.mem_cons_of_mem _ (k4 b hb)⟩, hf, chg_in q nd k4 (fun b hb hm => (fr0 b hb).1 ⟨i, by rw [efp]; exact hm⟩) fun H' fd' rd' nd' sd keep ka im => ?_⟩
            obtain ⟨ff', z1, z2, z3⟩ := k5 H' x fd' (D.toD1 rd' hx) nd' sd keep im
            exact ⟨ff', ⟨a, vs, ff', rfl, ka _ hH, z1, rfl⟩, z2, z3⟩
          · cases e0
        · cases e0
      · cases e0
    · cases e0
/-- a place is read -/
def tPl (G : Gh) (o : E) : TE := fun σ H Q => ∃ env fp v, SE G H σ env fp ∧ AtP G H σ o v ∧ ∀ H' fp', SE G H' σ env fp' → L2.Same H H' → Stp (In fp) H (In fp') H' → Q v H'
theorem modR_of {σ : L2.St} {H : Hp} {fp : Nat → List Addr} {o : E} {f : D → Option (D × D)} {env : Env} {T : D → Env → Prop} (h : RQ G W cls σ H fp (modR o env f) T) : ∃ r env', modP o env f = some (r, env') ∧ T r env' := by
  unfold modR at h
  split at h
  · rename_i r hr; exact ⟨r.1, r.2, hr, h⟩
  · exact h.elim
theorem ls_ty {H : Hp} {d : D} {v : V} {f : List Addr} {K K' : PySem.W.Frag} {Cl : CW} (r : RD K Cl H d v f) (h : (∃ xs, d = .ml xs) ∨ ∃ xs, d = .ne xs) : tyV K' "list" v H := by
  rcases h with ⟨xs, rfl⟩ | ⟨xs, rfl⟩
  · obtain ⟨a, vs, rfl, q, _⟩ := r
    exact .inl ⟨rfl, vs, .inl (.inl q)⟩
  · obtain ⟨a, vs, g, rfl, q, _⟩ := r
    exact .inl ⟨rfl, vs, .inl (.inl q)⟩
theorem mut0_ls {m : M0} {d res d' : D} (h : mut0 m d = some (res, d')) : (∃ xs, d = .ml xs) ∨ ∃ xs, d = .ne xs := by
  cases m <;> cases d <;> first | exact .inl ⟨_, rfl⟩ | exact .inr ⟨_, rfl⟩ | (cases h)
theorem lsAt_of {o : E} {env : Env} (h : lsAt o env = true) : ∃ d, brw o env = some d ∧ ((∃ xs, d = .ml xs) ∨ ∃ xs, d = .ne xs) := by
  unfold lsAt at h
  split at h
  · rename_i xs e; exact ⟨_, e, .inl ⟨_, rfl⟩⟩
  · rename_i xs e; exact ⟨_, e, .inr ⟨_, rfl⟩⟩
  · cases h
/-- what is changed stands there -/
theorem modP_brw {o : E} {env : Env} {f : D → Option (D × D)} {r : D × Env} (ho : isPl o = true) (e : modP o env f = some r) : ∃ d, brw o env = some d := by
  have up : ∀ {s : Sl} {g : D → Option (D × D)} {r}, s.upd g = some r → ∃ d, s.rd = some d ∧ ∃ z, g d = some z := fun {s g r} h => by
    unfold Sl.upd at h
    split at h
    · obtain ⟨z, h1, _⟩ := Option.map_eq_some_iff.mp h
      exact ⟨_, rfl, z, h1⟩
    · obtain ⟨z, h1, _⟩ := Option.map_eq_some_iff.mp h
      exact ⟨_, rfl, z, h1⟩
    · cases h
  rcases isPl_cases ho with ⟨i, rfl⟩ | ⟨i, fl, rfl⟩ | ⟨i, k, j, rfl, hj⟩
  · obtain ⟨z, h1, _⟩ := Option.map_eq_some_iff.mp e
    obtain ⟨d, h2, _⟩ := up h1
    exact ⟨d, h2⟩
  · obtain ⟨z, h1, _⟩ := Option.map_eq_some_iff.mp e
    obtain ⟨d, h2, z2, h3⟩ := up h1
    unfold inFld at h3
    split at h3
    · rename_i fs
      split at h3
      · rename_i d1 hd1
        exact ⟨d1.d, by simp only [brw, h2, hd1]; rfl⟩
      · cases h3
    · cases h3
  · simp only [modP, hj] at e
    obtain ⟨z, h1, _⟩ := Option.map_eq_some_iff.mp e
    obtain ⟨d, h2, z2, h3⟩ := up h1
    unfold inIx at h3
    split at h3
    · rename_i xs
      split at h3
      · rename_i n hn
        split at h3
        · rename_i d1 hd1
          refine ⟨d1.d, ?_⟩
          simp only [brw, h2, hj]
          have : atI xs j = some d1 := by unfold atI; rw [hn]; exact hd1
          rw [this]; rfl
        · cases h3
      · cases h3
    · cases h3
def nmM0 : M0 → String
  | .pop => "list.pop" | .reverse => "list.reverse" | .clear => "list.clear" | .strip => ""
theorem mut0_ok (m : M0) (hm : m ≠ .strip) : ∃ r, MtR X (nmM0 m) r ∧ ∀ v d res d' fd H Q, RD G.K G.Cl H d v fd → fd.Nodup → mut0 m d = some (res, d') → Chg G H v fd [] d' res Q → r v [] H Q := by
  cases m with
  | pop => exact ⟨_, mt_pop, fun v d res d' fd H Q r nd e q => pop_ok r nd e q⟩
  | reverse => exact ⟨_, mt_reverse, fun v d res d' fd H Q r nd e q => reverse_ok r e q⟩
  | clear => exact ⟨_, mt_clear, fun v d res d' fd H Q r nd e q => clear_ok r e q⟩
  | strip => exact absurd rfl hm
theorem de_m0 {m : M0} {p : E} {o : Expr} {apos cpos : Pos} (hm : m ≠ .strip) (hp : isPl p = true) (ho : PE X o (tPl G p)) (hbase : attributeBase o (nameM0 m) X.env (eval o X.env) = eval o X.env) (hline : (apos.endLine == cpos.line) = true) :
    PE X (.Call (.Attribute o (nameM0 m) apos) [] [] cpos) (rdV G W cls false fun env => modR p env (mut0 m)) := by
  obtain ⟨r, hr, hq⟩ := mut0_ok (X := X) (G := G) m hm
  have main : PE X (.Call (.Attribute o (nameM0 m) apos) [] [] cpos) (tBM0 X.K "list" r (tPl G p)) := by
    cases m with
    | pop => exact pe_bm0 PySem.F.plainAttrs_list PySem.F.slot_list_pop PySem.F.type_list_pop hr ho hbase hline
    | reverse => exact pe_bm0 PySem.F.plainAttrs_list PySem.F.slot_list_reverse PySem.F.type_list_reverse hr ho hbase hline
    | clear => exact pe_bm0 PySem.F.plainAttrs_list PySem.F.slot_list_clear PySem.F.type_list_clear hr ho hbase hline
    | strip => exact absurd rfl hm
  refine PE_imp main fun σ H Q ⟨env, fp, se, T⟩ => ?_
  obtain ⟨res, env', e, T⟩ := modR_of T
  obtain ⟨d0, hd0⟩ := modP_brw hp e
  obtain ⟨v, f0, hv, rd0, _⟩ := brw_at se hp hd0
  refine ⟨env, fp, v, se, hv, fun H' fp' se' sm st0 => ?_⟩
  obtain ⟨d, d', fd, rd, nd, inn, ef, q⟩ := se_chgP (fa := []) (Q := Q) se' hp (hv.same hp sm) (fun a ha => nomatch ha) e fun rv H2 fp2 fd s1 r1 n1 a1 st1 => T rv H2 fp2 fd s1 r1 n1 a1 (st0.trans ⟨fun b o eo hb => st1.st b o eo fun h => h.elim hb (fun z => nomatch z), fun b hb => (st1.ow b hb).imp (fun h => h.elim id fun z => nomatch z) id⟩) nq
  exact ⟨ls_ty (K' := X.K) rd (mut0_ls ef), hq v d res d' fd H' Q rd nd ef q⟩
def nmM1 : M1 → String
  | .append => "list.append" | .popAt => "list.pop" | .extend => "list.extend" | _ => ""
def isMut : M1 → Bool
  | .append | .popAt | .extend => true
  | _ => false
theorem mutA_ok : MtR X "list.append" rAppend ∧ ∀ {v y : V} {d a d' res : D} {fd fa : List Addr} {H : Hp} {Q : VK}, RD G.K G.Cl H d v fd → RD G.K G.Cl H a y fa → (fd ++ fa).Nodup → mut1 .append a d = some (res, d') → Chg G H v fd fa d' res Q → rAppend v [y] H Q :=
  ⟨mt_append, fun r1 r2 nd e q => append_ok r1 r2 nd e q⟩
section
variable {p : E} {o e : Expr} {apos cpos : Pos}
theorem pe_lm {m : M1} (hm : isMut m = true) {r : V → List V → Hp → VK → Prop} {t : TE} (hr : MtR X (nmM1 m) r) (ho : PE X o (tPl G p)) (he : PE X e t) (hbase : attributeBase o (nameM1 m) X.env (eval o X.env) = eval o X.env)
    (hfew : ((backTo cpos (starEach [e] X.env)).all (fun x => !x.1) && (backToKw cpos (keywordEach [] X.env)).all (fun x => x.1.isSome)
      && decide (([e] : List Expr).length + ([] : List Keyword).length + (if ([] : List Keyword).isEmpty then 0 else 1) < 30)) = true)
    (hline : (apos.endLine == cpos.line) = true) (hs : starEach [e] X.env = (false, eval e X.env) :: starEach [] X.env) :
    PE X (.Call (.Attribute o (nameM1 m) apos) [e] [] cpos) (tBM X.K "list" r (tPl G p) (tCons t tNil)) := by
  have hpl : (backTo cpos (starEach ([] : List Expr) X.env)).any (·.1) = false := rfl
  cases m with
  | append => exact pe_bm PySem.F.plainAttrs_list PySem.F.slot_list_append PySem.F.type_list_append hr ho (pa_cons he pa_nil hs) hbase hfew hline hs hpl
  | popAt => exact pe_bm PySem.F.plainAttrs_list PySem.F.slot_list_pop PySem.F.type_list_pop hr ho (pa_cons he pa_nil hs) hbase hfew hline hs hpl
  | extend => exact pe_bm PySem.F.plainAttrs_list PySem.F.slot_list_extend PySem.F.type_list_extend hr ho (pa_cons he pa_nil hs) hbase hfew hline hs hpl
  | _ => cases hm
/-- the receiver's list stands while the argument is worked out -/
theorem at_i {σ : L2.St} {H : Hp} {fp : Nat → List Addr} {env : Env} {α : Type} {r : R α} {T : α → Env → Prop} (hp : isPl p = true) (se : SE G H σ env fp) (h : RQ G W cls σ H fp (if lsAt p env = true then r else .st) T) :
    ∃ v, AtP G H σ p v ∧ tyV X.K "list" v H ∧ RQ G W cls σ H fp r T := by
  split at h
  · rename_i hl
    obtain ⟨d, hd, hk⟩ := lsAt_of hl
    obtain ⟨v, f, hv, rd, _⟩ := brw_at se hp hd
    exact ⟨v, hv, ls_ty rd hk, h⟩
  · exact h.elim
theorem ty_same {K' : PySem.W.Frag} {v : V} {H' : Hp} {σ : L2.St} {fp : Nat → List Addr} {env : Env} (hp : isPl p = true) (hl : lsAt p env = true) (se : SE G H' σ env fp) (hv : AtP G H' σ p v) : tyV K' "list" v H' := by
  obtain ⟨d, hd, hk⟩ := lsAt_of hl
  obtain ⟨v', f, hv', rd, _⟩ := brw_at se hp hd
  have : v = v' := by
    rcases isPl_cases hp with ⟨i, rfl⟩ | ⟨i, fl, rfl⟩ | ⟨i, k, j, rfl, _⟩
    · have h1 : σ[i]? = some (some v) := hv
      have h2 : σ[i]? = some (some v') := hv'
      rw [h1] at h2
      cases h2; rfl
    · obtain ⟨a, dx, fs, h1, h2, h3⟩ := hv
      obtain ⟨a', dx', fs', k1, k2, k3⟩ := hv'
      rw [h1] at k1
      cases k1
      rw [h2] at k2
      cases k2
      rw [h3] at k3
      cases k3; rfl
    · obtain ⟨a, vs, j, h1, h2, h3, h4⟩ := hv
      obtain ⟨a', vs', j', k1, k2, k3, k4⟩ := hv'
      rw [h1] at k1
      cases k1
      rw [h2] at k2
      cases k2
      rw [h3] at k3
      cases k3
      rw [h4] at k4
      cases k4; rfl
  subst this
  exact ls_ty rd hk
/-- a place stands while a quiet argument is worked out -/
theorem AtP.later {H H' : Hp} {σ : L2.St} {v : V} {q : Bool} {env env' : Env} (hp : isPl p = true) (hq : (isVar p).isSome = true ∨ q = true) (h : AtP G H σ p v) (sm : q = true → L2.Same H H' ∧ env' = env) : AtP G H' σ p v := by
  rcases hq with hq | hq
  · cases p <;> first | exact h | (cases hq)
  · exact h.same hp (sm hq).1
theorem de_append {te : Env → R D} {q : Bool} (hp : isPl p = true) (hq : (isVar p).isSome = true ∨ q = true) (ho : PE X o (tPl G p)) (he : PE X e (rdV G W cls q te)) (hbase : attributeBase o "append" X.env (eval o X.env) = eval o X.env)
    (hfew : ((backTo cpos (starEach [e] X.env)).all (fun x => !x.1) && (backToKw cpos (keywordEach [] X.env)).all (fun x => x.1.isSome)
      && decide (([e] : List Expr).length + ([] : List Keyword).length + (if ([] : List Keyword).isEmpty then 0 else 1) < 30)) = true)
    (hline : (apos.endLine == cpos.line) = true) (hs : starEach [e] X.env = (false, eval e X.env) :: starEach [] X.env) :
    PE X (.Call (.Attribute o "append" apos) [e] [] cpos) (rdV G W cls false fun env => if lsAt p env = true then (te env).bind fun x env => modR p env (mut1 .append x) else .st) := by
  refine PE_imp (pe_lm (m := .append) rfl mt_append ho he hbase hfew hline hs) fun σ H Q ⟨env, fp, se, T⟩ => ?_
  have hl : lsAt p env = true := by
    cases h : lsAt p env with
    | true => rfl
    | false =>
      dsimp only at T
      rw [h] at T
      exact T.elim
  obtain ⟨v, hv, _, T⟩ := at_i (X := X) hp se T
  refine ⟨env, fp, v, se, hv, fun H' fp' se' sm st0 => ⟨ty_same hp hl se' (hv.same hp sm), env, fp', se', (T.later st0 fun a env1 T => T).bind.imp fun a env1 T y H1 fp1 fa se1 ra na ap st1 sm1 => ?_⟩⟩
  obtain ⟨res, env2, em, T⟩ := modR_of T
  obtain ⟨d, d', fd, rd, nd, inn, ef, qq⟩ := se_chgP (Q := Q) se1 hp ((hv.same hp sm).later hp hq sm1) ap em fun rv H2 fp2 fd s1 r1 n1 a1 st2 => T rv H2 fp2 fd s1 r1 n1 a1 (st0.trans (st1.trans st2)) nq
  exact append_ok rd ra (List.nodup_append.mpr ⟨nd, na, fun a ha b hb eab => (ap b hb).1 (eab ▸ inn a ha)⟩) ef qq
theorem de_popAt {te : Env → R D} {q : Bool} (hp : isPl p = true) (hq : (isVar p).isSome = true ∨ q = true) (ho : PE X o (tPl G p)) (he : PE X e (rdV G W cls q te)) (hbase : attributeBase o "pop" X.env (eval o X.env) = eval o X.env)
    (hfew : ((backTo cpos (starEach [e] X.env)).all (fun x => !x.1) && (backToKw cpos (keywordEach [] X.env)).all (fun x => x.1.isSome)
      && decide (([e] : List Expr).length + ([] : List Keyword).length + (if ([] : List Keyword).isEmpty then 0 else 1) < 30)) = true)
    (hline : (apos.endLine == cpos.line) = true) (hs : starEach [e] X.env = (false, eval e X.env) :: starEach [] X.env) :
    PE X (.Call (.Attribute o "pop" apos) [e] [] cpos) (rdV G W cls false fun env => if lsAt p env = true then (te env).bind fun x env => modR p env (mut1 .popAt x) else .st) := by
  refine PE_imp (pe_lm (m := .popAt) rfl mt_popAt ho he hbase hfew hline hs) fun σ H Q ⟨env, fp, se, T⟩ => ?_
  have hl : lsAt p env = true := by
    cases h : lsAt p env with
    | true => rfl
    | false =>
      dsimp only at T
      rw [h] at T
      exact T.elim
  obtain ⟨v, hv, _, T⟩ := at_i (X := X) hp se T
  refine ⟨env, fp, v, se, hv, fun H' fp' se' sm st0 => ⟨ty_same hp hl se' (hv.same hp sm), env, fp', se', (T.later st0 fun a env1 T => T).bind.imp fun a env1 T y H1 fp1 fa se1 ra na ap st1 sm1 => ?_⟩⟩
  obtain ⟨res, env2, em, T⟩ := modR_of T
  obtain ⟨d, d', fd, rd, nd, inn, ef, qq⟩ := se_chgP (fa := []) (Q := Q) se1 hp ((hv.same hp sm).later hp hq sm1) (fun a ha => nomatch ha) em fun rv H2 fp2 fd s1 r1 n1 a1 st2 => T rv H2 fp2 fd s1 r1 n1 a1 (st0.trans (st1.drop.trans ⟨fun b o eo hb => st2.st b o eo fun h => h.elim hb (fun z => nomatch z), fun b hb => (st2.ow b hb).imp (fun h => h.elim id fun z => nomatch z) id⟩)) nq
  exact popAt_ok rd ra ef qq
theorem de_extend {te : Env → R D} {q : Bool} (hp : isPl p = true) (hq : (isVar p).isSome = true ∨ q = true) (ho : PE X o (tPl G p)) (he : PE X e (rdB G W cls q te)) (hbase : attributeBase o "extend" X.env (eval o X.env) = eval o X.env)
    (hfew : ((backTo cpos (starEach [e] X.env)).all (fun x => !x.1) && (backToKw cpos (keywordEach [] X.env)).all (fun x => x.1.isSome)
      && decide (([e] : List Expr).length + ([] : List Keyword).length + (if ([] : List Keyword).isEmpty then 0 else 1) < 30)) = true)
    (hline : (apos.endLine == cpos.line) = true) (hs : starEach [e] X.env = (false, eval e X.env) :: starEach [] X.env) :
    PE X (.Call (.Attribute o "extend" apos) [e] [] cpos) (rdV G W cls false fun env => if lsAt p env = true then (te env).bind fun x env => modR p env (mut1 .extend x) else .st) := by
  refine PE_imp (pe_lm (m := .extend) rfl mt_extendL ho he hbase hfew hline hs) fun σ H Q ⟨env, fp, se, T⟩ => ?_
  have hl : lsAt p env = true := by
    cases h : lsAt p env with
    | true => rfl
    | false =>
      dsimp only at T
      rw [h] at T
      exact T.elim
  obtain ⟨v, hv, _, T⟩ := at_i (X := X) hp se T
  refine ⟨env, fp, v, se, hv, fun H' fp' se' sm st0 => ⟨ty_same hp hl se' (hv.same hp sm), env, fp', se', (T.later st0 fun a env1 T => T).bind.imp fun a env1 T y H1 fp1 fa se1 ra st1 sm1 => ?_⟩⟩
  obtain ⟨res, env2, em, T⟩ := modR_of T
  obtain ⟨d, d', fd, rd, nd, inn, ef, qq⟩ := se_chgP (fa := []) (Q := Q) se1 hp ((hv.same hp sm).later hp hq sm1) (fun a ha => nomatch ha) em fun rv H2 fp2 fd s1 r1 n1 a1 st2 => T rv H2 fp2 fd s1 r1 n1 a1 (st0.trans (st1.trans ⟨fun b o eo hb => st2.st b o eo fun h => h.elim hb (fun z => nomatch z), fun b hb => (st2.ow b hb).imp (fun h => h.elim id fun z => nomatch z) id⟩)) nq
  exact extend_ok rd ra ef qq
end

/-! ### texts' methods -/
section
variable {o e : Expr} {apos cpos : Pos}
theorem de_strip {to : Env → R D} {q : Bool} (ho : PE X o (rdV G W cls q to)) (hbase : attributeBase o "strip" X.env (eval o X.env) = eval o X.env) (hline : (apos.endLine == cpos.line) = true) :
    PE X (.Call (.Attribute o "strip" apos) [] [] cpos) (rdV G W cls false fun env => (to env).bind fun d env => R.of (read0 .strip d) env) := by
  obtain ⟨r, hr, hq⟩ := strip_ok (X := X) (G := G)
  refine PE_imp (pe_bm0 PySem.F.plainAttrs_str PySem.F.slot_str_strip PySem.F.type_str_strip hr ho hbase hline) fun σ H Q ⟨env, fp, se, T⟩ => ?_
  refine ⟨env, fp, se, T.bind.imp fun d env1 T x H1 fp1 fd1 se1 rd1 nd1 ap1 st1 sm1 => ?_⟩
  obtain ⟨d', e', T⟩ := T.of
  exact hq x H1 Q d d' fd1 rd1 e' (fresh_done se1 st1.drop (q := false) nq T)
theorem de_txt (hK : X.K = G.K) {m : M1} (hm : isStrM m = true) {to te : Env → R D} {qo q : Bool} (ho : PE X o (rdV G W cls qo to)) (he : PE X e (rdB G W cls q te)) (hbase : attributeBase o (nameM1 m) X.env (eval o X.env) = eval o X.env)
    (hfew : ((backTo cpos (starEach [e] X.env)).all (fun x => !x.1) && (backToKw cpos (keywordEach [] X.env)).all (fun x => x.1.isSome)
      && decide (([e] : List Expr).length + ([] : List Keyword).length + (if ([] : List Keyword).isEmpty then 0 else 1) < 30)) = true)
    (hline : (apos.endLine == cpos.line) = true) (hs : starEach [e] X.env = (false, eval e X.env) :: starEach [] X.env) :
    PE X (.Call (.Attribute o (nameM1 m) apos) [e] [] cpos) (rdV G W cls false fun env => (to env).bind fun d1 env => if rdOk m d1 = true then (te env).bind fun d2 env => R.of (read1 m d1 d2) env else .st) := by
  obtain ⟨r, hr, hq⟩ := txt_ok (X := X) (G := G) hK m hm
  have hpl : (backTo cpos (starEach ([] : List Expr) X.env)).any (·.1) = false := rfl
  have main : PE X (.Call (.Attribute o (nameM1 m) apos) [e] [] cpos) (tBM X.K "str" r (rdV G W cls qo to) (tCons (rdB G W cls q te) tNil)) := by
    cases m with
    | startswith => exact pe_bm PySem.F.plainAttrs_str PySem.F.slot_str_startswith PySem.F.type_str_startswith hr ho (pa_cons he pa_nil hs) hbase hfew hline hs hpl
    | find => exact pe_bm PySem.F.plainAttrs_str PySem.F.slot_str_find PySem.F.type_str_find hr ho (pa_cons he pa_nil hs) hbase hfew hline hs hpl
    | split => exact pe_bm PySem.F.plainAttrs_str PySem.F.slot_str_split PySem.F.type_str_split hr ho (pa_cons he pa_nil hs) hbase hfew hline hs hpl
    | join => exact pe_bm PySem.F.plainAttrs_str PySem.F.slot_str_join PySem.F.type_str_join hr ho (pa_cons he pa_nil hs) hbase hfew hline hs hpl
    | partition => exact pe_bm PySem.F.plainAttrs_str PySem.F.slot_str_partition PySem.F.type_str_partition hr ho (pa_cons he pa_nil hs) hbase hfew hline hs hpl
    | _ => cases hm
  refine PE_imp main fun σ H Q ⟨env, fp, se, T⟩ => ?_
  refine ⟨env, fp, se, T.bind.imp fun d1 env1 T x H1 fp1 fd1 se1 rd1 nd1 ap1 st1 sm1 => ?_⟩
  split at T
  · rename_i hok
    have hs1 : ∃ z, d1 = .p (.str z) := by
      cases m <;> first
        | (cases hm; done)
        | (simp only [rdOk] at hok
           split at hok
           · exact ⟨_, rfl⟩
           · cases hok)
    obtain ⟨z, rfl⟩ := hs1
    have ex := rd1.ofp.str
    subst ex
    refine ⟨rfl, env1, fp1, se1, T.bind.later st1.drop fun d2 env2 T y H2 fp2 fd2 se2 rd2 st2 sm2' => ?_⟩
    obtain ⟨d', e', T⟩ := T.of
    exact (hq (.str z) y H2 Q (.p (.str z)) d2 d' [] fd2 ⟨by rw [RP], rfl⟩ rd2 e' (fresh_done se2 (st1.drop.trans st2) (q := false) nq T)).2
  · exact T.elim
theorem de_idx {to te : Env → R D} {qo q : Bool} (ho : PE X o (rdV G W cls qo to)) (he : PE X e (rdB G W cls q te)) (hbase : attributeBase o "index" X.env (eval o X.env) = eval o X.env)
    (hfew : ((backTo cpos (starEach [e] X.env)).all (fun x => !x.1) && (backToKw cpos (keywordEach [] X.env)).all (fun x => x.1.isSome)
      && decide (([e] : List Expr).length + ([] : List Keyword).length + (if ([] : List Keyword).isEmpty then 0 else 1) < 30)) = true)
    (hline : (apos.endLine == cpos.line) = true) (hs : starEach [e] X.env = (false, eval e X.env) :: starEach [] X.env) :
    PE X (.Call (.Attribute o "index" apos) [e] [] cpos) (rdV G W cls false fun env => (to env).bind fun d1 env => if rdOk .index d1 = true then (te env).bind fun d2 env => R.of (read1 .index d1 d2) env else .st) := by
  obtain ⟨r, hr, hq⟩ := idx_ok (X := X) (G := G)
  refine PE_imp (pe_idx hr ho (pa_cons he pa_nil hs) hbase hfew hline hs) fun σ H Q ⟨env, fp, se, T⟩ => ?_
  refine ⟨env, fp, se, T.bind.imp fun d1 env1 T x H1 fp1 fd1 se1 rd1 nd1 ap1 st1 sm1 => ?_⟩
  split at T
  · rename_i hok
    have hs1 : ∃ z, d1 = .p (.tuple z) := by
      simp only [rdOk] at hok
      split at hok
      · exact ⟨_, rfl⟩
      · cases hok
    obtain ⟨z, rfl⟩ := hs1
    obtain ⟨a, vs, rfl, h1, s1⟩ := rd1.ofp.tuple
    refine ⟨⟨a, vs, rfl, h1⟩, env1, fp1, se1, T.bind.later st1.drop fun d2 env2 T y H2 fp2 fd2 se2 rd2 st2 sm2' => ?_⟩
    obtain ⟨d', e', T⟩ := T.of
    have r1 := rd1.ofp.mono (st2.imm se1.owned) _ _
    exact (hq (.ref a) y H2 Q (.p (.tuple z)) d2 d' [] fd2 ⟨r1, rfl⟩ rd2 e' (fresh_done se2 (st1.drop.trans st2) (q := false) nq T)).2
  · exact T.elim
theorem de_cnt {to te : Env → R D} {qo q : Bool} (ho : PE X o (rdV G W cls qo to)) (he : PE X e (rdB G W cls q te)) (hbase : attributeBase o "count" X.env (eval o X.env) = eval o X.env)
    (hfew : ((backTo cpos (starEach [e] X.env)).all (fun x => !x.1) && (backToKw cpos (keywordEach [] X.env)).all (fun x => x.1.isSome)
      && decide (([e] : List Expr).length + ([] : List Keyword).length + (if ([] : List Keyword).isEmpty then 0 else 1) < 30)) = true)
    (hline : (apos.endLine == cpos.line) = true) (hs : starEach [e] X.env = (false, eval e X.env) :: starEach [] X.env) :
    PE X (.Call (.Attribute o "count" apos) [e] [] cpos) (rdV G W cls false fun env => (to env).bind fun d1 env => if rdOk .count d1 = true then (te env).bind fun d2 env => R.of (read1 .count d1 d2) env else .st) := by
  obtain ⟨r, hr, hq⟩ := cnt_ok (X := X) (G := G)
  refine PE_imp (pe_cnt hr ho (pa_cons he pa_nil hs) hbase hfew hline hs) fun σ H Q ⟨env, fp, se, T⟩ => ?_
  refine ⟨env, fp, se, T.bind.imp fun d1 env1 T x H1 fp1 fd1 se1 rd1 nd1 ap1 st1 sm1 => ?_⟩
  split at T
  · rename_i hok
    have hs1 : ∃ z, d1 = .p (.list z) := by
      simp only [rdOk] at hok
      split at hok
      · exact ⟨_, rfl⟩
      · cases hok
    obtain ⟨z, rfl⟩ := hs1
    obtain ⟨a, vs, rfl, h1, s1⟩ := rd1.ofp.list
    refine ⟨⟨a, vs, rfl, h1⟩, env1, fp1, se1, T.bind.later st1.drop fun d2 env2 T y H2 fp2 fd2 se2 rd2 st2 sm2' => ?_⟩
    obtain ⟨d', e', T⟩ := T.of
    have r1 := rd1.ofp.mono (st2.imm se1.owned) _ _
    exact (hq (.ref a) y H2 Q (.p (.list z)) d2 d' [] fd2 ⟨r1, rfl⟩ rd2 e' (fresh_done se2 (st1.drop.trans st2) (q := false) nq T)).2
  · exact T.elim
end
end
/-! ### dicts with tuples as keys: a value, or another -/
section
variable {X : Cx} {pins : List (Addr × Obj)} {σ : L2.St} {H : Hp} {s : Shared} {A : Around} {E : Value → Shared → Prop} {a : Addr} {xs : List (NestedKey × Addr × V)} {kvs : List (P × P)}
theorem n_getD {Q : Value → Shared → Prop} (hu : A.units + 66 < cLine) (I : Inv X pins σ H s) (e : H a = some (.ext (rawN X.w a xs))) (rn : RN H kvs xs) {k : P} {nk : NestedKey} {b : Addr} (hk : keyT k = some nk) (rk : RP H k (.ref b)) {dv : V} {du : Value} (rd : RelV dv du)
    (h : ∀ v u s', Inv X pins σ H s' → RelV v u → (∀ d, dget kvs k = some d → RP H d v) → (dget kvs k = none → v = dv) → Q u s') : wpAny (model X.prog X.w) A (call (.builtin "dict.get") [.ref a, .ref b, du]) Q E s := by
  obtain ⟨_, hd, us, rel, dd⟩ := raw_dict I.hok e rn
  have room : (nestedKind X.prog X.w).room A.in1 := by show A.in1.units + 8 < cLine; show A.units + 1 + 8 < cLine; omega
  refine call_meetsIn PySem.F.slot_dict_get dd.typeIs PySem.F.entry_dict_get (PySem.F.args_dict_get_3 _ _ _) (meetsH_dict_get_default (nestedKind X.prog X.w) a b hd du) ⟨room, nk, us, key_is I hk rk, dd, ?_⟩
  rcases rn.get hk rel with ⟨h1, h2⟩ | ⟨d, b', v, u, h1, h2, h3, h4⟩
  · rw [h2]
    exact h dv du _ (I.tok _) rd (fun d hd => by rw [h1] at hd; cases hd) fun _ => rfl
  · rw [h2]
    exact h v u _ (I.tok _) h3 (fun d' hd' => by rw [h1] at hd'; cases hd'; exact h4) fun z => by rw [h1] at z; cases z
end
section
variable {X : Cx} {o e f : Expr} {apos cpos : Pos}
def tNGet (w : World) (td ty tx : TE) : TE := fun σ H Q => td σ H fun x H1 => (∃ a xs kvs, x = .ref a ∧ H1 a = some (.ext (rawN w a xs)) ∧ RN H1 kvs xs) ∧ ty σ H1 fun y H2 => tx σ H2 fun z H3 => ∃ (a b : Addr) (kvs : List (P × P)) (xs : List (NestedKey × Addr × V)) (k : P) (nk : NestedKey), x = .ref a ∧ y = .ref b ∧ H3 a = some (.ext (rawN w a xs)) ∧ RN H3 kvs xs ∧ keyT k = some nk ∧ RP H3 k (.ref b) ∧
  ∀ v, (∀ d, dget kvs k = some d → RP H3 d v) → (dget kvs k = none → v = z) → Q v H3
theorem pe_nget {td ty tx : TE} (hu : X.A.units + 66 < cLine) (ho : PE X o td) (he : PE X e ty) (hf : PE X f tx) (m : M2 X o "get" apos e f cpos) : PE X (.Call (.Attribute o "get" apos) [e, f] [] cpos) (tNGet X.w td ty tx) := ⟨fun pins s σ H Q I h => by
  refine wpAny_Call_method m.base m.few m.line PySem.F.plainAttrs_dict PySem.F.slot_dict_get PySem.F.type_dict_get (thn (ho.run pins s σ H _ I h) fun ou s1 ⟨x, H1, I1, rx, ⟨a, xs, kvs, ea, hx, hr⟩, q1⟩ => ?_)
  subst ea
  cases rx
  obtain ⟨_, _, us, _, dd⟩ := raw_dict I1.hok hx hr
  refine ⟨dd.typeIs, fun c hc => ?_, ?_⟩
  · cases hc
    obtain ⟨ob, es, ep, ho, hx, _⟩ := dd
    exact ⟨ob, ho, hx.2.1⟩
  rw [m.trees]
  refine Calls.callWith_builtin rfl (Calls.evalArgs_plain (Calls.spliced_cons (thn (he.run pins s1 σ H1 _ I1 q1) fun ku s2 ⟨y, H2, I2, ry, q2⟩ => Calls.spliced_cons (thn (hf.run pins s2 σ H2 _ I2 q2) fun zu s3 ⟨z, H3, I3, rz, a', b, kvs', xs', k, nk, e1, e2, h3, r3, hk, rk, q3⟩ => Calls.spliced_nil ?_))))
  cases e1
  subst e2
  cases ry
  exact n_getD hu I3 h3 r3 hk rk rz fun v u s4 I4 rv g1 g2 => ⟨v, H3, I4, rv, q3 v g1 g2⟩⟩
theorem de_dgt {cf : Cf} {G : Gh} {W : WX} {cls : String → Addr} {C : Calls} (cx : Ctx cf X G C W cls) {to te tf : Env → R D} {qo qe qf : Bool} {ee ef : DL.E} (ho : PE X o (rdB G W cls qo to)) (he : PE X e (rdV G W cls qe te)) (hf : PE X f (rdV G W cls qf tf)) (h1 : qe = quiet ee) (h2 : qf = quiet ef) (m : M2 X o "get" apos e f cpos) :
    PE X (.Call (.Attribute o "get" apos) [e, f] [] cpos) (rdV G W cls false fun env => (to env).bind fun d env => if isDN d = true then (asP (te env)).bind fun x env => (asP (tf env)).bind fun y env => R.of (if quiet ee = true ∧ quiet ef = true then opGet d x y else none) env else .st) := by
  refine PE_imp (pe_nget cx.units ho he hf m) fun σ H Q ⟨env, fp, se, T⟩ => ?_
  refine ⟨env, fp, se, T.bind.imp fun d env1 T x H1 fp1 fd1 se1 rd1 st1 sm1 => ?_⟩
  split at T
  · rename_i hd
    obtain ⟨kvs, rfl⟩ : ∃ kvs, d = .dc true kvs := by
      unfold isDN at hd
      split at hd
      · exact ⟨_, rfl⟩
      · cases hd
    obtain ⟨a, xs, rfl, k1, s1, rfl⟩ := rd1
    refine ⟨⟨a, xs, kvs, rfl, cx.wd ▸ k1, s1⟩, rdV_p se1 (T.bind.later st1 fun k env2 T y H2 fp2 se2 ry st2 sm2 => ?_)⟩
    refine rdV_p se2 (T.bind.later (st1.trans st2) fun z env3 T zv H3 fp3 se3 rz st3 sm3 => ?_)
    obtain ⟨res, er, T⟩ := T.of
    split at er
    · rename_i hq
      obtain ⟨sa, rfl⟩ := sm2 (h1.trans hq.1)
      obtain ⟨sb, rfl⟩ := sm3 (h2.trans hq.2)
      unfold opGet at er
      simp only at er
      split at er
      · rename_i hk
        cases er
        obtain ⟨nk, hkey⟩ := Option.isSome_iff_exists.mp hk
        obtain ⟨b, rfl⟩ := keyT_ref hkey ry
        have im2 := same_imm sa
        have im3 := same_imm sb
        refine ⟨a, b, kvs, xs, k, nk, rfl, rfl, cx.wd ▸ sb _ _ (sa _ _ k1), (s1.mono im2).mono im3, hkey, ry.mono im3 _ _, fun v g1 g2 => ?_⟩
        refine Fresh.p (fresh_done se3 ((st1.trans st2).trans st3) (q := false) nq T) ?_
        cases hg : dget kvs k with
        | some d => exact g1 d hg
        | none => rw [g2 hg]; exact rz
      · cases er
    · cases er
  · exact T.elim
end
end DL

/-! DL11: kinds, the greatest, what is walked. -/
namespace DL
open PySem PySem.Spec PyProof.Rows L2
/-! ### enumerate over a tuple -/
def itT (t : Addr) : Obj := { cls := .type "tuple_iterator", data := .fields #[.ref t, .int 0 0] }
def enO (i : Addr) : Obj := { cls := .type "enumerate", data := .fields #[.none, .bool false, .ref i, rawInt 0, .none, .none] }
theorem enumT_new (t : Addr) (items : Array Value) (n : Nat) (dd : Option Addr) (ss : Array (Option Value)) :
    Meets (Builtin.«enumerate.__new__» ⟨[.type "enumerate", .ref t], []⟩) (fun _ R z => z.heap.get? t = some { cls := .type "tuple", dict := dd, data := .seq items n, slots := ss } ∧
      R (.ok (.ret (.ref (z.heap.push (itT t)).objs.size))) { z with heap := (z.heap.push (itT t)).push (enO z.heap.objs.size) }) :=
  .of_wp fun pg w0 B0 R0 z ⟨ht, hR⟩ => by
    obtain ⟨hp0, ge, dr, tk0, os0⟩ := z
    have se := sub_enumerate
    have hT : Heap.IsTuple (Shared.heap ⟨hp0, ge, dr, tk0, os0⟩) t items := ⟨_, ht, rfl, n, rfl⟩
    wp_walk using AutoSeq1.wpAny_loadPart' ht
    refine wpAny_stack_any fun k0 => wpAny_pure ?_
    split
    · rename_i c1 _ _ _ _ _
      cases (c1 == Value.type "enumerate")
      · wp_walk using AutoSeq1.wpAny_loadPart' ht, wpAny_pyIter_tuple hT
        exact ⟨_, rfl, hR⟩
      · wp_walk using AutoSeq1.wpAny_loadPart' ht, wpAny_pyIter_tuple hT
        exact ⟨_, rfl, hR⟩
    · wp_walk using AutoSeq1.wpAny_loadPart' ht, wpAny_pyIter_tuple hT
      exact ⟨_, rfl, hR⟩
section
variable {pg : Program} {w0 : World} {B0 : Around} {E0 : Value → Shared → Prop} {z : Shared}
theorem enumT_call {t : Addr} {items : Array Value} {Q0 : Value → Shared → Prop} (hT : z.heap.IsTuple t items)
    (fin : ∀ h', IsEnum h' (z.heap.objs.size + 1) z.heap.objs.size 0 .none → h'.IsTupleIter z.heap.objs.size t 0 → (∀ b o, z.heap.get? b = some o → h'.get? b = some o) → Q0 (.ref (z.heap.objs.size + 1)) { z with heap := h' }) :
    wpAny (model pg w0) B0 (call (.type "enumerate") [.ref t]) Q0 E0 z := by
  obtain ⟨⟨k1, k2, k3, k4⟩, ht, rfl, n, rfl⟩ := hT
  have sz : (z.heap.push (itT t)).objs.size = z.heap.objs.size + 1 := Heap.size_push ..
  have en : IsEnum ((z.heap.push (itT t)).push (enO z.heap.objs.size)) (z.heap.objs.size + 1) z.heap.objs.size 0 .none := by
    rw [← sz]
    exact Heap.get?_push_size _ rfl
  have q1 := fin _ en ⟨_, Heap.get?_push_of_some _ (Heap.get?_push_size _ rfl), rfl, rfl⟩ fun b o e => Heap.get?_push_of_some _ (Heap.get?_push_of_some _ e)
  rw [← sz] at q1 en
  exact callType_new F.called_enumerate (by decide) (F.typeCall_enumerate_1 _) (F.newCall_enumerate_1 _) (fun obj => F.args_object_init_2 obj _) F.entry_enumerate_new (enumT_new t items n k2 k4) ⟨ht, ⟨_, en, rfl⟩, q1⟩
end
/-- the tuple at a as it stands at each turn, each item in a new pair -/
def IteT (K : PySem.W.Frag) (a : Addr) : It :=
  ⟨fun i H => ∃ (vs : List V) (v : V), SqT K H a vs ∧ vs[i]? = some v, fun i H x H' => ∃ T v, x = .ref T ∧ H T = none ∧ H' = upd H T (.tup [.int (i : Nat), v]) ∧ ∀ vs, SqT K H a vs → vs[i]? = some v, fun i H => ∃ vs : List V, SqT K H a vs ∧ vs.length ≤ i⟩
theorem tup_is {s : Shared} {a : Addr} {its : Array Value} (h : IsTup s.heap a its) : s.heap.IsTuple a its := h
theorem draws_end {prog : Program} {w : World} {A : Around} (hh : A.handled = none) (it t : Addr) (items : Array Value) {i : Nat} (hi : items.size ≤ i) :
    Draws prog w A it [it, t] i (fun _ _ => False) (fun j h => j = i ∧ h.IsTupleIter it t i ∧ h.IsTuple t items) where
  live := fun _ _ ⟨_, ⟨o, ho, _⟩, _⟩ => ⟨o, ho⟩
  frame := fun _ _ _ ⟨e, ⟨o, ho, r⟩, ⟨o2, ho2, r2⟩⟩ hk => ⟨e, ⟨o, hk it (by simp) o ho, r⟩, ⟨o2, hk t (by simp) o2 ho2, r2⟩⟩
  item := fun j s Q E hj ⟨e, _⟩ _ => absurd hj (by omega)
  done := fun s Q E ⟨_, h1, h2⟩ hE => wpAny_nextOf_tuple_end hh h1 h2 (Array.getElem?_eq_none hi) hE
theorem turn_enumT {P0 : Program} {w : World} {K : PySem.W.Frag} {elts : List Expr} {kk : Nat} {tpos : Pos} (a e it : Addr) (hae : a ≠ e) (hai : a ≠ it) :
    Turn P0 w K (.Tuple elts kk tpos) (IteT K a) [e, it] e (fun i h => (∃ old, IsEnum h e it ((i : Nat) : Int) old) ∧ h.IsTupleIter it a i ∧ e ≠ it) where
  mem := by simp
  obj := fun i h ⟨⟨old, he⟩, ⟨o, ho, hc, hd⟩, _⟩ b hb => by
    have hb' : b = e ∨ b = it := by simpa using hb
    rcases hb' with rfl | rfl
    · exact ⟨_, he, fun v z => nomatch z⟩
    · exact ⟨o, ho, fun v z => by rw [hd] at z; cases z⟩
  keep := fun i h h' ⟨⟨old, he⟩, ⟨o, ho, r⟩, ne⟩ k => ⟨⟨old, k e (by simp) _ he⟩, ⟨o, k it (by simp) o ho, r⟩, ne⟩
  item := by
    intro X hP hw hK hc i pins s σ H E I hf st hg
    subst hP hw hK
    obtain ⟨⟨old, he⟩, hit, ne⟩ := st
    obtain ⟨vs, v, hq, hx⟩ := hg
    obtain ⟨its, rv, p, hz⟩ := I.tuple hq
    obtain ⟨u, hu, ru⟩ := rv.get hx
    have pt : s.heap.IsTuple a its.toArray := p
    have le : e < s.heap.objs.size := Heap.lt_size he
    have li : it < s.heap.objs.size := by obtain ⟨_, q, _⟩ := hit; exact Heap.lt_size q
    have D := Draws.tuple (prog := X.prog) (w := X.w) (A := X.A.in1) (I.ok.hd hc) it a hai its.toArray
    refine wpAny_pyNext_enum_itemD D he ⟨hit, pt⟩ (by simpa using (List.getElem?_eq_some_iff.mp hu).1) ne (by simp [ne, Ne.symm hae]) fun y h' tk hy ho st' hT hs hk => ?_
    have hy : its.toArray[i]? = some y := hy
    have : y = u := by
      have e2 : its[i]? = some y := by simpa using hy
      rw [hu] at e2
      exact (Option.some.inj e2).symm
    subst this
    refine ⟨_, rfl, wpAny_letOwnedTupleGo_enum (s := { s with heap := h', toks := tk + 1 }) ho fun h2 he2 sb => ?_⟩
    have T2 : h2.get? s.heap.objs.size = some { cls := .type "tuple", data := .seq #[.int i tk, y] } := (sb.2 _ (Nat.ne_of_gt le)).trans hT
    have new : ObjOk X.prog X.w (upd H s.heap.objs.size (.tup [.int (i : Nat), v])) h2 s.heap.objs.size (.tup [.int (i : Nat), v]) :=
      ⟨by show 2 ≤ sizeLine; decide, [.int i tk, y], .cons ⟨_, rfl⟩ (.cons ru .nil), ⟨_, T2, rfl, _, rfl⟩⟩
    have I1 : Inv X pins σ (upd H s.heap.objs.size (.tup [.int (i : Nat), v])) { s with heap := h2, toks := tk + 1 } :=
      I.turnedNew (ch := [e, it]) (fun b ob hb q => (sb.2 b (fun z => hb (by simp [z]))).trans (hk b ob (fun z => hb (by simp [z])) (fun z => hb (by simp [z])) q)) hf (Nat.le_refl _) new
    refine ⟨.ref s.heap.objs.size, _, I1, rfl, ⟨_, v, rfl, I.hok.fresh (Nat.le_refl _), rfl, fun ys hy2 => by rw [I.tuple_inj hy2 hq]; exact hx⟩, ⟨⟨y, ?_⟩, ?_, ne⟩, fun b hb => ?_⟩
    · have e1 : ((i + 1 : Nat) : Int) = (i : Int) + 1 := by omega
      rw [e1]; exact he2
    · obtain ⟨o, h5, r⟩ := st'.1
      exact ⟨o, (sb.2 it (Ne.symm ne)).trans h5, r⟩
    · have hb' : b = e ∨ b = it := by simpa using hb
      have lb : b < s.heap.objs.size := by rcases hb' with rfl | rfl <;> assumption
      rw [upd_ne (Nat.ne_of_lt lb)]
      exact (hf b hb).1
  done := by
    intro X hP hw hK hc i pins s σ H E I hf st hg
    subst hP hw hK
    obtain ⟨⟨old, he⟩, hit, ne⟩ := st
    obtain ⟨vs, hq, hx⟩ := hg
    obtain ⟨its, rv, p, hz⟩ := I.tuple hq
    have pt : s.heap.IsTuple a its.toArray := p
    obtain ⟨f0, f1, f2, f3, f4, f5⟩ := hf it (by simp)
    have hl := rv.length
    have D := draws_end (prog := X.prog) (w := X.w) (A := X.A.in1) (I.ok.hd hc) it a its.toArray (i := i) (by simp; omega)
    exact wpAny_pyNext_enum_endD D he ⟨rfl, hit, pt⟩ fun h' eb => ⟨rfl, I.turned (t' := s.toks) (fun b o hb q => eb b o hb q) f0 f1 f3 f4 f5⟩
  self := fun A i s Q E ⟨⟨_, he⟩, _⟩ q => wpAny_pyIter_enum he q
/-- over a list or a tuple -/
def iEnumS (K : PySem.W.Frag) (ta : TA) : TI := fun σ H R => ta σ H fun vs H1 => (∃ a xs, vs = [.ref a] ∧ SqL K H1 a xs ∧ R (Ite K a) H1) ∨ ∃ a xs, vs = [.ref a] ∧ SqT K H1 a xs ∧ R (IteT K a) H1
theorem two_new {X : Cx} {pins : List (Addr × Obj)} {σ : L2.St} {H : Hp} {s : Shared} (I : Inv X pins σ H s) : ∀ b ∈ [s.heap.objs.size + 1, s.heap.objs.size], FpOk X pins H b := fun b hb => by
  have hb' : b = s.heap.objs.size + 1 ∨ b = s.heap.objs.size := by simpa using hb
  have le : s.heap.objs.size ≤ b := by rcases hb' with rfl | rfl <;> omega
  exact I.fpOk le (I.hok.fresh le)
theorem pi_enumS {X : Cx} {e : Expr} {ta : TA} {p pos tpos : Pos} {elts : List Expr} {kk : Nat} (hg : Gl X "enumerate") (hm : X.mg "enumerate" = none) (ha : PA X [e] ta) (hs : starEach [e] X.env = [(false, eval e X.env)]) :
    PI X (.Tuple elts kk tpos) (.Call (.Name "enumerate" p) [e] [] pos) (iEnumS X.K ta) := ⟨fun pins s σ H R I h => by
  refine Call_ (ld_blt I hg hm boot_enumerate (callWith_type1 (thn (ha.run pos pins s σ H _ I h) fun us z ⟨vs, H1, I1, r1, q1⟩ => ?_) hs rfl))
  rcases q1 with ⟨a, xs, rfl, hq, q⟩ | ⟨a, xs, rfl, hq, q⟩
  · obtain ⟨u, rfl, r⟩ := vals1 r1
    cases r
    obtain ⟨its, rv, pl, hz⟩ := I1.list hq
    exact call_enumerate_list pl.isList fun h' he hit hsz hk => wpAny_pyIter_enum he
      ⟨z.heap.objs.size + 1, [z.heap.objs.size + 1, z.heap.objs.size], _, _, H1, rfl, I1.kept (t' := z.toks) hk, turn_enum a (z.heap.objs.size + 1) z.heap.objs.size, ⟨⟨.none, he⟩, hit, Nat.succ_ne_self _⟩, two_new I1, q⟩
  · obtain ⟨u, rfl, r⟩ := vals1 r1
    cases r
    obtain ⟨its, rv, pl, hz⟩ := I1.tuple hq
    have pt : z.heap.IsTuple a its.toArray := pl
    have la : a < z.heap.objs.size := by obtain ⟨o, ho, _⟩ := pt; exact Heap.lt_size ho
    exact enumT_call pt fun h' he hit hk => wpAny_pyIter_enum he
      ⟨z.heap.objs.size + 1, [z.heap.objs.size + 1, z.heap.objs.size], _, _, H1, rfl, I1.kept (t' := z.toks) hk, turn_enumT a (z.heap.objs.size + 1) z.heap.objs.size (Nat.ne_of_lt (Nat.lt_succ_of_lt la)) (Nat.ne_of_lt la), ⟨⟨.none, he⟩, hit, Nat.succ_ne_self _⟩, two_new I1, q⟩⟩
theorem walk_enumT {K : PySem.W.Frag} {a : Addr} {xs : List V} : Walk (IteT K a) xs.length (fun H => SqT K H a xs) (YPair (fun i => some (.int (i : Nat))) (fun i => xs[i]?)) :=
  ⟨fun i _ hi q => ⟨xs, xs[i], q, by simp [hi]⟩, fun _ q => ⟨xs, q, Nat.le_refl _⟩, fun i H v H' _ q y => by
    obtain ⟨T, x, h1, h2, h3, h4⟩ := y
    exact ⟨T, .int (i : Nat), x, h1, h2, h3, rfl, h4 xs q⟩⟩
section
variable {cf : Cf} {X : Cx} {G : Gh} {C : Calls} {W : WX} {cls : String → Addr}

/-! ### isinstance -/
def tyNm (o : Option Ty) : String := match o with
  | some .int => "int" | some .bool => "bool" | some .str => "str" | some .tuple => "tuple" | some .list => "list" | _ => "NoneType"
theorem tyK {K : PySem.W.Frag} {Cl : CW} {K' : PySem.W.Frag} {H : Hp} {d : D} {v : V} {f : List Addr} (r : RD K Cl H d v f) (h : tyKn d = true) : TyX K' H v (.type (tyNm (tyOf d))) := by
  cases d with
  | p x =>
    have r := r.1
    cases x with
    | none => rw [RP] at r; subst r; exact .base .non
    | bool b => rw [RP] at r; subst r; exact .base (.bl b)
    | int b => rw [RP] at r; subst r; exact .base (.int b)
    | str b => rw [RP] at r; subst r; exact .base (.str b)
    | list b => rw [RP] at r; obtain ⟨a, vs, rfl, ⟨o, q⟩, _⟩ := r; exact .base (.frz q)
    | tuple b => rw [RP] at r; obtain ⟨a, vs, rfl, ⟨o, q, _⟩, _⟩ := r; exact .fTuple q
    | dict b => cases h
  | ml xs => obtain ⟨a, vs, rfl, q, _⟩ := r; exact .base (.lst q)
  | _ => cases h
theorem tyOf_in {d : D} (t : Option Ty) (h : tyOf d = t) : t = none ∨ t = some .bool ∨ t = some .int ∨ t = some .str ∨ t = some .tuple ∨ t = some .list := by
  subst h
  cases d with
  | p x => cases x <;> simp [tyOf]
  | _ => simp [tyOf]
def tyStr : Ty → String
  | .int => "int" | .bool => "bool" | .str => "str" | .tuple => "tuple" | .list => "list" | _ => ""
theorem kit_one (t : Option Ty) (ht : t = none ∨ t = some .bool ∨ t = some .int ∨ t = some .str ∨ t = some .tuple ∨ t = some .list) (c : Ty) (hc : isB c = true) {K : PySem.W.Frag} : PySem.W.kitOne K (.type (tyNm t)) (.type (tyStr c)) = some (isTy t c) := by
  rcases ht with rfl | rfl | rfl | rfl | rfl | rfl <;> cases c <;> first | (cases hc; done) | exact kit_ty (by decide +kernel)
theorem kit_any (t : Option Ty) (ht : t = none ∨ t = some .bool ∨ t = some .int ∨ t = some .str ∨ t = some .tuple ∨ t = some .list) {K : PySem.W.Frag} : ∀ cs : List Ty, cs.all isB = true →
    PySem.W.kitAny K (.type (tyNm t)) (cs.map fun c => .type (tyStr c)) = some (cs.any (isTy t))
  | [], _ => rfl
  | c :: cs, h => by
    rw [List.all_cons, Bool.and_eq_true] at h
    rw [List.map_cons, List.any_cons]
    cases q : isTy t c with
    | true => exact kitAny_cons (b := true) (by rw [kit_one t ht c h.1, q]) (fun z => by cases z) fun _ => rfl
    | false => exact kitAny_cons (b := false) (by rw [kit_one t ht c h.1, q]) (fun _ => by rw [Bool.false_or]; exact kit_any t ht cs h.2) fun z => by cases z
theorem pe_tyn (cx : Ctx cf X G C W cls) {c : Ty} (hc : isB c = true) {e : Expr} (h : glName X.env.scope (nameTy c) e = true) : PE X e (tC (.ty (tyStr c))) := by
  obtain ⟨p, rfl, hg, hd, hn⟩ := gl_of h
  cases c <;> first
    | (cases hc; done)
    | exact pe_bltn hg (cx.blt _ (by decide)) (by decide +kernel) rfl hn hd
theorem notStar_name {x : Str} {p : Pos} {es : List Expr} : starEach (.Name x p :: es) X.env = (false, eval (.Name x p) X.env) :: starEach es X.env := rfl
def tTys (ts : List Ty) : TA := fun _ H Q => Q (ts.map fun c => .ty (tyStr c)) H
theorem pa_tys (cx : Ctx cf X G C W cls) : ∀ {ts : List Ty} {es : List Expr}, ts.all isB = true → tysB X.env.scope ts es = true → es.length = ts.length ∧ PA X es (tTys ts)
  | [], [], _, _ => ⟨rfl, PA_imp pa_nil fun σ H Q h => h⟩
  | c :: ts, e :: es, h, k => by
    rw [List.all_cons, Bool.and_eq_true] at h
    simp only [tysB, Bool.and_eq_true] at k
    obtain ⟨h1, h2⟩ := pa_tys cx h.2 k.2
    obtain ⟨p, rfl, _⟩ := gl_of k.1
    exact ⟨by simp [h1], PA_imp (pa_cons (pe_tyn cx h.1 k.1) h2 notStar_name) fun σ H Q h => h⟩
  | [], _ :: _, _, k => by cases k
  | _ :: _, [], _, k => by cases k
theorem isi_vals : ∀ (ts : List Ty), Paired ClsV (ts.map fun c => V.ty (tyStr c)) (ts.map fun c => Value.type (tyStr c))
  | [] => .nil
  | c :: ts => .cons (.ty _) (isi_vals ts)
theorem isiB_cases {sc : Scope} {ts : List Ty} {one : Bool} {c : Expr} (h : isiB sc ts one c = true) : (∃ t, ts = [t] ∧ glName sc (nameTy t) c = true) ∨ ∃ es k p, c = .Tuple es k p ∧ tysB sc ts es = true ∧ 0 < es.length ∧ es.length ≤ 100 := by
  cases one with
  | true =>
    cases ts with
    | nil => cases h
    | cons t r =>
      cases r with
      | nil => exact .inl ⟨t, rfl, h⟩
      | cons _ _ => cases h
  | false =>
    cases c <;> first | (cases h; done) | skip
    rename_i es k p
    simp only [isiB, Bool.and_eq_true, decide_eq_true_eq] at h
    exact .inr ⟨es, k, p, rfl, h.1.1, h.1.2, h.2⟩
theorem de_isi (cx : Ctx cf X G C W cls) {ts : List Ty} {one : Bool} {e g c : Expr} {te : Env → R D} {q : Bool} {pos : Pos} (he : PE X e (rdB G W cls q te)) (hg : glName X.env.scope "isinstance" g = true) (hc : isiB X.env.scope ts one c = true) (hb : ts.all isB = true)
    (hs : starEach [e, c] X.env = (false, eval e X.env) :: starEach [c] X.env) :
    PE X (.Call g [e, c] [] pos) (rdV G W cls false fun env => (te env).bind (isiD ts)) := by
  obtain ⟨p, rfl, hgl, hd, hn⟩ := gl_of hg
  rcases isiB_cases hc with ⟨t, rfl, hc'⟩ | ⟨es, k, tp, rfl, hc'⟩ <;> replace hc := hc'
  · have hb1 : isB t = true := by simpa using hb
    have ct := pe_tyn cx hb1 hc
    obtain ⟨p2, rfl, _⟩ := gl_of hc
    refine PE_imp (pe_callB call_isi hgl (cx.blt "isinstance" (by simp)) (by decide +kernel) (pa_cons he (pa_cons ct pa_nil notStar_name) hs) hn hd hs rfl) fun σ H Q ⟨env, fp, se, T⟩ => ?_
    refine ⟨env, fp, se, T.bind.imp fun d env1 T x H1 fp1 fd1 se1 rd1 st1 sm1 => ?_⟩
    unfold isiD at T
    split at T
    · rename_i hk
      rw [Bool.and_eq_true] at hk
      refine ⟨x, .ty (tyStr t), _, .type (tyStr t), isTy (tyOf d) t, rfl, .ty _, tyK rd1 hk.2, kit_one _ (tyOf_in _ rfl) t hb1, ?_⟩
      have e1 : [t].any (isTy (tyOf d)) = isTy (tyOf d) t := by simp
      rw [e1] at T
      exact T _ H1 fp1 [] se1 ⟨by rw [RP], rfl⟩ .nil (fun _ z => nomatch z) st1.nil nq
    · exact T.elim
  · obtain ⟨hl, hp⟩ := pa_tys cx hb hc.1
    have ct := pe_tup (pos := tp) (x1 := k) hp
    refine PE_imp (pe_callB call_isiT hgl (cx.blt "isinstance" (by simp)) (by decide +kernel) (pa_cons he (pa_cons ct pa_nil rfl) hs) hn hd hs rfl) fun σ H Q ⟨env, fp, se, T⟩ => ?_
    refine ⟨env, fp, se, T.bind.imp fun d env1 T x H1 fp1 fd1 se1 rd1 st1 sm1 => ⟨?_, fun tp' hn' => ?_⟩⟩
    · rw [List.length_map, ← hl, sizeLine_eq]; omega
    · unfold isiD at T
      split at T
      · rename_i hk
        rw [Bool.and_eq_true] at hk
        have sm := same_upd (o := .tup (ts.map fun c => V.ty (tyStr c))) hn'
        have rd2 := rd1.keep (same_keep sm fd1)
        refine ⟨x, tp', _, _, _, _, rfl, upd_same, isi_vals ts, tyK rd2 hk.2, kit_any _ (tyOf_in _ rfl) ts hb, ?_⟩
        refine T _ _ fp1 [] (se1.same sm) ⟨by rw [RP], rfl⟩ .nil (fun _ z => nomatch z) ⟨fun b o eo hb => sm b o (st1.st b o eo hb), fun b hb => st1.ow b (hb.elim id fun z => nomatch z)⟩ nq
      · exact T.elim

/-! ### the greatest -/
theorem de_mx2 (cx : Ctx cf X G C W cls) (hh : cf.hot = false) {a b g : Expr} {ta tb : Env → R D} {qa qb : Bool} {pos : Pos} (ha : PE X a (rdV G W cls qa ta)) (hb : PE X b (rdV G W cls qb tb)) (hg : glName X.env.scope "max" g = true)
    (hs : starEach [a, b] X.env = (false, eval a X.env) :: starEach [b] X.env) (hs2 : starEach [b] X.env = (false, eval b X.env) :: starEach [] X.env) :
    PE X (.Call g [a, b] [] pos) (rdV G W cls false fun env => (asP (ta env)).bind fun x env => (asP (tb env)).bind fun y env => R.of (mx (.p x) (.p y)) env) := by
  obtain ⟨p, rfl, hgl, hd, hn⟩ := gl_of hg
  refine PE_imp (pe_callB (call_max2 (cx.calm hh)) hgl (cx.blt "max" (by simp)) (by decide +kernel) (pa_cons ha (pa_cons hb pa_nil hs2) hs) hn hd hs (by rw [hs2]; rfl)) fun σ H Q ⟨env, fp, se, T⟩ => ?_
  refine rdV_p se (T.bind.imp fun x env1 T v1 H1 fp1 se1 r1 st1 sm1 => ?_)
  refine rdV_p se1 (T.bind.later st1 fun y env2 T v2 H2 fp2 se2 r2 st2 sm2' => ?_)
  obtain ⟨d, e, T⟩ := T.of
  unfold mx opI at e
  split at e
  · rename_i i hi
    split at e
    · rename_i j hj
      cases hi; cases hj; cases e
      rw [r1.int, r2.int]
      exact ⟨i, j, rfl, T _ H2 fp2 [] se2 ⟨by rw [RP], rfl⟩ .nil (fun _ z => nomatch z) (st1.trans st2).nil nq⟩
    · cases e
  · cases e
theorem mx3_some {x y z : P} {d : D} (e : ((mx (.p x) (.p y)).bind fun u => mx u (.p z)) = some d) : ∃ i j k, x = .int i ∧ y = .int j ∧ z = .int k ∧ d = .p (.int (if k > (if j > i then j else i) then k else (if j > i then j else i))) := by
  cases x <;> first | (cases e; done) | skip
  cases y <;> first | (cases e; done) | skip
  cases z <;> first | (cases e; done) | skip
  cases e
  exact ⟨_, _, _, rfl, rfl, rfl, rfl⟩
theorem de_mx3 (cx : Ctx cf X G C W cls) (hh : cf.hot = false) {a b c g : Expr} {ta tb tc : Env → R D} {qa qb qc : Bool} {pos : Pos} (ha : PE X a (rdV G W cls qa ta)) (hb : PE X b (rdV G W cls qb tb)) (hc : PE X c (rdV G W cls qc tc)) (hg : glName X.env.scope "max" g = true)
    (hs : starEach [a, b, c] X.env = (false, eval a X.env) :: starEach [b, c] X.env) (hs2 : starEach [b, c] X.env = (false, eval b X.env) :: starEach [c] X.env) (hs3 : starEach [c] X.env = (false, eval c X.env) :: starEach [] X.env) :
    PE X (.Call g [a, b, c] [] pos) (rdV G W cls false fun env => (asP (ta env)).bind fun x env => (asP (tb env)).bind fun y env => (asP (tc env)).bind fun z env => R.of ((mx (.p x) (.p y)).bind fun u => mx u (.p z)) env) := by
  obtain ⟨p, rfl, hgl, hd, hn⟩ := gl_of hg
  refine PE_imp (pe_callB (call_max3 (cx.calm hh)) hgl (cx.blt "max" (by simp)) (by decide +kernel) (pa_cons ha (pa_cons hb (pa_cons hc pa_nil hs3) hs2) hs) hn hd hs (by rw [hs2, hs3]; rfl)) fun σ H Q ⟨env, fp, se, T⟩ => ?_
  refine rdV_p se (T.bind.imp fun x env1 T v1 H1 fp1 se1 r1 st1 sm1 => ?_)
  refine rdV_p se1 (T.bind.later st1 fun y env2 T v2 H2 fp2 se2 r2 st2 sm2' => ?_)
  refine rdV_p se2 (T.bind.later (st1.trans st2) fun z env3 T v3 H3 fp3 se3 r3 st3 sm3' => ?_)
  obtain ⟨d, e, T⟩ := T.of
  have key := mx3_some e
  obtain ⟨i, j, k, rfl, rfl, rfl, rfl⟩ := key
  rw [r1.int, r2.int, r3.int]
  exact ⟨i, j, k, rfl, T _ H3 fp3 [] se3 ⟨by rw [RP], rfl⟩ .nil (fun _ z => nomatch z) ((st1.trans st2).trans st3).nil nq⟩

/-! ### what is walked -/
section
variable {tg e g : Expr} {pos : Pos}
/-- data that stand one behind another -/
theorem items_at {tt : Bool} {H' H1 : Hp} {ds : List P} {vs : List V} {i : Nat} {x : V} (r : RPs H' ds vs) (im : Imm H' H1) (e : vs[i]? = some x) : ∃ p, ds[i]? = some p ∧ Item tt p x H1 H1 := by
  obtain ⟨d, h1, h2⟩ := r.get' e
  exact ⟨d, h1, .inl ⟨rfl, h2.mono im _ _⟩⟩
theorem rangeP_at {lo : Int} {n i : Nat} (h : i < n) : (rangeP lo n)[i]? = some (.int (lo + (i : Int))) := by simp [rangeP, h]
theorem rangeP_len {lo : Int} {n : Nat} : (rangeP lo n).length = n := by simp [rangeP]
theorem di_rg1 {tt : Bool} (cx : Ctx cf X G C W cls) {te : Env → R D} {q : Bool} (he : PE X e (rdV G W cls q te)) (hg : glName X.env.scope "range" g = true) (hs : starEach [e] X.env = (false, eval e X.env) :: starEach [] X.env) :
    PI X tg (.Call g [e] [] pos) (rdI G W cls tt fun env => (te env).bind rg1D) := by
  obtain ⟨p, rfl, hgl, hd, hn⟩ := gl_of hg
  refine ⟨fun pins s σ H R I ⟨env, fp, se, T⟩ => (pi_range1 (tg := tg) hgl (cx.blt "range" (by simp)) (pa_cons he pa_nil hs) hs).run pins s σ H R I ⟨env, fp, se, T.bind.imp fun d env1 T v H1 fp1 fd1 se1 rd1 nd1 ap1 st1 sm1 => ?_⟩⟩
  unfold rg1D at T
  split at T
  · rename_i n
    split at T
    · rename_i hb
      have e1 := rd1.ofp.int
      subst e1
      refine ⟨n, rfl, by omega, by omega, T _ H1 fp1 (fun _ => True) _ se1 st1.drop (by rw [rangeP_len]; exact walk_range) (fun _ _ => trivial) fun i Ha x Hb hi _ y => ?_⟩
      obtain ⟨rfl, rfl⟩ := y
      rw [rangeP_len] at hi
      exact ⟨_, rangeP_at hi, .inl ⟨rfl, by rw [RP]⟩⟩
    · exact T.elim
  · exact T.elim
theorem rg2D_of {σ : L2.St} {H : Hp} {fp : Nat → List Addr} {d d2 : D} {env : Env} {T : List P → Env → Prop} (h : RQ G W cls σ H fp (rg2D d d2 env) T) :
    ∃ lo hi, d = .p (.int lo) ∧ d2 = .p (.int hi) ∧ (-(2 ^ 62) ≤ lo ∧ lo < 2 ^ 62 ∧ -(2 ^ 62) ≤ hi ∧ hi < 2 ^ 62) ∧ T (rangeP lo (hi - lo).toNat) env := by
  unfold rg2D at h
  split at h
  · split at h
    · rename_i hb; exact ⟨_, _, rfl, rfl, by omega, h⟩
    · exact h.elim
  · exact h.elim
theorem di_rg2 {tt : Bool} (cx : Ctx cf X G C W cls) {e2 : Expr} {te t2 : Env → R D} {q q2 : Bool} (he : PE X e (rdV G W cls q te)) (h2 : PE X e2 (rdV G W cls q2 t2)) (hg : glName X.env.scope "range" g = true)
    (hs : starEach [e, e2] X.env = (false, eval e X.env) :: starEach [e2] X.env) (hs2 : starEach [e2] X.env = (false, eval e2 X.env) :: starEach [] X.env) :
    PI X tg (.Call g [e, e2] [] pos) (rdI G W cls tt fun env => (te env).bind fun d env => (t2 env).bind fun d2 env => if isP d = true then rg2D d d2 env else .st) := by
  obtain ⟨p, rfl, hgl, hd, hn⟩ := gl_of hg
  refine ⟨fun pins s σ H R I ⟨env, fp, se, T⟩ => (pi_range2 (tg := tg) hgl (cx.blt "range" (by simp)) (pa_cons he (pa_cons h2 pa_nil hs2) hs) (by rw [hs, hs2]; rfl) (by rw [hs2]; rfl)).run pins s σ H R I ⟨env, fp, se, T.bind.imp fun d env1 T v H1 fp1 fd1 se1 rd1 nd1 ap1 st1 sm1 => ?_⟩⟩
  refine ⟨env1, fp1, se1, T.bind.later st1.drop fun d2 env2 T v2 H2 fp2 fd2 se2 rd2 nd2 ap2 st2 sm2' => ?_⟩
  split at T
  · obtain ⟨lo, hi, rfl, rfl, hb, T⟩ := rg2D_of T
    · · have e1 := rd1.ofp.int
        have e2 := rd2.ofp.int
        subst e1 e2
        refine ⟨lo, hi, rfl, hb, T _ H2 fp2 (fun _ => True) _ se2 (st1.drop.trans st2.drop) (by rw [rangeP_len]; exact walk_range) (fun _ _ => trivial) fun i Ha x Hb hi _ y => ?_⟩
        obtain ⟨rfl, rfl⟩ := y
        rw [rangeP_len] at hi
        exact ⟨_, rangeP_at hi, .inl ⟨rfl, by rw [RP]⟩⟩
  · exact T.elim
/-- a datum that is walked -/
theorem di_walk {tt : Bool} (hK : X.K = G.K) {te : Env → R D} {q : Bool} (he : PE X e (rdV G W cls q te)) : PI X tg e (rdI G W cls tt fun env => (te env).bind walkD) := by
  refine ⟨fun pins s σ H R I ⟨env, fp, se, T⟩ => ?_⟩
  dsimp only at T
  cases hr : te env with
  | st => rw [hr] at T; exact T.elim
  | ex c e1 =>
    rw [hr] at T
    exact (pi_list (tg := tg) he).run pins s σ H R I ⟨env, fp, se, by rw [hr]; exact T⟩
  | ok d e1 =>
    rw [hr] at T
    have T : RQ G W cls σ H fp (walkD d e1) _ := T
    unfold walkD at T
    split at T
    · rename_i xs
      refine (pi_list (tg := tg) he).run pins s σ H R I ⟨env, fp, se, by
        rw [hr]
        intro v H1 fp1 fd1 se1 rd1 nd1 ap1 st1 sm1
        obtain ⟨a, vs, rfl, h1, s1⟩ := rd1.ofp.list
        refine ⟨a, rfl, ⟨vs, h1.sq⟩, T _ H1 fp1 (fun H => SqL X.K H a vs) _ se1 st1.drop (by rw [← s1.length]; exact walk_list) (fun H2 im => (im.sqF h1).sq) fun i Ha x Hb hi im y => ?_⟩
        obtain ⟨rfl, hx⟩ := y
        exact items_at s1 im hx⟩
    · rename_i xs
      refine (pi_tup (tg := tg) he).run pins s σ H R I ⟨env, fp, se, by
        rw [hr]
        intro v H1 fp1 fd1 se1 rd1 nd1 ap1 st1 sm1
        obtain ⟨a, vs, rfl, h1, s1⟩ := rd1.ofp.tuple
        refine ⟨a, rfl, ⟨vs, h1.sq⟩, T _ H1 fp1 (fun H => SqT X.K H a vs) _ se1 st1.drop (by rw [← s1.length]; exact walk_tup) (fun H2 im => (im.sqT h1).sq) fun i Ha x Hb hi im y => ?_⟩
        obtain ⟨rfl, hx⟩ := y
        exact items_at s1 im hx⟩
    · rename_i z _
      refine (pi_str (tg := tg) he).run pins s σ H R I ⟨env, fp, se, by
        rw [hr]
        intro v H1 fp1 fd1 se1 rd1 nd1 ap1 st1 sm1
        have ez := rd1.ofp.str
        subst ez
        refine ⟨z, rfl, T _ H1 fp1 (fun _ => True) _ se1 st1.drop (by rw [List.length_map, Array.length_toList]; exact walk_str) (fun _ _ => trivial) fun i Ha x Hb hi _ y => ?_⟩
        obtain ⟨rfl, c, hc, rfl⟩ := y
        exact ⟨.str ⟨#[c]⟩, by rw [List.getElem?_map, Array.getElem?_toList, hc]; rfl, .inl ⟨rfl, by rw [RP]⟩⟩⟩
    · exact T.elim
theorem di_rev {tt : Bool} (cx : Ctx cf X G C W cls) {te : Env → R D} {q : Bool} (he : PE X e (rdV G W cls q te)) (hg : glName X.env.scope "reversed" g = true) (hs : starEach [e] X.env = (false, eval e X.env) :: starEach [] X.env) :
    PI X tg (.Call g [e] [] pos) (rdI G W cls tt fun env => (te env).bind revD) := by
  obtain ⟨p, rfl, hgl, hd, hn⟩ := gl_of hg
  refine ⟨fun pins s σ H R I ⟨env, fp, se, T⟩ => (RT.pi_revA (tg := tg) hgl (cx.blt "reversed" (by simp)) he hs).run pins s σ H R I ⟨env, fp, se, T.bind.imp fun d env1 T v H1 fp1 fd1 se1 rd1 nd1 ap1 st1 sm1 => ?_⟩⟩
  unfold revD at T
  split at T
  · rename_i xs
    obtain ⟨a, vs, rfl, h1, s1⟩ := rd1.ofp.list
    have hl := s1.length
    refine ⟨a, vs, rfl, .inl ⟨h1.sq, T _ H1 fp1 (fun H => SqL X.K H a vs) _ se1 st1.drop (by rw [List.length_reverse, ← hl]; exact walk_rev) (fun H2 im => (im.sqF h1).sq) fun i Ha x Hb hi im y => ?_⟩⟩
    obtain ⟨rfl, hx⟩ := y
    rw [List.length_reverse] at hi
    obtain ⟨p, h2, h3⟩ := items_at s1 im hx
    exact ⟨p, by rw [List.getElem?_reverse hi, ← hl]; exact h2, h3⟩
  · exact T.elim
/-! ### zip, each side a list or a tuple (the kit's Draws and Begins) -/
def SdQ (K : PySem.W.Frag) (t : Bool) (H : Hp) (a : Addr) (xs : List V) : Prop := match t with
  | true => SqT K H a xs
  | false => SqL K H a xs
def SdI (t : Bool) (h : Heap) (it a : Addr) (i : Nat) : Prop := match t with
  | true => h.IsTupleIter it a i
  | false => h.IsListIter it a i
def SdA (t : Bool) (h : Heap) (a : Addr) (items : Array Value) : Prop := match t with
  | true => h.IsTuple a items
  | false => h.IsList a items
def SdO (t : Bool) (a : Addr) : Obj := match t with
  | true => { cls := .type "tuple_iterator", data := .fields #[.ref a, .int 0 0] }
  | false => { cls := .type "list_iterator", data := .fields #[.ref a, .int 0 0] }
theorem SdI.obj {t : Bool} {h : Heap} {it a : Addr} {i : Nat} (st : SdI t h it a i) : ∃ o, h.get? it = some o ∧ ∀ v, o.data ≠ .cell v := by
  cases t
  · obtain ⟨o, e, _, d⟩ := st
    exact ⟨o, e, fun v q => by rw [d] at q; cases q⟩
  · obtain ⟨o, e, _, d⟩ := st
    exact ⟨o, e, fun v q => by rw [d] at q; cases q⟩
theorem SdI.keep {t : Bool} {h h' : Heap} {it a : Addr} {i : Nat} (st : SdI t h it a i) (k : ∀ o, h.get? it = some o → h'.get? it = some o) : SdI t h' it a i := by
  cases t
  · exact Heap.IsListIter.at st fun o q => k o q
  · exact Heap.IsTupleIter.at st fun o q => k o q
theorem SdI.new {t : Bool} {h : Heap} {it a : Addr} (e : h.get? it = some (SdO t a)) : SdI t h it a 0 := by
  cases t
  · exact ⟨_, e, rfl, rfl⟩
  · exact ⟨_, e, rfl, rfl⟩
theorem sd_begins (t : Bool) (a : Addr) (items : Array Value) : Begins (.ref a) (SdO t a) fun h => SdA t h a items := by
  cases t
  · exact begins_list a items
  · exact begins_tuple a items
theorem sd_draws {prog : Program} {w : World} {A : Around} (hh : A.handled = none) (t : Bool) (it a : Addr) (ne : a ≠ it) (items : Array Value) : Draws prog w A it [it, a] items.size (fun i v => items[i]? = some v) (fun i h => SdI t h it a i ∧ SdA t h a items) := by
  cases t
  · exact Draws.list hh it a ne items
  · exact Draws.tuple hh it a ne items
theorem sd_is {X : Cx} {pins : List (Addr × Obj)} {σ : L2.St} {H : Hp} {s : Shared} (I : Inv X pins σ H s) {t : Bool} {a : Addr} {xs : List V} (q : SdQ X.K t H a xs) : ∃ its, Vals xs its ∧ SdA t s.heap a its.toArray ∧ a < s.heap.objs.size := by
  cases t
  · obtain ⟨its, rv, p, _⟩ := I.list q
    exact ⟨its, rv, p.isList, p.lt⟩
  · obtain ⟨its, rv, p, _⟩ := I.tuple q
    obtain ⟨o, ho, _⟩ := id p
    exact ⟨its, rv, p, Heap.lt_size ho⟩
theorem sd_inj {X : Cx} {pins : List (Addr × Obj)} {σ : L2.St} {H : Hp} {s : Shared} (I : Inv X pins σ H s) {t : Bool} {a : Addr} {xs ys : List V} (q : SdQ X.K t H a xs) (q' : SdQ X.K t H a ys) : xs = ys := by
  cases t
  · exact I.list_inj q q'
  · exact I.tuple_inj q q'
def ItzS (K : PySem.W.Frag) (t u : Bool) (a b : Addr) : It :=
  ⟨fun i H => ∃ (xs ys : List V) (x y : V), SdQ K t H a xs ∧ SdQ K u H b ys ∧ xs[i]? = some x ∧ ys[i]? = some y,
    fun i H v H' => ∃ T x y, v = .ref T ∧ H T = none ∧ H' = upd H T (.tup [x, y]) ∧ (∀ xs, SdQ K t H a xs → xs[i]? = some x) ∧ ∀ ys, SdQ K u H b ys → ys[i]? = some y,
    fun i H => ∃ xs ys : List V, SdQ K t H a xs ∧ SdQ K u H b ys ∧ i ≤ xs.length ∧ i ≤ ys.length ∧ (i = xs.length ∨ i = ys.length)⟩
theorem zip_sep {z TI TO i1 i2 a b : Addr} (D : ZipApart z TI TO i1 i2 a b) : ZipSep2 z TI TO i1 i2 [i1, a] [i2, b] where
  TIz := D.TIz
  TOz := D.TOz
  TITO := D.TITO
  TIi1 := D.TIi1
  mem1 := by simp
  zf1 := by simp [D.i1z.symm, D.l1z.symm]
  Tf1 := by simp [D.TOi1, D.l1TO.symm]
  TIi2 := D.TIi2
  mem2 := by simp
  zf2 := by simp [D.i2z.symm, D.l2z.symm]
  Tf2 := by simp [D.TOi2, D.l2TO.symm]
  sep1_2 := by simp [D.i12, D.l2i1.symm]
  sep2_1 := by simp [D.i12.symm, D.l1i2.symm]
theorem turn_zipS {P : Program} {w : World} {K : PySem.W.Frag} {elts : List Expr} {kk : Nat} {tpos : Pos} {a b z TI TO i1 i2 : Addr} (t u : Bool) (D : ZipApart z TI TO i1 i2 a b) :
    Turn P w K (.Tuple elts kk tpos) (ItzS K t u a b) [z, TI, TO, i1, i2] z (fun i h => IsZip h z TI TO .none ∧ IsTupOf2 h TI (.ref i1) (.ref i2) ∧ (∃ x y, IsTupOf2 h TO x y) ∧ SdI t h i1 a i ∧ SdI u h i2 b i) := by
  have cells : ∀ {c : Addr}, c ∈ [z, TI, TO, i1, i2] → c = z ∨ c = TI ∨ c = TO ∨ c = i1 ∨ c = i2 := fun h => by simpa using h
  refine ⟨by simp, fun i h st c hc => ?_, fun i h h' st k => ?_, ?_, ?_, fun A i s Q E st h => wpAny_pyIter_zip st.1 h⟩
  · obtain ⟨hz, hTI, ⟨x, y, hTO⟩, h1, h2⟩ := st
    rcases cells hc with rfl | rfl | rfl | rfl | rfl
    · exact ⟨_, hz, fun v q => nomatch q⟩
    · exact ⟨_, hTI, fun v q => nomatch q⟩
    · exact ⟨_, hTO, fun v q => nomatch q⟩
    · exact h1.obj
    · exact h2.obj
  · obtain ⟨hz, hTI, ⟨x, y, hTO⟩, h1, h2⟩ := st
    exact ⟨k z (by simp) _ hz, k TI (by simp) _ hTI, ⟨x, y, k TO (by simp) _ hTO⟩, h1.keep fun o q => k i1 (by simp) o q, h2.keep fun o q => k i2 (by simp) o q⟩
  · intro X hP hw hK hc i pins s σ H E I hf ⟨hz, hTI, ⟨x0, y0, hTO⟩, h1, h2⟩ ⟨xs, ys, x, y, qx, qy, hx, hy⟩
    subst hP hw hK
    have hh := I.ok.hd hc
    obtain ⟨l1, r1, p1, _⟩ := sd_is I qx
    obtain ⟨l2, r2, p2, _⟩ := sd_is I qy
    obtain ⟨v1, hv1, rv1⟩ := r1.get hx
    obtain ⟨v2, hv2, rv2⟩ := r2.get hy
    have n1 : i < l1.toArray.size := by simpa using (List.getElem?_eq_some_iff.mp hv1).1
    have n2 : i < l2.toArray.size := by simpa using (List.getElem?_eq_some_iff.mp hv2).1
    have hzl : z < s.heap.objs.size := Heap.lt_size hz
    refine wpAny_pyNext_zipD2_item (zip_sep D) (sd_draws (show X.A.in1.handled = none from hh) t i1 a D.l1i1 l1.toArray) (sd_draws (show X.A.in1.handled = none from hh) u i2 b D.l2i2 l2.toArray) hz hTI hTO ⟨h1, p1⟩ ⟨h2, p2⟩ n1 n2 fun w1 w2 h' tk e1 e2 z' TO' st1 st2 hT hsz hk => ?_
    have w1e : w1 = v1 := by
      have : l1[i]? = some w1 := by simpa using e1
      rw [hv1] at this
      cases this; rfl
    have w2e : w2 = v2 := by
      have : l2[i]? = some w2 := by simpa using e2
      rw [hv2] at this
      cases this; rfl
    subst w1e w2e
    refine ⟨_, rfl, wpAny_letOwnedTupleGo_zip (s := { s with heap := h', toks := tk }) z' fun h2' z2 sb => ?_⟩
    replace sb : Heap.SameBut z h' h2' := sb
    have lt : ∀ c ∈ [z, TI, TO, i1, i2], c < s.heap.objs.size := fun c hc' => by
      rcases cells hc' with rfl | rfl | rfl | rfl | rfl
      · exact hzl
      · exact Heap.lt_size hTI
      · exact Heap.lt_size hTO
      · obtain ⟨_, e, _⟩ := h1.obj; exact Heap.lt_size e
      · obtain ⟨_, e, _⟩ := h2.obj; exact Heap.lt_size e
    have hT2 : h2'.get? s.heap.objs.size = some { cls := .type "tuple", data := .seq #[w1, w2] } := (sb.2 _ (Nat.ne_of_gt hzl)).trans hT
    have new : ObjOk X.prog X.w (upd H s.heap.objs.size (.tup [x, y])) h2' s.heap.objs.size (.tup [x, y]) :=
      ⟨by show 2 ≤ sizeLine; decide, [w1, w2], .cons rv1 (.cons rv2 .nil), ⟨_, hT2, rfl, _, rfl⟩⟩
    have I1 : Inv X pins σ (upd H s.heap.objs.size (.tup [x, y])) { s with heap := h2', toks := tk } :=
      I.turnedNew (t' := tk) (ch := [z, TI, TO, i1, i2]) (fun c o hb q => (sb.2 c (fun e => hb (by simp [e]))).trans (hk c o (fun e => hb (by simp [e])) (fun e => hb (by simp [e])) (fun e => hb (by simp [e])) (fun e => hb (by simp [e])) q)) hf (Nat.le_refl _) new
    refine ⟨.ref s.heap.objs.size, _, I1, rfl, ⟨_, x, y, rfl, I.hok.fresh (Nat.le_refl _), rfl, fun l hl => by rw [sd_inj I hl qx]; exact hx, fun l hl => by rw [sd_inj I hl qy]; exact hy⟩, ⟨z2, (sb.2 _ D.TIz).trans (hk _ _ D.TIz D.TITO D.TIi1 D.TIi2 hTI), ⟨w1, w2, (sb.2 _ D.TOz).trans TO'⟩, st1.1.keep fun o q => (sb.2 _ D.i1z).trans q, st2.1.keep fun o q => (sb.2 _ D.i2z).trans q⟩, fun c hcm => ?_⟩
    rw [upd_ne (Nat.ne_of_lt (lt c hcm))]
    exact (hf c hcm).1
  · intro X hP hw hK hc i pins s σ H E I hf ⟨hz, hTI, ⟨x0, y0, hTO⟩, h1, h2⟩ ⟨xs, ys, qx, qy, m1, m2, he⟩
    subst hP hw hK
    have hh := I.ok.hd hc
    obtain ⟨l1, r1, p1, _⟩ := sd_is I qx
    obtain ⟨l2, r2, p2, _⟩ := sd_is I qy
    have e1 : l1.toArray.size = xs.length := by have := r1.length; simp; omega
    have e2 : l2.toArray.size = ys.length := by have := r2.length; simp; omega
    exact wpAny_pyNext_zipD2_end (zip_sep D) (sd_draws (show X.A.in1.handled = none from hh) t i1 a D.l1i1 l1.toArray) (sd_draws (show X.A.in1.handled = none from hh) u i2 b D.l2i2 l2.toArray) hz hTI hTO ⟨h1, p1⟩ ⟨h2, p2⟩ (by omega) (by omega) (by omega) fun h' tk hk =>
      ⟨rfl, I.turnedL (t' := tk) (ch := [z, TI, TO, i1, i2]) (fun c o hb q => hk c o (fun e => hb (by simp [e])) (fun e => hb (by simp [e])) (fun e => hb (by simp [e])) (fun e => hb (by simp [e])) q) hf⟩
def iZipS (K : PySem.W.Frag) (ta : TA) : TI := fun σ H R => ta σ H fun vs H1 => ∃ (t u : Bool) (a b : Addr) (xs ys : List V), vs = [.ref a, .ref b] ∧ SdQ K t H1 a xs ∧ SdQ K u H1 b ys ∧ R (ItzS K t u a b) H1
theorem pi_zipS {X : Cx} {e e2 : Expr} {ta : TA} {p pos tpos : Pos} {elts : List Expr} {kk : Nat} (hg : Gl X "zip") (hm : X.mg "zip" = none) (ha : PA X [e, e2] ta)
    (hs : starEach [e, e2] X.env = (false, eval e X.env) :: starEach [e2] X.env := by rfl) (hpl : (backTo pos (starEach [e2] X.env)).any (·.1) = false := by rfl) :
    PI X (.Tuple elts kk tpos) (.Call (.Name "zip" p) [e, e2] [] pos) (iZipS X.K ta) := by
  refine ⟨fun pins s σ H R I h => Call_ (ld_blt I hg hm PyProof.Rows.boot_zip (PyProof.Rows.callWith_type1 (thn (ha.run pos pins s σ H _ I h) fun us s1 ⟨vs, H1, I1, r1, t, u, a, b, xs, ys, ev, qx, qy, q⟩ => ?_) hs hpl))⟩
  subst ev
  cases r1 with
  | cons r r' =>
    cases r' with
    | cons r' rn =>
      cases rn
      cases r
      cases r'
      obtain ⟨l1, _, p1, b1⟩ := sd_is I1 qx
      obtain ⟨l2, _, p2, b2⟩ := sd_is I1 qy
      refine zip_begins2 (sd_begins t a l1.toArray) (sd_begins u b l2.toArray) p1 p2 fun h' hz hTI hTO g1 g2 hsz hk => wpAny_pyIter_zip hz ?_
      refine ⟨s1.heap.objs.size + 4, [s1.heap.objs.size + 4, s1.heap.objs.size + 2, s1.heap.objs.size + 3, s1.heap.objs.size, s1.heap.objs.size + 1], _, _, H1, rfl, I1.kept (t' := s1.toks) hk, turn_zipS t u (PySem.W.ktu_apart s1.heap.objs.size a b b1 b2), ⟨hz, hTI, ⟨_, _, hTO⟩, .new g1, .new g2⟩, fun c hc => ?_, q⟩
      have hle : s1.heap.objs.size ≤ c := by
        have e : c = s1.heap.objs.size + 4 ∨ c = s1.heap.objs.size + 2 ∨ c = s1.heap.objs.size + 3 ∨ c = s1.heap.objs.size ∨ c = s1.heap.objs.size + 1 := by simpa using hc
        rcases e with rfl | rfl | rfl | rfl | rfl <;> first | exact Nat.le_refl _ | exact Nat.le_add_right _ _
      exact I1.fpOk hle (I1.hok.fresh hle)
theorem wkZipS {K : PySem.W.Frag} {t u : Bool} {a b : Addr} {xs ys : List V} {n : Nat} (hn : n = min xs.length ys.length) : Walk (ItzS K t u a b) n (fun H => SdQ K t H a xs ∧ SdQ K u H b ys) (YPair (fun i => xs[i]?) (fun i => ys[i]?)) := by
  subst hn
  refine ⟨fun i H hi q => ?_, fun H q => ⟨xs, ys, q.1, q.2, by omega, by omega, by omega⟩, fun i H v H' hi q ⟨T, x, z, k1, k2, k3, k4, k5⟩ => ⟨T, x, z, k1, k2, k3, k4 xs q.1, k5 ys q.2⟩⟩
  have l1 : i < xs.length := by omega
  have l2 : i < ys.length := by omega
  exact ⟨xs, ys, xs[i], ys[i], q.1, q.2, by simp [l1], by simp [l2]⟩
theorem pair_item {H H1 H1' : Hp} {a b : P} {u w : V} {x : V} {T : Addr} (hx : x = .ref T) (hn : H1 T = none) (hu : H1' = upd H1 T (.tup [u, w])) (ra : RP H1 a u) (rb : RP H1 b w) : Item true (.tuple [a, b]) x H1 H1' := .inr ⟨T, u, w, a, b, rfl, rfl, hx, hn, hu, ra, rb⟩
theorem catT_at {xs ys : List P} {i : Nat} {a b : P} (ha : xs[i]? = some a) (hb : ys[i]? = some b) : (catT (xs.zip ys))[i]? = some (.tuple [a, b]) := by
  unfold catT
  rw [List.getElem?_map, List.getElem?_zip_eq_some.mpr (show xs[i]? = some (a, b).1 ∧ ys[i]? = some (a, b).2 from ⟨ha, hb⟩)]
  rfl
theorem di_zip (cx : Ctx cf X G C W cls) {e2 : Expr} {elts : List Expr} {kk : Nat} {tpos : Pos} {te t2 : Env → R D} {q q2 : Bool} (he : PE X e (rdV G W cls q te)) (h2 : PE X e2 (rdV G W cls q2 t2)) (hg : glName X.env.scope "zip" g = true)
    (hs : starEach [e, e2] X.env = (false, eval e X.env) :: starEach [e2] X.env) (hs2 : starEach [e2] X.env = (false, eval e2 X.env) :: starEach [] X.env) :
    PI X (.Tuple elts kk tpos) (.Call g [e, e2] [] pos) (rdI G W cls true fun env => (te env).bind fun d env => (t2 env).bind fun d2 env => if isP d = true then zipD d d2 env else .st) := by
  obtain ⟨p, rfl, hgl, hd, hn⟩ := gl_of hg
  refine ⟨fun pins s σ H R I ⟨env, fp, se, T⟩ => (pi_zipS (elts := elts) (kk := kk) (tpos := tpos) hgl (cx.blt "zip" (by simp)) (pa_cons he (pa_cons h2 pa_nil hs2) hs) hs (by rw [hs2]; rfl)).run pins s σ H R I ⟨env, fp, se, T.bind.imp fun d env1 T v H1 fp1 fd1 se1 rd1 nd1 ap1 st1 sm1 => ?_⟩⟩
  refine ⟨env1, fp1, se1, T.bind.later st1.drop fun d2 env2 T v2 H2 fp2 fd2 se2 rd2 nd2 ap2 st2 sm2' => ?_⟩
  split at T
  · unfold zipD at T
    split at T
    · rename_i xs ys _
      obtain ⟨a, vs, rfl, a1, s1⟩ := (rd1.ofp.mono (st2.imm se1.owned) _ _).list
      obtain ⟨b, ws, rfl, b1, s2⟩ := rd2.ofp.list
      refine ⟨false, false, a, b, vs, ws, rfl, a1.sq, b1.sq, T _ H2 fp2 (fun H => SdQ X.K false H a vs ∧ SdQ X.K false H b ws) _ se2 (st1.drop.trans st2.drop) (wkZipS (by simp [catT, s1.length, s2.length])) (fun H3 im => ⟨(im.sqF a1).sq, (im.sqF b1).sq⟩) fun i Ha x Hb hi im y => ?_⟩
      obtain ⟨T', u, w, hx, hn', hu, hu1, hu2⟩ := y
      obtain ⟨pa, p1, p2⟩ := s1.get' hu1
      obtain ⟨pb, p3, p4⟩ := s2.get' hu2
      exact ⟨_, catT_at p1 p3, pair_item (H := Ha) hx hn' hu (p2.mono im _ _) (p4.mono im _ _)⟩
    · rename_i xs ys _
      obtain ⟨a, vs, rfl, a1, s1⟩ := (rd1.ofp.mono (st2.imm se1.owned) _ _).tuple
      obtain ⟨b, ws, rfl, b1, s2⟩ := rd2.ofp.tuple
      refine ⟨true, true, a, b, vs, ws, rfl, a1.sq, b1.sq, T _ H2 fp2 (fun H => SdQ X.K true H a vs ∧ SdQ X.K true H b ws) _ se2 (st1.drop.trans st2.drop) (wkZipS (by simp [catT, s1.length, s2.length])) (fun H3 im => ⟨(im.sqT a1).sq, (im.sqT b1).sq⟩) fun i Ha x Hb hi im y => ?_⟩
      obtain ⟨T', u, w, hx, hn', hu, hu1, hu2⟩ := y
      obtain ⟨pa, p1, p2⟩ := s1.get' hu1
      obtain ⟨pb, p3, p4⟩ := s2.get' hu2
      exact ⟨_, catT_at p1 p3, pair_item (H := Ha) hx hn' hu (p2.mono im _ _) (p4.mono im _ _)⟩
    · rename_i xs ys _
      obtain ⟨a, vs, rfl, a1, s1⟩ := (rd1.ofp.mono (st2.imm se1.owned) _ _).tuple
      obtain ⟨b, ws, rfl, b1, s2⟩ := rd2.ofp.list
      refine ⟨true, false, a, b, vs, ws, rfl, a1.sq, b1.sq, T _ H2 fp2 (fun H => SdQ X.K true H a vs ∧ SdQ X.K false H b ws) _ se2 (st1.drop.trans st2.drop) (wkZipS (by simp [catT, s1.length, s2.length])) (fun H3 im => ⟨(im.sqT a1).sq, (im.sqF b1).sq⟩) fun i Ha x Hb hi im y => ?_⟩
      obtain ⟨T', u, w, hx, hn', hu, hu1, hu2⟩ := y
      obtain ⟨pa, p1, p2⟩ := s1.get' hu1
      obtain ⟨pb, p3, p4⟩ := s2.get' hu2
      exact ⟨_, catT_at p1 p3, pair_item (H := Ha) hx hn' hu (p2.mono im _ _) (p4.mono im _ _)⟩
    · rename_i xs ys _
      obtain ⟨a, vs, rfl, a1, s1⟩ := (rd1.ofp.mono (st2.imm se1.owned) _ _).list
      obtain ⟨b, ws, rfl, b1, s2⟩ := rd2.ofp.tuple
      refine ⟨false, true, a, b, vs, ws, rfl, a1.sq, b1.sq, T _ H2 fp2 (fun H => SdQ X.K false H a vs ∧ SdQ X.K true H b ws) _ se2 (st1.drop.trans st2.drop) (wkZipS (by simp [catT, s1.length, s2.length])) (fun H3 im => ⟨(im.sqF a1).sq, (im.sqT b1).sq⟩) fun i Ha x Hb hi im y => ?_⟩
      obtain ⟨T', u, w, hx, hn', hu, hu1, hu2⟩ := y
      obtain ⟨pa, p1, p2⟩ := s1.get' hu1
      obtain ⟨pb, p3, p4⟩ := s2.get' hu2
      exact ⟨_, catT_at p1 p3, pair_item (H := Ha) hx hn' hu (p2.mono im _ _) (p4.mono im _ _)⟩
    · exact T.elim
  · exact T.elim
theorem di_enu (cx : Ctx cf X G C W cls) {elts : List Expr} {kk : Nat} {tpos : Pos} {te : Env → R D} {q : Bool} (he : PE X e (rdV G W cls q te)) (hg : glName X.env.scope "enumerate" g = true) (hs : starEach [e] X.env = (false, eval e X.env) :: starEach [] X.env) :
    PI X (.Tuple elts kk tpos) (.Call g [e] [] pos) (rdI G W cls true fun env => (te env).bind enuD) := by
  obtain ⟨p, rfl, hgl, hd, hn⟩ := gl_of hg
  refine ⟨fun pins s σ H R I ⟨env, fp, se, T⟩ => (pi_enumS (elts := elts) (kk := kk) (tpos := tpos) hgl (cx.blt "enumerate" (by simp)) (pa_cons he pa_nil hs) hs).run pins s σ H R I ⟨env, fp, se, T.bind.imp fun d env1 T v H1 fp1 fd1 se1 rd1 nd1 ap1 st1 sm1 => ?_⟩⟩
  unfold enuD at T
  split at T
  · rename_i xs
    obtain ⟨a, vs, rfl, h1, s1⟩ := rd1.ofp.list
    have hl := s1.length
    refine .inl ⟨a, vs, rfl, h1.sq, T _ H1 fp1 (fun H => SqL X.K H a vs) _ se1 st1.drop (by rw [show (catT ((rangeP 0 xs.length).zip xs)).length = vs.length by simp [catT, rangeP, hl]]; exact walk_enum) (fun H2 im => (im.sqF h1).sq) fun i Ha x Hb hi im y => ?_⟩
    obtain ⟨T', u, w, hx, hn', hu, hu1, hu2⟩ := y
    have hi' : i < xs.length := by simpa [catT, rangeP] using hi
    obtain ⟨pb, p3, p4⟩ := s1.get' hu2
    cases hu1
    exact ⟨_, catT_at (rangeP_at hi') p3, pair_item (H := Ha) hx hn' hu (by rw [RP]; simp) (p4.mono im _ _)⟩
  · rename_i xs
    obtain ⟨a, vs, rfl, h1, s1⟩ := rd1.ofp.tuple
    have hl := s1.length
    refine .inr ⟨a, vs, rfl, h1.sq, T _ H1 fp1 (fun H => SqT X.K H a vs) _ se1 st1.drop (by rw [show (catT ((rangeP 0 xs.length).zip xs)).length = vs.length by simp [catT, rangeP, hl]]; exact walk_enumT) (fun H2 im => (im.sqT h1).sq) fun i Ha x Hb hi im y => ?_⟩
    obtain ⟨T', u, w, hx, hn', hu, hu1, hu2⟩ := y
    have hi' : i < xs.length := by simpa [catT, rangeP] using hi
    obtain ⟨pb, p3, p4⟩ := s1.get' hu2
    cases hu1
    exact ⟨_, catT_at (rangeP_at hi') p3, pair_item (H := Ha) hx hn' hu (by rw [RP]; simp) (p4.mono im _ _)⟩
  · exact T.elim
end
end
/-! ### len(set(texts)) of a tuple -/
theorem uq_snoc (xs : List Str) (x : Str) : uq (xs ++ [x]) = if x ∈ uq xs then uq xs else uq xs ++ [x] := by
  unfold uq
  rw [List.foldl_append]
  rfl
theorem uq_len (xs : List Str) : (uq xs).length ≤ xs.length := by
  have h : ∀ (xs l : List Str), (xs.foldl (fun l x => if x ∈ l then l else l ++ [x]) l).length ≤ l.length + xs.length := fun xs => by
    induction xs with
    | nil => intro l; simp
    | cons x xs ih =>
      intro l
      rw [List.foldl_cons]
      have := ih (if x ∈ l then l else l ++ [x])
      by_cases c : x ∈ l
      · rw [if_pos c] at this ⊢; simp only [List.length_cons]; omega
      · rw [if_neg c] at this ⊢; simp only [List.length_append, List.length_cons, List.length_nil] at this ⊢; omega
  have := h xs []
  unfold uq
  simpa using this
section
variable {prog : Program} {w : World} {A : Around}
theorem texts_loop {R : Result → Shared → Prop} {I : Addr} {fp wr : List Addr} {G : Array GenState → Array GenState → Prop} {n : Nat} {P : Nat → Value → Prop} {St : Nat → Shared → Prop}
    (W : WalksS prog w A.in1 I fp wr G n P St) (S : Addr) (hS0 : S ∉ fp) (xs : List Str) (hn : xs.length = n) (hb : n + 1 < scanBound) (hval : ∀ i v, P i v → ∃ x t, xs[i]? = some x ∧ v = .str x t) :
    ∀ (k i : Nat) (s : Shared), n - i = k → i ≤ n → St i s → s.heap.SetOf (PySem.strKind prog w) S (fun z => decide (z ∈ uq (xs.take i))) (uq (xs.take i)).length →
      (∀ s', Moved (S :: wr) G s s' → s'.heap.SetOf (PySem.strKind prog w) S (fun z => decide (z ∈ uq xs)) (uq xs).length → R (.ok (.ret .none)) s') →
      codeAny (model prog w) A (.builtin "set.update.loop" ⟨[.ref S, .ref I], []⟩) R s := by
  have out : S ∉ wr := fun h => hS0 (W.sub _ h)
  have wid : ∀ b ∈ wr, b ∈ S :: wr := fun b hb => List.mem_cons_of_mem _ hb
  have keepS : ∀ {s s' : Shared} {f : Str → Bool} {m : Nat}, Moved wr G s s' → s.heap.SetOf (PySem.strKind prog w) S f m → s'.heap.SetOf (PySem.strKind prog w) S f m := fun hm q => by
    obtain ⟨o, es, ep, tb, ho, rest⟩ := q
    exact ⟨o, es, ep, tb, hm.heap S _ out ho, rest⟩
  intro k
  induction k with
  | zero =>
    intro i s hk hi st q hR
    have e : i = n := by omega
    have et : xs.take i = xs := List.take_of_length_le (by omega)
    rw [et] at q
    refine codeAny_builtin PyProof.Rows.F.entry_set_update_loop ?_
    rw [Around.under_plainId PyProof.Rows.F.plain_set_update_loop _]
    show wpAny _ A.in1 (pyNext (.ref I) >>= _) _ _ s
    refine wpAny_bind (W.done s _ _ (e ▸ st) fun s' hm => ?_)
    show wpAny _ A.in1 (ret Value.none) _ _ s'
    exact wpAny_pure (hR s' (hm.mono wid) (keepS hm q))
  | succ k ih =>
    intro i s hk hi st q hR
    have lt : i < n := by omega
    refine codeAny_builtin PyProof.Rows.F.entry_set_update_loop ?_
    rw [Around.under_plainId PyProof.Rows.F.plain_set_update_loop _]
    show wpAny _ A.in1 (pyNext (.ref I) >>= _) _ _ s
    refine wpAny_bind (W.item i s _ _ lt st fun v s' hP st' hm => ?_)
    obtain ⟨x, t, hx, rfl⟩ := hval i v hP
    have q' := keepS hm q
    have tk : xs.take (i + 1) = xs.take i ++ [x] := by rw [List.take_add_one, hx]; rfl
    have ul := uq_len (xs.take i)
    show wpAny _ A.in1 (holding [Value.str x t] (setAdd S (.str x t)) >>= _) _ _ s'
    refine wpAny_bind (wpAny_holding ?_)
    unfold setAdd
    refine wpAny_holding ?_
    refine wpAny_bind ((PySem.strKind prog w).pyHash (k := x) (strKind_is _ _ _ _) ?_)
    refine wpAny_setAddHashed_of (knd := PySem.strKind prog w) (s := { s' with toks := s'.toks + 1 }) (strKind_is _ _ _ _) rfl q' (by simp at ul; omega) fun h' sb q2 => ?_
    have q3 : h'.SetOf (PySem.strKind prog w) S (fun z => decide (z ∈ uq (xs.take (i + 1)))) (uq (xs.take (i + 1))).length := by
      rw [tk, uq_snoc]
      refine PyProof.Rows.SetOf_congr q2 (fun z => ?_) ?_
      · by_cases c : x ∈ uq (xs.take i)
        · rw [if_pos c]
          by_cases d : z = x
          · subst d; simp [c]
          · simp [d]
        · rw [if_neg c]
          simp [List.mem_append]
      · by_cases c : x ∈ uq (xs.take i)
        · simp [c]
        · simp [c]
    refine wpAny_pure ⟨plainId_quiet PyProof.Rows.F.plain_set_update_loop _, ih (i + 1) _ (by omega) lt (W.frame _ s' _ _ st' (Nat.le_succ _) fun b hb o e => (sb.2 b fun h => hS0 (h ▸ hb)).trans e) q3 fun s2 hm2 q4 => hR s2 (Moved.trans W.gtrans ((hm.mono wid).then_heap (Nat.le_succ _) fun b o hb e => (sb.2 b fun h => hb (by rw [h]; exact List.mem_cons_self)).trans e) hm2) q4⟩
set_option maxHeartbeats 3200000 in
/-- set(t), t a tuple of texts -/
theorem set_texts {E : Value → Shared → Prop} {s : Shared} {l : Addr} {items : Array Value} {xs : List Str} {Q : Value → Shared → Prop} (hh : A.handled = none) (hl : s.heap.IsTuple l items) (hi : PyProof.Rows.StrsAre items.toList xs) (hb : xs.length + 1 < scanBound)
    (h : ∀ (h' : Heap) (tk : Nat), h'.SetOf (PySem.strKind prog w) s.heap.objs.size (fun z => decide (z ∈ uq xs)) (uq xs).length → (∀ b o, b < s.heap.objs.size → s.heap.get? b = some o → h'.get? b = some o) → Q (.ref s.heap.objs.size) { s with heap := h', toks := tk }) :
    wpAny (model prog w) A (call (.type "set") [.ref l]) Q E s := by
  have nn : xs.length = items.size := by rw [← StrsAre.len_eq hi, Array.length_toList]
  obtain ⟨mr, mt, hm⟩ := PySem.F.called_set.mro
  have k1 := PySem.F.called_set.made
  have k2 := PySem.F.called_set.sub
  have k3 := PySem.F.called_set.notType
  have k4 := PySem.F.called_set.canCreate
  have k5 := PySem.F.typeCall_set_1 (.ref l)
  refine wpAny_call (codeAny_of_tree ?_)
  show wpAny _ _ (callAny (.type "set") _) _ _ _
  refine wpAny_pure ⟨Code.quiet_builtin _ (by decide +kernel), codeAny_builtin PySem.F.entry_type_call ?_⟩
  rw [Around.under_plain (weight_type_call_type "set" [.ref l] []) rfl]
  repeat (any_goals (first | assumption | wp_step))
  -- the new set, still without items
  refine codeAny_mono (code_set_new_1 (.ref l) (E := E) (Q₁ := fun ob z => ∃ q : Bool, ob = .ref s.heap.objs.size ∧ z = { s with heap := s.heap.push { cls := .type "set", dict := none, data := .set #[] 0 (.fresh 0 0 q) } }) fun q => ⟨q, rfl, rfl⟩) fun r z hr => ?_
  cases r with
  | error e => exact hr
  | ok f =>
    cases f with
    | ret ob =>
      obtain ⟨q, rfl, rfl⟩ := hr
      have gS : (s.heap.push { cls := .type "set", dict := none, data := .set #[] 0 (.fresh 0 0 q) }).get? s.heap.objs.size = some { cls := .type "set", dict := none, data := .set #[] 0 (.fresh 0 0 q) } := Heap.get?_push_size _ rfl
      have tS : Shared.TypeIs { s with heap := s.heap.push { cls := .type "set", dict := none, data := .set #[] 0 (.fresh 0 0 q) } } (.ref s.heap.objs.size) "set" := ⟨_, gS, rfl⟩
      have i1 := PySem.F.called_set.init.lookup
      have i2 := PySem.F.called_set.init.bind (.ref s.heap.objs.size)
      repeat (any_goals (first | assumption | wp_step))
      refine codeAny_mono (codeAny_call_builtin (R := wants (fun r z => r = .none ∧ ∃ h' tk, z = { s with heap := h', toks := tk } ∧ h'.SetOf (PySem.strKind prog w) s.heap.objs.size (fun z => decide (z ∈ uq xs)) (uq xs).length ∧ ∀ b o, b < s.heap.objs.size → s.heap.get? b = some o → h'.get? b = some o) E) PySem.F.called_set.init.plain PySem.F.entry_set_init (check_set_init_1 tS ?_)) fun r z hr => ?_
      · obtain ⟨⟨oc, od, odt, osl⟩, gl, hc, nl, hd⟩ := hl
        simp only at hc hd
        subst hc
        subst hd
        have gl' : (s.heap.push { cls := .type "set", dict := none, data := .set #[] 0 (.fresh 0 0 q) }).get? l = some { cls := .type "tuple", dict := od, data := .seq items nl, slots := osl } := Heap.get?_push_of_some _ gl
        have u1 := PySem.F.sub_tuple_set
        have u2 := PySem.F.sub_tuple_frozenset
        have u3 : (Value.type "tuple" == Value.type "dict") = false := by decide
        have tl : (s.heap.push { cls := .type "set", dict := none, data := .set #[] 0 (.fresh 0 0 q) }).IsTuple l items := ⟨_, gl', rfl, nl, rfl⟩
        unfold Builtin.«set.__init__» noKeywords Builtin.Frozenset.updateFrom
        generalize hPI : pyIter = PI
        wp_walk
        subst hPI
        refine wpAny_pyIter_tuple tl (wpAny_bind (wpAny_runValue ?_))
        have ll : l < s.heap.objs.size := Heap.lt_size gl
        have a3 : A.in1.in1.in1.handled = none := by simp [hh]
        have nI : l ≠ (s.heap.push { cls := .type "set", dict := none, data := .set #[] 0 (.fresh 0 0 q) }).objs.size := by
          rw [Heap.size_push]; exact Nat.ne_of_lt (Nat.lt_succ_of_lt ll)
        have nS : s.heap.objs.size ∉ [(s.heap.push { cls := .type "set", dict := none, data := .set #[] 0 (.fresh 0 0 q) }).objs.size, l] := by
          rw [Heap.size_push]
          simp only [List.mem_cons, List.not_mem_nil, or_false, not_or]
          exact ⟨Nat.ne_of_lt (Nat.lt_succ_self _), Nat.ne_of_gt ll⟩
        refine texts_loop ((Walks.tuple a3 _ l nI items).toS) s.heap.objs.size nS xs nn (by omega) (fun i v hv => ?_) (items.size - 0) 0 _ (by omega) (Nat.zero_le _) ⟨⟨_, Heap.get?_push_size _ rfl, rfl, rfl⟩, tl.push _⟩ ?first ?last
        · obtain ⟨t, e⟩ := SS.strs_at hi i v (by rw [Array.getElem?_toList]; exact hv)
          have il : i < xs.length := by rw [nn]; exact (Array.getElem?_eq_some_iff.mp hv).1
          exact ⟨xs[i], t, List.getElem?_eq_getElem il, by rw [e, List.getD_eq_getElem?_getD, List.getElem?_eq_getElem il]; rfl⟩
        case first =>
          have g2 : ((s.heap.push { cls := .type "set", dict := none, data := .set #[] 0 (.fresh 0 0 q) }).push { cls := .type "tuple_iterator", data := .fields #[.ref l, .int 0 0] }).get? s.heap.objs.size = some { cls := .type "set", dict := none, data := .set #[] 0 (.fresh 0 0 q) } := Heap.get?_push_of_some _ gS
          exact PyProof.Rows.SetOf_congr ((PyProof.Rows.setObjOf_fresh (knd := PySem.strKind prog w) q).setOf g2 (by unfold scanBound; omega)) (fun _ => by simp [uq]) rfl
        case last =>
          intro z hm hz
          obtain ⟨h', g', d', tk', os'⟩ := z
          have e1 : g' = s.gens := hm.gens
          have e2 : d' = s.drawn := hm.drawn
          have e3 : os' = s.os := hm.os
          subst e1
          subst e2
          subst e3
          show wpAny _ _ _ _ _ _
          refine wpAny_pure ?_
          show wpAny _ _ (ret Value.none) _ _ _
          refine wpAny_pure ⟨rfl, h', tk', rfl, hz, fun b o hb e => hm.heap b o ?_ (Heap.get?_push_of_some _ (Heap.get?_push_of_some _ e))⟩
          simp only [List.mem_cons, List.not_mem_nil, or_false, not_or, Heap.size_push]
          exact ⟨Nat.ne_of_lt hb, Nat.ne_of_lt (Nat.lt_succ_of_lt hb)⟩
      · cases r with
        | error e => exact hr
        | ok f2 =>
          cases f2 with
          | ret v =>
            obtain ⟨rfl, h', tk, rfl, hz, hk⟩ := hr
            repeat (any_goals (first | assumption | wp_step))
            exact h _ _ hz hk
          | _ => exact hr.elim
    | _ => exact hr.elim
end
/-- len(set(t)) -/
def tLenUq (K : PySem.W.Frag) (ta : TE) : TE := fun σ H Q => ta σ H fun x H1 => ∃ l, ∃ xs : List Str, x = .ref l ∧ SqT K H1 l (xs.map V.str) ∧ xs.length ≤ 64 ∧ Q (.int ((uq xs).length : Nat)) H1
theorem pe_lenUq {X : Cx} {a : Expr} {ta : TE} {p p2 q pos : Pos} (hc : X.calm = true) (hg : Gl X "len") (hm : X.mg "len" = none) (hg2 : Gl X "set") (hm2 : X.mg "set" = none) (ha : PE X a ta)
    (na : starEach [a] X.env = (false, eval a X.env) :: starEach [] X.env := by rfl) : PE X (.Call (.Name "len" p) [.Call (.Name "set" p2) [a] [] q] [] pos) (tLenUq X.K ta) := by
  refine ⟨fun pins s σ H Q I h => Call_ (ld_blt I hg hm boot_len (PyProof.Rows.callWith_builtin1 (PyProof.Rows.args_cons (Call_ (ld_blt I hg2 hm2 boot_set (PyProof.Rows.callWith_type1 (PyProof.Rows.args_cons (thn (ha.run pins s σ H _ I h) fun v s1 ⟨x, H1, I1, r1, l, xs, ex, hq, h64, q1⟩ => PyProof.Rows.args_nil ?_) na) na rfl))) rfl) rfl rfl))⟩
  subst ex
  cases r1
  obtain ⟨its, r, pl, _⟩ := I1.tuple hq
  have ul := uq_len xs
  refine set_texts (I1.ok.hd hc) pl (by simpa using strsAre_of r) (by unfold scanBound; omega) fun h' tk hS hk => PyProof.Rows.args_nil ?_
  obtain ⟨o, es, ep, t, ho, hex, hd, _, _, _, hf, hn⟩ := hS
  have I2 : Inv X pins σ H1 { s1 with heap := h', toks := tk } := I1.kept fun b o e => hk b o (Heap.lt_size e) e
  exact call_len_set ho hex hd hf (by rw [hn]; omega) ⟨.int ((uq xs).length : Nat), H1, I2.tok _, ⟨_, by rw [hn]⟩, q1⟩
section
variable {X : Cx} {G : Gh} {W : WX} {cls : String → Addr} {cf : Cf} {C : Calls}
theorem de_lns (cx : Ctx cf X G C W cls) (hc : X.calm = true) {e g g2 : Expr} {te : Env → R D} {q : Bool} {p2 pos : Pos} (he : PE X e (rdV G W cls q te)) (hg : glName X.env.scope "len" g = true) (hg2 : glName X.env.scope "set" g2 = true)
    (hs : starEach [e] X.env = (false, eval e X.env) :: starEach [] X.env) : PE X (.Call g [.Call g2 [e] [] p2] [] pos) (rdV G W cls q fun env => (te env).bind fun d env => R.of (lnsD d) env) := by
  obtain ⟨p, rfl, hgl, hd, hn⟩ := gl_of hg
  obtain ⟨p', rfl, hgl2, hd2, hn2⟩ := gl_of hg2
  refine PE_imp (pe_lenUq hc hgl (cx.blt "len" (by simp)) hgl2 (cx.blt "set" (by simp)) he hs) fun σ H Q ⟨env, fp, se, T⟩ => ?_
  refine ⟨env, fp, se, T.bind.imp fun d env1 T v H1 fp1 fd1 se1 rd1 nd1 ap1 st1 sm1 => ?_⟩
  obtain ⟨d', e', T⟩ := T.of
  unfold lnsD at e'
  split at e'
  · rename_i xs
    split at e'
    · rename_i ss hss
      split at e'
      · rename_i h64
        cases e'
        obtain ⟨a, vs, rfl, a1, s1⟩ := rd1.ofp.tuple
        have ev := s1.strs hss
        subst ev
        exact ⟨a, ss, rfl, a1.sq, h64, T _ H1 fp1 [] se1 ⟨by rw [RP], rfl⟩ .nil (fun _ z => nomatch z) st1.drop.nil sm1⟩
      · cases e'
    · cases e'
  · cases e'
end
/-! ### a display of constant texts, asked at once -/
def dixT (kvs : List (Str × Str)) : List (TE × TE) := kvs.map fun q => (tC (.str q.1), tC (.str q.2))
theorem dix_pps {X : Cx} {pos : Pos} : ∀ (kvs : List (Str × Str)) (ks : List (Option Expr)) (vs : List Expr), dixB kvs ks vs = true → PPs X pos ks vs (dixT kvs) ∧ ks.all (·.isSome) = true ∧ ks.length = kvs.length ∧ vs.length = kvs.length
  | [], ks, vs, h => by
    cases ks with
    | nil =>
      cases vs with
      | nil => exact ⟨pps_nil, rfl, rfl, rfl⟩
      | cons v vs => simp [dixB] at h
    | cons k ks => simp [dixB] at h
  | q :: r, ks, vs, h => by
    unfold dixB at h
    split at h
    · rename_i e; cases e
    · rename_i q' r' a _ _ ks' b _ _ vs' e
      cases e
      simp only [Bool.and_eq_true, decide_eq_true_eq] at h
      obtain ⟨⟨rfl, rfl⟩, h⟩ := h
      obtain ⟨h1, h2, h3, h4⟩ := dix_pps r ks' vs' h
      exact ⟨pps_cons pe_str pe_str h1, by simp [h2], by simp [h3], by simp [h4]⟩
    · cases h
def dixK (kvs : List (Str × Str)) : List (Key × V) := kvs.map fun q => (.inr q.1, .str q.2)
theorem dix_pairs : ∀ (kvs : List (Str × Str)) (σ : L2.St) (H : Hp) (Q : List (V × V) → Hp → Prop), Q (kvs.map fun q => (V.str q.1, V.str q.2)) H → tPairs (dixT kvs) σ H Q
  | [], _, _, _, h => h
  | q :: r, σ, H, Q, h => by
    show tPairs (dixT r) σ H fun ps H3 => Q ((V.str q.1, V.str q.2) :: ps) H3
    exact dix_pairs r σ H _ h
theorem dix_merge : ∀ (kvs : List (Str × Str)) (acc : List (Key × V)), (acc.map (·.1) ++ kvs.map fun q => (Sum.inr q.1 : Key)).Nodup → mergeK acc (dixK kvs) = acc ++ dixK kvs
  | [], acc, _ => by simp [mergeK, dixK]
  | q :: r, acc, h => by
    have hx : ∀ p ∈ acc, p.1 ≠ (Sum.inr q.1 : Key) := fun p hp e => by
      rw [List.nodup_append] at h
      exact h.2.2 p.1 (List.mem_map_of_mem hp) (Sum.inr q.1) (by simp) e
    have pk : putK acc (Sum.inr q.1 : Key) (V.str q.2) = acc ++ [(Sum.inr q.1, V.str q.2)] := by
      unfold putK
      rw [if_neg]
      intro ha
      obtain ⟨p, hp, e⟩ := List.any_eq_true.mp ha
      exact hx p hp (of_decide_eq_true e)
    show mergeK (putK acc (Sum.inr q.1 : Key) (V.str q.2)) (dixK r) = _
    rw [pk, dix_merge r _ (by simpa using h)]
    simp [dixK]
theorem dix_val : ∀ (kvs : List (Str × Str)) (s : Str), valV (dixK kvs) (Sum.inr s : Key) = (kvs.lookup s).map V.str
  | [], s => rfl
  | q :: r, s => by
    by_cases e : q.1 = s
    · subst e
      show valV ((Sum.inr q.1, V.str q.2) :: dixK r) (Sum.inr q.1 : Key) = _
      rw [valV_pos rfl]
      simp [List.lookup]
    · show valV ((Sum.inr q.1, V.str q.2) :: dixK r) (Sum.inr s : Key) = _
      rw [valV_neg (fun h => e (Sum.inr.inj h)), dix_val r s]
      have : (s == q.1) = false := by simpa using fun h => e h.symm
      simp [List.lookup, this]
section
variable {X : Cx} {G : Gh} {W : WX} {cls : String → Addr} {cf : Cf} {C : Calls}
theorem de_dix (cx : Ctx cf X G C W cls) {kvs : List (Str × Str)} {ks : List (Option Expr)} {vs : List Expr} {i : Expr} {ti : Env → R D} {q : Bool} {p1 pos : Pos} (hd : dixB kvs ks vs = true) (hn : (kvs.map (·.1)).Nodup) (h0 : kvs ≠ []) (h15 : kvs.length ≤ 15) (hi : PE X i (rdV G W cls q ti)) (hp : PlainIx i) (hu : X.A.units + 66 < cLine) :
    PE X (.Subscript (.Dict ks vs p1) i pos) (rdV G W cls false fun env => (ti env).bind fun d env => R.of (dixD kvs d) env) := by
  obtain ⟨pp, a1, l1, l2⟩ := dix_pps (X := X) (pos := p1) kvs ks vs hd
  have de := pe_disp pp a1 (by rw [l1, l2]) (fun e => h0 (List.length_eq_zero_iff.mp (by rw [← l1, e]; rfl))) (by rw [l1]; exact h15)
  refine PE_imp (pe_ix (ix_dict hu) de hi hp) fun σ H Q ⟨env, fp, se, T⟩ => ?_
  intro p hpn
  refine dix_pairs kvs σ _ _ ⟨upd_same, dixK kvs, by simp [dixK, kV, Function.comp_def], by simpa [dixK] using h15, ?_⟩
  have nd : (([] : List (Key × V)).map (·.1) ++ kvs.map fun q => (Sum.inr q.1 : Key)).Nodup := by
    have e : (kvs.map fun q => (Sum.inr q.1 : Key)) = (kvs.map (·.1)).map fun s : Str => (Sum.inr s : Key) := by simp [Function.comp_def]
    rw [List.map_nil, List.nil_append, e]
    exact List.Pairwise.map _ (fun a b h e => h (Sum.inr.inj e)) hn
  rw [dix_merge kvs [] nd, List.nil_append]
  have sm : L2.Same H (upd (upd H p (.dK [])) p (.dK (dixK kvs))) := fun b o hb => by
    have ne : b ≠ p := fun e => by rw [e, hpn] at hb; cases hb
    rw [upd_ne ne, upd_ne ne]
    exact hb
  have np := (se.none_in hpn).1
  refine ⟨env, fp, se.same sm, T.bind.later (same_stp sm) fun d env2 T v H2 fp2 fd2 se2 rd2 nd2 ap2 st2 sm2 => ?_⟩
  obtain ⟨d', e', T⟩ := T.of
  unfold dixD at e'
  split at e'
  · rename_i z
    obtain ⟨u, hu', rfl⟩ := Option.map_eq_some_iff.mp e'
    have ev := rd2.ofp.str
    subst ev
    have hp2 := st2.st p _ upd_same np
    have dg := DGet.k (k := (Sum.inr z : Key)) hp2
    rw [dix_val, hu'] at dg
    exact ⟨p, V.str u, rfl, dg, T _ H2 fp2 [] se2 ⟨by rw [RP], rfl⟩ .nil (fun _ z => nomatch z) ((same_stp sm).trans st2.drop).nil nq⟩
  · cases e'
end
end DL

/-! DL12: comprehensions. -/
namespace DL
open PySem PySem.Spec PyProof.Rows L2
abbrev W0 : WX := fun _ _ _ _ => False
section
variable {cf : Cf} {X : Cx} {G : Gh} {C : Calls} {W : WX} {cls : String → Addr}
/-- within a comprehension's block -/
theorem Ctx.blk (cx : Ctx cf X G C W cls) (hh : cf.hot = false) (s : Shared) (H : Hp) (scope : Scope) (cenv : PySem.Env) (fp : List Addr) : Ctx cf (X.blk s H scope cenv fp) G C W0 cls :=
  { N := cx.N, K := cx.K, wd := cx.wd, nd := cx.nd, units := cx.units, calm := cx.calm, takes := takes0, blt := cx.blt, cst := cx.cst, cal := fun f hf hh => ⟨(cx.cal f hf hh).ex⟩, cl := cx.cl, xa0 := cx.xa0, hx := fun a c e => by (rw [cx.xa0 hh] at e; cases e), met := fun f hf hh => ⟨(cx.met f hf hh).ex⟩, ini := fun hm hh => ⟨(cx.ini hm hh).ex⟩ }
theorem RQ.ok {α : Type} {σ : L2.St} {H : Hp} {fp : Nat → List Addr} {a : α} {env' : Env} {T : α → Env → Prop} (h : T a env') : RQ G W cls σ H fp (.ok a env') T := h
theorem ownB_of {sc scope : Scope} {t : Str} (h : ownB sc scope t = true) : Loc (relS scope sc) t ∧ ((scope.names.lookup t == some .cell) = true ∨ (relS scope sc).names.lookup t = some .local) := by
  unfold ownB at h
  split at h
  · rename_i e; exact ⟨.inl e, .inr e⟩
  · rename_i e
    split at h
    · rename_i e2; exact ⟨.inr e, .inl (by rw [e2]; rfl)⟩
    · cases h
  · cases h
theorem lcG_of {i : Nat} {env : Env} (h : lcG i env = true) : i < env.length ∧ (gt env i = .no ∨ ∃ x, gt env i = .ow (.p x)) := by
  unfold lcG at h
  rw [Bool.and_eq_true, decide_eq_true_eq] at h
  refine ⟨h.1, ?_⟩
  have h2 := h.2
  split at h2
  · rename_i e; exact .inl e
  · rename_i x e; exact .inr ⟨x, e⟩
  · cases h2
/-- the block's slot wiped -/
theorem se_wipe {σ : L2.St} {H : Hp} {env : Env} {fp : Nat → List Addr} {i : Nat} (se : SE G H σ env fp) (hi : i < env.length) : ∃ fp', SE G H (σ.set i none) (env.set i .no) fp' ∧ ∀ a, In fp' a → In fp a := by
  have se' := se.put (i := i) (s := .no) (o := none) (f := []) hi ⟨fun _ _ h => h, fun _ _ _ h => h⟩ (fun _ _ _ h => h) rfl .nil (fun _ z => nomatch z)
  refine ⟨_, se', fun a ⟨j, hj⟩ => ?_⟩
  by_cases e : j = i
  · simp only [if_pos e] at hj; cases hj
  · simp only [if_neg e] at hj; exact ⟨j, hj⟩
/-- a datum into a slot -/
theorem se_datum {σ : L2.St} {H : Hp} {env : Env} {fp : Nat → List Addr} {i : Nat} {x : P} {v : V} (se : SE G H σ env fp) (hi : i < env.length) (r : RP H x v) : ∃ fp', SE G H (σ.set i (some v)) (env.set i (.ow (.p x))) fp' ∧ ∀ a, In fp' a → In fp a := by
  have se' := se.put (i := i) (s := .ow (.p x)) (o := some v) (f := []) hi ⟨fun _ _ h => h, fun _ _ _ h => h⟩ (fun _ _ _ h => h) ⟨v, rfl, r, rfl⟩ .nil (fun _ z => nomatch z)
  refine ⟨_, se', fun a ⟨j, hj⟩ => ?_⟩
  by_cases e : j = i
  · simp only [if_pos e] at hj; cases hj
  · simp only [if_neg e] at hj; exact ⟨j, hj⟩
/-- a slot as it was before -/
theorem se_back {σ σ0 : L2.St} {H H1 : Hp} {env env1 : Env} {fp fp1 : Nat → List Addr} {i : Nat} (se : SE G H σ env fp) (hi : i < env.length) (se1 : SE G H1 σ0 env1 fp1) (im : Imm H1 H) (hg : lcG i env1 = true) :
    ∃ o fp', σ0[i]? = some o ∧ SE G H (σ.set i o) (env.set i (gt env1 i)) fp' ∧ ∀ a, In fp' a → In fp a := by
  obtain ⟨h1, h2⟩ := lcG_of hg
  obtain ⟨o, e1, r⟩ := se1.sl i h1
  have r' : RS1 G H (G.pv i) (gt env1 i) o [] := by
    rcases h2 with e | ⟨x, e⟩
    · rw [e]; rfl
    · rw [e] at r ⊢
      obtain ⟨v, rfl, rd⟩ := r
      exact ⟨v, rfl, rd.ofp.mono im _ _, rfl⟩
  have se' := se.put (i := i) (s := gt env1 i) (o := o) (f := []) hi ⟨fun _ _ h => h, fun _ _ _ h => h⟩ (fun _ _ _ h => h) r' .nil (fun _ z => nomatch z)
  refine ⟨o, _, e1, se', fun a ⟨j, hj⟩ => ?_⟩
  by_cases e : j = i
  · simp only [if_pos e] at hj; cases hj
  · simp only [if_neg e] at hj; exact ⟨j, hj⟩
/-- what stays true from turn to turn: the new list at L, the slots (the block's own wiped), what of the heap is touched -/
structure LcI (G : Gh) (σw : L2.St) (n : Nat) (H1 : Hp) (fp1 : Nat → List Addr) (L : Addr) (H : Hp) (env : Env) (ad : List P) : Prop where
  ex : ∃ fp acc, SE G H σw env fp ∧ H L = some (.lst acc) ∧ RPs H ad acc ∧ ¬ In fp L ∧ Imm H1 H ∧ (∀ b o, H1 b = some o → ¬ In fp1 b → H b = some o) ∧ (∀ a, In fp a → In fp1 a ∨ H1 a = none)
  len : env.length = n
theorem se_len {σ : L2.St} {H : Hp} {env : Env} {fp : Nat → List Addr} (se : SE G H σ env fp) : env.length = σ.length := se.len.symm
/-- one turn's end: the item is put behind the list -/
theorem LcI.put {σw σ2 : L2.St} {n : Nat} {H1 H2 H4 : Hp} {fp1 fp2 fp4 : Nat → List Addr} {L : Addr} {env e4 : Env} {ad : List P} {acc : List V} {y : P} {v : V} {fd : List Addr} (hL1 : H1 L = none) (own2 : OwnedF H2 (In fp2))
    (hL : H2 L = some (.lst acc)) (ra : RPs H2 ad acc) (nL : ¬ In fp2 L) (im : Imm H1 H2) (st1 : ∀ b o, H1 b = some o → ¬ In fp1 b → H2 b = some o) (ow1 : ∀ a, In fp2 a → In fp1 a ∨ H1 a = none) (zL : ¬ G.Z L)
    (se4 : SE G H4 σ2 e4 fp4) (rd : RP H4 y v) (st : Stp (In fp2) H2 (fun a => In fp4 a ∨ a ∈ fd) H4) (hw : SE G H4 σ2 e4 fp4 → ∃ fp5, SE G H4 σw env fp5 ∧ ∀ a, In fp5 a → In fp4 a) (hn : env.length = n) :
    LcI G σw n H1 fp1 L (upd H4 L (.lst (acc ++ [v]))) env (ad ++ [y]) ∧ H4 L = some (.lst acc) := by
  have hL4 : H4 L = some (.lst acc) := st.st L _ hL nL
  have nL4 : ¬ In fp4 L := fun h => st.apart (by rw [hL]; exact fun z => nomatch z) nL (.inl h)
  obtain ⟨fp5, se5, sub⟩ := hw se4
  have im4 : Imm H2 H4 := st.imm own2
  have imu : Imm H4 (upd H4 L (.lst (acc ++ [v]))) := imm_upd hL4 trivial
  have nL5 : ¬ In fp5 L := fun h => nL4 (sub L h)
  refine ⟨⟨⟨fp5, acc ++ [v], se5.keep imu fun b hb o e => ?_, upd_same, ((ra.mono im4 _ _).mono imu _ _).snoc (rd.mono imu _ _), nL5, ?_, fun b o e hb => ?_, fun a ha => ?_⟩, hn⟩, hL4⟩
  · rw [upd_ne (fun z => by subst z; exact hb.elim nL5 zL)]; exact e
  · exact ⟨fun x o h => imu.1 x o (im4.1 x o (im.1 x o h)), fun x o t h => imu.2 x o t (im4.2 x o t (im.2 x o t h))⟩
  · have hne : b ≠ L := fun z => by subst z; rw [hL1] at e; cases e
    rw [upd_ne hne]
    have e2 := st1 b o e hb
    refine st.st b o e2 fun h => ?_
    rcases ow1 b h with q | q
    · exact hb q
    · rw [e] at q; cases q
  · rcases st.ow a (.inl (sub a ha)) with h | h
    · exact ow1 a h
    · by_cases hf : In fp1 a
      · exact .inl hf
      · refine .inr ?_
        cases q : H1 a with
        | none => rfl
        | some o => rw [st1 a o q hf] at h; cases h
theorem lcLoop_cons {f : P → Env → R P} {x : P} {xs acc ys : List P} {env env2 : Env} (h : lcLoop f (x :: xs) acc env = .ok ys env2) : ∃ y e, f x env = .ok y e ∧ acc.length < sizeLine ∧ lcLoop f xs (acc ++ [y]) e = .ok ys env2 := by
  simp only [lcLoop] at h
  split at h
  · rename_i y e hf
    split at h
    · rename_i hl; exact ⟨y, e, hf, hl, h⟩
    · cases h
  · cases h
theorem lcLoop_res {f : P → Env → R P} : ∀ {xs acc : List P} {env : Env}, (∃ ys e, lcLoop f xs acc env = .ok ys e) ∨ lcLoop f xs acc env = .st
  | [], acc, env => .inl ⟨acc, env, rfl⟩
  | x :: xs, acc, env => by
    simp only [lcLoop]
    split
    · split
      · exact lcLoop_res
      · exact .inr rfl
    · exact .inr rfl
theorem asP_of {r : R D} {y : P} {e : Env} (h : asP r = .ok y e) : r = .ok (.p y) e := by
  unfold asP at h
  cases r with
  | ok d e2 =>
    cases d with
    | p x => simp only [R.bind_ok] at h; cases h; rfl
    | _ => cases h
  | _ => cases h
theorem set_set_none {σ : L2.St} {i : Nat} {x : Option V} {o : Option V} : (σ.set i x).set i o = σ.set i o := by rw [List.set_set]
theorem σ_back {σ : L2.St} {i : Nat} {o : Option V} (h : σ[i]? = some o) : (σ.set i none).set i o = σ := by
  rw [set_set_none, σ_set h]
/-- [elt for t in iter], by the readings -/
theorem lc_imp {i : Nat} {ti : Env → R (List P)} {te : Env → R D} {q : Bool} {σ : L2.St} {H : Hp} {Q : VK}
    (h : rdV G W cls false (fun env => (ti env).bind fun xs env1 => if lcG i env1 = true then (lcLoop (lcF i te) xs [] (env1.set i .no)).bind fun ys env2 => .ok (.ml ys) (env2.set i (gt env1 i)) else .st) σ H Q) :
    tLc (rdI G W cls false ti) (gName i) tYes (rdV G W0 cls q te) [i] σ H Q := by
  obtain ⟨env, fp, se, T⟩ := h
  refine ⟨env, fp, se, T.bind.imp fun ds env1 T J H1 fp1 Gd Y se1 st1 wk gd items L hL => ?_⟩
  split at T
  · rename_i hg
    obtain ⟨hi1, _⟩ := lcG_of hg
    rcases lcLoop_res (f := lcF i te) (xs := ds) (acc := []) (env := env1.set i .no) with ⟨ys, env2, E⟩ | E
    · rw [E] at T
      simp only [R.bind_ok] at T
      have zL : ¬ G.Z L := fun h => (se1.zz L h).2 hL
      have nL1 : ¬ In fp1 L := fun h => by have := se1.owned L h; rw [hL] at this; exact this
      have imL : Imm H1 (upd H1 L (.lst [])) := ⟨fun b xs e => by rw [upd_ne (fun z => by subst z; rw [hL] at e; cases e)]; exact e, fun b ob u e => by rw [upd_ne (fun z => by subst z; rw [hL] at e; cases e)]; exact e⟩
      refine lc_it wk (D := L) (vs := [i]) (σ := σ) (H1 := H1) (fun k H2 => ∃ env ad, LcI G (σ.set i none) env1.length H1 fp1 L H2 env ad ∧ lcLoop (lcF i te) (ds.drop k) ad env = .ok ys env2) ⟨env1.set i .no, [], ⟨?_, by simp⟩, by rw [List.drop_zero]; exact E⟩ (fun k H2 _ ⟨_, _, I, _⟩ => ?_) ?_ ?_
      · obtain ⟨fpw, sew, sub⟩ := se_wipe se1 hi1
        refine ⟨fpw, [], sew.keep imL fun b hb o e => ?_, upd_same, by rw [RPs], fun h => nL1 (sub L h), imL, fun b o e _ => ?_, fun a ha => .inl (sub a ha)⟩
        · rw [upd_ne (fun z => by subst z; exact hb.elim (fun h => nL1 (sub _ h)) zL)]; exact e
        · rw [upd_ne (fun z => by subst z; rw [hL] at e; cases e)]; exact e
      · obtain ⟨_, _, _, _, _, _, im, _⟩ := I.ex
        exact gd H2 im
      · rintro k x H2 H3 hk ⟨env3, ad, I, E3⟩ y
        obtain ⟨fp3, acc, se3, hL3, ra, nL3, im, st3, ow3⟩ := I.ex
        obtain ⟨p, hp, it⟩ := items k H2 x H3 hk im y
        have hd : ds.drop k = p :: ds.drop (k + 1) := by
          rw [List.drop_eq_getElem_cons hk]
          rw [List.getElem?_eq_getElem hk] at hp
          cases hp
          rfl
        rw [hd] at E3
        obtain ⟨z, e4, hf, hl, E4⟩ := lcLoop_cons E3
        rcases it with ⟨rfl, rx⟩ | ⟨_, _, _, _, _, z, _⟩
        · unfold lcF lcE at hf
          obtain ⟨z', e5, hf1, hf2⟩ : ∃ z' e5, asP (te (env3.set i (.ow (.p p)))) = .ok z' e5 ∧ R.ok z' (e5.set i .no) = R.ok z e4 := by
            cases hq : asP (te (env3.set i (.ow (.p p)))) with
            | ok a b => rw [hq] at hf; exact ⟨a, b, rfl, hf⟩
            | _ => rw [hq] at hf; cases hf
          cases hf2
          have hte := asP_of hf1
          have hi3 : i < env3.length := by rw [I.len]; exact hi1
          obtain ⟨fpd, sed, subd⟩ := se_datum (i := i) se3 hi3 rx
          refine ⟨?_, ?_⟩
          · show wipe (((wipe σ [i]).set i (some x))) [i] = wipe σ [i]
            simp only [wipe, List.set_set]
          · show rdV G W0 cls q te ((σ.set i none).set i (some x)) H3 _
            refine ⟨env3.set i (.ow (.p p)), fpd, sed, ?_⟩
            rw [hte]
            intro v H4 fp4 fd se4 rd nd ap st4 sm
            have hlen4 : e5.length = env1.length := by
              have h1 := se_len se4
              have h2 := se_len se3
              simp only [List.length_set] at h1 h2
              rw [h1, ← h2, I.len]
            obtain ⟨I', hL4⟩ := LcI.put (σw := σ.set i none) (env := e5.set i .no) (n := env1.length) hL sed.owned hL3 ra (fun h => nL3 (subd L h)) im st3 (fun a ha => ow3 a (subd a ha)) zL se4 rd.ofp st4 (fun se4 => by
              obtain ⟨fpw, sew, sub⟩ := se_wipe se4 (i := i) (by rw [hlen4]; exact hi1)
              rw [List.set_set, List.set_set] at sew
              exact ⟨fpw, sew, sub⟩) (by rw [List.length_set, hlen4])
            exact ⟨acc, hL4, by rw [ra.length]; exact hl, e5.set i .no, ad ++ [z], I', E4⟩
        · cases z
      · rintro H2 ⟨env3, ad, I, E3⟩
        obtain ⟨fp3, acc, se3, hL3, ra, nL3, im, st3, ow3⟩ := I.ex
        have hl : ds.drop ds.length = [] := List.drop_length
        rw [hl] at E3
        simp only [lcLoop] at E3
        cases E3
        obtain ⟨o, fp5, e5, se5, sub5⟩ := se_back (i := i) se3 (by rw [I.len]; exact hi1) se1 im hg
        rw [σ_back e5] at se5
        refine T (.ref L) H2 fp5 [L] se5 ⟨L, acc, rfl, hL3, ra, rfl⟩ (List.nodup_cons.mpr ⟨by simp, .nil⟩) (fun a ha => ?_) ?_ nq
        · rw [List.mem_singleton] at ha
          subst ha
          exact ⟨fun h => nL3 (sub5 _ h), zL⟩
        · refine st1.trans ⟨st3, fun a ha => ?_⟩
          rcases ha with ha | ha
          · exact ow3 a (sub5 a ha)
          · rw [List.mem_singleton] at ha
            subst ha
            exact .inr hL
    · rw [E] at T; exact T.elim
  · exact T.elim
/-- [elt for t in iter] -/
theorem de_lc (cx : Ctx cf X G C W cls) (hh : cf.hot = false) {elt iter : Expr} {t : Str} {i : Nat} {p pos : Pos} {scope : Scope} {ti : Env → R (List P)} {te : Env → R D} {q : Bool} (hN : X.N[i]? = some t) (ow : ownB X.env.scope scope t = true) (bk : blkC X.N X.env.scope scope [(t, i)] = true)
    (hi : PI X (.Name t p) iter (rdI G W cls false ti)) (hs : ∀ x, foldedSetIterable iter X.env x = pure x)
    (he : ∀ (s : Shared) (H : Hp) (Cc : Addr) (cl : List (Str × Addr)) (fp : List Addr), PE (X.blk s H scope (compEnvC scope cl Cc X.env) fp) elt (rdV G W0 cls q te)) :
    PE X (.ListComp elt [⟨.Name t p, iter, [], 0⟩] scope pos) (rdV G W cls false fun env => (ti env).bind fun xs env1 => if lcG i env1 = true then (lcLoop (lcF i te) xs [] (env1.set i .no)).bind fun ys env2 => .ok (.ml ys) (env2.set i (gt env1 i)) else .st) := by
  obtain ⟨lo, fn⟩ := ownB_of ow
  exact PE_imp (pe_lc (own := [(t, i)]) (g := gName i) (tt := tYes) (cx.calm hh) cx.nd hi (blkOk_by bk) (fun s H Cc cl fp => pg_name cx.nd hN lo fn) (fun _ _ _ _ _ => pts_nil) he hs) fun σ H Q h => lc_imp h
/-- y = [elt for t in iter] -/
theorem ps_lc (cx : Ctx cf X G C W cls) (hh : cf.hot = false) {elt iter : Expr} {t y : Str} {i j : Nat} {p py pos spos : Pos} {scope : Scope} {ti : Env → R (List P)} {te : Env → R D} {q : Bool} (hN : X.N[i]? = some t) (ow : ownB X.env.scope scope t = true) (bk : blkC X.N X.env.scope scope [(t, i)] = true)
    (hy : X.N[j]? = some y) (hyl : X.env.scope.names.lookup y = some .local) (hk : X.env.scope.kind = .function) (hl : (py.line == pos.line) = true) (ha : (scope.names.any fun (n, k) => n == y && (k == .local || k == .cell)) = false)
    (hi : PI X (.Name t p) iter (rdI G W cls false ti)) (hs : ∀ x, foldedSetIterable iter X.env x = pure x)
    (he : ∀ (s : Shared) (H : Hp) (Cc : Addr) (cl : List (Str × Addr)) (fp : List Addr), PE (X.blk s H scope (compEnvC scope cl Cc X.env) fp) elt (rdV G W0 cls q te)) :
    PS X (.Assign [.Name y py] (.ListComp elt [⟨.Name t p, iter, [], 0⟩] scope pos) spos) (fun D σ H => rdV G W cls false (fun env => (ti env).bind fun xs env1 => if lcG i env1 = true then (lcLoop (lcF i te) xs [] (env1.set i .no)).bind fun ys env2 => .ok (.ml ys) (env2.set i (gt env1 i)) else .st) σ H fun x H1 => D.nx (σ.set j (some x)) H1) := by
  obtain ⟨lo, fn⟩ := ownB_of ow
  exact PS_imp (ps_setLc (own := [(t, i)]) (g := gName i) (tt := tYes) (cx.calm hh) cx.nd hy hyl (sw_true hk hyl hl ha) hi (blkOk_by bk) (fun s H Cc cl fp => pg_name cx.nd hN lo fn) (fun _ _ _ _ _ => pts_nil) he hs) fun D σ H h => lc_imp (Q := fun x H1 => gName j x σ H1 D.nx) h
/-! ### with an if -/
theorem lcIf_cons {c : P → Env → R Bool} {f : Env → R P} {i : Nat} {x : P} {xs acc ys : List P} {env env2 : Env} (h : lcIf c f i (x :: xs) acc env = .ok ys env2) : ∃ b e1, c x env = .ok b e1 ∧
    ((b = true ∧ ∃ y e, f e1 = .ok y e ∧ acc.length < sizeLine ∧ lcIf c f i xs (acc ++ [y]) e = .ok ys env2) ∨ (b = false ∧ lcIf c f i xs acc (e1.set i .no) = .ok ys env2)) := by
  simp only [lcIf] at h
  split at h
  · rename_i b e1 hc
    refine ⟨b, e1, hc, ?_⟩
    cases b with
    | true =>
      simp only [if_true] at h
      split at h
      · rename_i y e hf
        split at h
        · rename_i hl; exact .inl ⟨rfl, y, e, hf, hl, h⟩
        · cases h
      · cases h
    | false =>
      simp only [Bool.false_eq_true, if_false] at h
      exact .inr ⟨rfl, h⟩
  · cases h
theorem lcIf_res {c : P → Env → R Bool} {f : Env → R P} {i : Nat} : ∀ {xs acc : List P} {env : Env}, (∃ ys e, lcIf c f i xs acc env = .ok ys e) ∨ lcIf c f i xs acc env = .st
  | [], acc, env => .inl ⟨acc, env, rfl⟩
  | x :: xs, acc, env => by
    simp only [lcIf]
    split
    · split
      · split
        · split
          · exact lcIf_res
          · exact .inr rfl
        · exact .inr rfl
      · exact lcIf_res
    · exact .inr rfl
/-- one turn's end where nothing is put -/
theorem LcI.pass {σw σ2 : L2.St} {n : Nat} {H1 H2 H4 : Hp} {fp1 fp2 fp4 : Nat → List Addr} {L : Addr} {env e4 : Env} {ad : List P} {acc : List V} (hL1 : H1 L = none) (own2 : OwnedF H2 (In fp2))
    (hL : H2 L = some (.lst acc)) (ra : RPs H2 ad acc) (nL : ¬ In fp2 L) (im : Imm H1 H2) (st1 : ∀ b o, H1 b = some o → ¬ In fp1 b → H2 b = some o) (ow1 : ∀ a, In fp2 a → In fp1 a ∨ H1 a = none)
    (se4 : SE G H4 σ2 e4 fp4) (st : Stp (In fp2) H2 (In fp4) H4) (hw : SE G H4 σ2 e4 fp4 → ∃ fp5, SE G H4 σw env fp5 ∧ ∀ a, In fp5 a → In fp4 a) (hn : env.length = n) :
    LcI G σw n H1 fp1 L H4 env ad := by
  have hL4 : H4 L = some (.lst acc) := st.st L _ hL nL
  have nL4 : ¬ In fp4 L := fun h => st.apart (by rw [hL]; exact fun z => nomatch z) nL h
  obtain ⟨fp5, se5, sub⟩ := hw se4
  have im4 : Imm H2 H4 := st.imm own2
  refine ⟨⟨fp5, acc, se5, hL4, ra.mono im4 _ _, fun h => nL4 (sub L h), ⟨fun x o h => im4.1 x o (im.1 x o h), fun x o t h => im4.2 x o t (im.2 x o t h)⟩, fun b o e hb => ?_, fun a ha => ?_⟩, hn⟩
  · have e2 := st1 b o e hb
    refine st.st b o e2 fun h => ?_
    rcases ow1 b h with q | q
    · exact hb q
    · rw [e] at q; cases q
  · rcases st.ow a (sub a ha) with h | h
    · exact ow1 a h
    · by_cases hf : In fp1 a
      · exact .inl hf
      · refine .inr ?_
        cases q : H1 a with
        | none => rfl
        | some o => rw [st1 a o q hf] at h; cases h
theorem lc_impIf {i : Nat} {ti : Env → R (List P)} {tc : Env → R Bool} {te : Env → R D} {q : Bool} {σ : L2.St} {H : Hp} {Q : VK}
    (h : rdV G W cls false (fun env => (ti env).bind fun xs env1 => if lcG i env1 = true then (lcIf (fun x env => tc (env.set i (.ow (.p x)))) (lcE i te) i xs [] (env1.set i .no)).bind fun ys env2 => .ok (.ml ys) (env2.set i (gt env1 i)) else .st) σ H Q) :
    tLc (rdI G W cls false ti) (gName i) (rdT G W0 cls tc) (rdV G W0 cls q te) [i] σ H Q := by
  obtain ⟨env, fp, se, T⟩ := h
  refine ⟨env, fp, se, T.bind.imp fun ds env1 T J H1 fp1 Gd Y se1 st1 wk gd items L hL => ?_⟩
  split at T
  · rename_i hg
    obtain ⟨hi1, _⟩ := lcG_of hg
    rcases lcIf_res (c := fun x env => tc (env.set i (.ow (.p x)))) (f := lcE i te) (i := i) (xs := ds) (acc := []) (env := env1.set i .no) with ⟨ys, env2, E⟩ | E
    · rw [E] at T
      simp only [R.bind_ok] at T
      have zL : ¬ G.Z L := fun h => (se1.zz L h).2 hL
      have nL1 : ¬ In fp1 L := fun h => by have := se1.owned L h; rw [hL] at this; exact this
      have imL : Imm H1 (upd H1 L (.lst [])) := ⟨fun b xs e => by rw [upd_ne (fun z => by subst z; rw [hL] at e; cases e)]; exact e, fun b ob u e => by rw [upd_ne (fun z => by subst z; rw [hL] at e; cases e)]; exact e⟩
      refine lc_it wk (D := L) (vs := [i]) (σ := σ) (H1 := H1) (fun k H2 => ∃ env ad, LcI G (σ.set i none) env1.length H1 fp1 L H2 env ad ∧ lcIf (fun x env => tc (env.set i (.ow (.p x)))) (lcE i te) i (ds.drop k) ad env = .ok ys env2) ⟨env1.set i .no, [], ⟨?_, by simp⟩, by rw [List.drop_zero]; exact E⟩ (fun k H2 hk ⟨env3, ad, I, _⟩ => ?_) ?_ ?_
      · obtain ⟨fpw, sew, sub⟩ := se_wipe se1 hi1
        refine ⟨fpw, [], sew.keep imL fun b hb o e => ?_, upd_same, by rw [RPs], fun h => nL1 (sub L h), imL, fun b o e _ => ?_, fun a ha => .inl (sub a ha)⟩
        · rw [upd_ne (fun z => by subst z; exact hb.elim (fun h => nL1 (sub _ h)) zL)]; exact e
        · rw [upd_ne (fun z => by subst z; rw [hL] at e; cases e)]; exact e
      · obtain ⟨_, _, _, _, _, _, im, _⟩ := I.ex
        exact gd H2 im
      · rintro k x H2 H3 hk ⟨env3, ad, I, E3⟩ y
        obtain ⟨fp3, acc, se3, hL3, ra, nL3, im, st3, ow3⟩ := I.ex
        obtain ⟨p, hp, it⟩ := items k H2 x H3 hk im y
        have hd : ds.drop k = p :: ds.drop (k + 1) := by
          rw [List.drop_eq_getElem_cons hk]
          rw [List.getElem?_eq_getElem hk] at hp
          cases hp
          rfl
        rw [hd] at E3
        obtain ⟨b, e1, hcb, E4⟩ := lcIf_cons E3
        rcases it with ⟨rfl, rx⟩ | ⟨_, _, _, _, _, z, _⟩
        · have hi3 : i < env3.length := by rw [I.len]; exact hi1
          obtain ⟨fpd, sed, subd⟩ := se_datum (i := i) se3 hi3 rx
          refine ⟨?_, ?_⟩
          · show wipe (((wipe σ [i]).set i (some x))) [i] = wipe σ [i]
            simp only [wipe, List.set_set]
          · show rdT G W0 cls tc ((σ.set i none).set i (some x)) H3 _
            refine ⟨env3.set i (.ow (.p p)), fpd, sed, ?_⟩
            rw [hcb]
            intro H4 fp4 se4 st4
            have se4 : SE G H4 ((σ.set i none).set i (some x)) e1 fp4 := se4
            have hlen4 : e1.length = env1.length := by
              have h1 := se_len se4
              have h2 := se_len se3
              simp only [List.length_set] at h1 h2
              rw [h1, ← h2, I.len]
            rcases E4 with ⟨rfl, z, e5, hf, hl, E4⟩ | ⟨rfl, E4⟩
            · simp only [if_true]
              unfold lcE at hf
              obtain ⟨z', e6, hf1, hf2⟩ : ∃ z' e6, asP (te e1) = .ok z' e6 ∧ R.ok z' (e6.set i .no) = R.ok z e5 := by
                cases hq : asP (te e1) with
                | ok a b => rw [hq] at hf; exact ⟨a, b, rfl, hf⟩
                | _ => rw [hq] at hf; cases hf
              cases hf2
              have hte := asP_of hf1
              refine ⟨e1, fp4, se4, ?_⟩
              rw [hte]
              intro v H5 fp5 fd se5 rd nd ap st5 sm
              have se5 : SE G H5 ((σ.set i none).set i (some x)) e6 fp5 := se5
              have hlen5 : e6.length = env1.length := by
                have h1 := se_len se5
                have h2 := se_len se4
                rw [h1, ← h2, hlen4]
              obtain ⟨I', hL5⟩ := LcI.put (σw := σ.set i none) (env := e6.set i .no) (n := env1.length) hL sed.owned hL3 ra (fun h => nL3 (subd L h)) im st3 (fun a ha => ow3 a (subd a ha)) zL se5 rd.ofp (st4.trans st5) (fun se5 => by
                obtain ⟨fpw, sew, sub⟩ := se_wipe se5 (i := i) (by rw [hlen5]; exact hi1)
                rw [List.set_set, List.set_set] at sew
                exact ⟨fpw, sew, sub⟩) (by rw [List.length_set, hlen5])
              exact ⟨acc, hL5, by rw [ra.length]; exact hl, e6.set i .no, ad ++ [z], I', E4⟩
            · simp only [Bool.false_eq_true, if_false]
              exact ⟨e1.set i .no, ad, LcI.pass (σw := σ.set i none) (env := e1.set i .no) (n := env1.length) hL sed.owned hL3 ra (fun h => nL3 (subd L h)) im st3 (fun a ha => ow3 a (subd a ha)) se4 st4 (fun se4 => by
                obtain ⟨fpw, sew, sub⟩ := se_wipe se4 (i := i) (by rw [hlen4]; exact hi1)
                rw [List.set_set, List.set_set] at sew
                exact ⟨fpw, sew, sub⟩) (by rw [List.length_set, hlen4]), E4⟩
        · cases z
      · rintro H2 ⟨env3, ad, I, E3⟩
        obtain ⟨fp3, acc, se3, hL3, ra, nL3, im, st3, ow3⟩ := I.ex
        have hl : ds.drop ds.length = [] := List.drop_length
        rw [hl] at E3
        simp only [lcIf] at E3
        cases E3
        obtain ⟨o, fp5, e5, se5, sub5⟩ := se_back (i := i) se3 (by rw [I.len]; exact hi1) se1 im hg
        rw [σ_back e5] at se5
        refine T (.ref L) H2 fp5 [L] se5 ⟨L, acc, rfl, hL3, ra, rfl⟩ (List.nodup_cons.mpr ⟨by simp, .nil⟩) (fun a ha => ?_) ?_ nq
        · rw [List.mem_singleton] at ha
          subst ha
          exact ⟨fun h => nL3 (sub5 _ h), zL⟩
        · refine st1.trans ⟨st3, fun a ha => ?_⟩
          rcases ha with ha | ha
          · exact ow3 a (sub5 a ha)
          · rw [List.mem_singleton] at ha
            subst ha
            exact .inr hL
    · rw [E] at T; exact T.elim
  · exact T.elim
/-- [elt for t in iter if c] -/
theorem de_lcIf (cx : Ctx cf X G C W cls) (hh : cf.hot = false) {elt iter c : Expr} {t : Str} {i : Nat} {p pos : Pos} {scope : Scope} {ti : Env → R (List P)} {tc : Env → R Bool} {te : Env → R D} {q : Bool} (hN : X.N[i]? = some t) (ow : ownB X.env.scope scope t = true) (bk : blkC X.N X.env.scope scope [(t, i)] = true)
    (hi : PI X (.Name t p) iter (rdI G W cls false ti)) (hs : ∀ x, foldedSetIterable iter X.env x = pure x)
    (hc : ∀ (s : Shared) (H : Hp) (Cc : Addr) (cl : List (Str × Addr)) (fp : List Addr), PT (X.blk s H scope (compEnvC scope cl Cc X.env) fp) c (rdT G W0 cls tc))
    (he : ∀ (s : Shared) (H : Hp) (Cc : Addr) (cl : List (Str × Addr)) (fp : List Addr), PE (X.blk s H scope (compEnvC scope cl Cc X.env) fp) elt (rdV G W0 cls q te)) :
    PE X (.ListComp elt [⟨.Name t p, iter, [c], 0⟩] scope pos) (rdV G W cls false fun env => (ti env).bind fun xs env1 => if lcG i env1 = true then (lcIf (fun x env => tc (env.set i (.ow (.p x)))) (lcE i te) i xs [] (env1.set i .no)).bind fun ys env2 => .ok (.ml ys) (env2.set i (gt env1 i)) else .st) := by
  obtain ⟨lo, fn⟩ := ownB_of ow
  exact PE_imp (pe_lc (own := [(t, i)]) (g := gName i) (tt := rdT G W0 cls tc) (cx.calm hh) cx.nd hi (blkOk_by bk) (fun s H Cc cl fp => pg_name cx.nd hN lo fn) (fun s H Cc cl fp => pts_one (hc s H Cc cl fp)) he hs) fun σ H Q h => lc_impIf h
theorem ps_lcIf (cx : Ctx cf X G C W cls) (hh : cf.hot = false) {elt iter c : Expr} {t y : Str} {i j : Nat} {p py pos spos : Pos} {scope : Scope} {ti : Env → R (List P)} {tc : Env → R Bool} {te : Env → R D} {q : Bool} (hN : X.N[i]? = some t) (ow : ownB X.env.scope scope t = true) (bk : blkC X.N X.env.scope scope [(t, i)] = true)
    (hy : X.N[j]? = some y) (hyl : X.env.scope.names.lookup y = some .local) (hk : X.env.scope.kind = .function) (hl : (py.line == pos.line) = true) (ha : (scope.names.any fun (n, k) => n == y && (k == .local || k == .cell)) = false)
    (hi : PI X (.Name t p) iter (rdI G W cls false ti)) (hs : ∀ x, foldedSetIterable iter X.env x = pure x)
    (hc : ∀ (s : Shared) (H : Hp) (Cc : Addr) (cl : List (Str × Addr)) (fp : List Addr), PT (X.blk s H scope (compEnvC scope cl Cc X.env) fp) c (rdT G W0 cls tc))
    (he : ∀ (s : Shared) (H : Hp) (Cc : Addr) (cl : List (Str × Addr)) (fp : List Addr), PE (X.blk s H scope (compEnvC scope cl Cc X.env) fp) elt (rdV G W0 cls q te)) :
    PS X (.Assign [.Name y py] (.ListComp elt [⟨.Name t p, iter, [c], 0⟩] scope pos) spos) (fun D σ H => rdV G W cls false (fun env => (ti env).bind fun xs env1 => if lcG i env1 = true then (lcIf (fun x env => tc (env.set i (.ow (.p x)))) (lcE i te) i xs [] (env1.set i .no)).bind fun ys env2 => .ok (.ml ys) (env2.set i (gt env1 i)) else .st) σ H fun x H1 => D.nx (σ.set j (some x)) H1) := by
  obtain ⟨lo, fn⟩ := ownB_of ow
  exact PS_imp (ps_setLc (own := [(t, i)]) (g := gName i) (tt := rdT G W0 cls tc) (cx.calm hh) cx.nd hy hyl (sw_true hk hyl hl ha) hi (blkOk_by bk) (fun s H Cc cl fp => pg_name cx.nd hN lo fn) (fun s H Cc cl fp => pts_one (hc s H Cc cl fp)) he hs) fun D σ H h => lc_impIf (Q := fun x H1 => gName j x σ H1 D.nx) h
/-! ### with two names -/
theorem set_sw {σ : L2.St} {i j : Nat} (hij : i ≠ j) (x y : Option V) : (σ.set i x).set j y = (σ.set j y).set i x := List.set_comm _ _ hij
theorem wipe_t {σ : L2.St} {i j : Nat} (hij : i ≠ j) (q w : Option V) : (((((σ.set j none).set i none).set i q).set j w).set i none).set j none = (σ.set j none).set i none := by
  rw [List.set_set, set_sw hij q w, List.set_set, List.set_set, set_sw (Ne.symm hij), List.set_set, set_sw hij none none]
theorem wipe_two {σ : L2.St} {i j : Nat} (hij : i ≠ j) {q w : Option V} : wipe (((wipe σ [i, j]).set i q).set j w) [i, j] = wipe σ [i, j] := by
  show (((((σ.set j none).set i none).set i q).set j w).set j none).set i none = (σ.set j none).set i none
  rw [← set_sw hij]
  exact wipe_t hij q w
theorem lc2_imp {K : PySem.W.Frag} {i j : Nat} {ti : Env → R (List P)} {te : Env → R D} {q : Bool} {nc : Prop} [Decidable nc] {σ : L2.St} {H : Hp} {Q : VK}
    (h : rdV G W cls false (fun env => (ti env).bind fun xs env1 => if lcG i env1 = true ∧ lcG j env1 = true ∧ i ≠ j ∧ nc then (lcLoop (lcF2 i j te) xs [] ((env1.set i .no).set j .no)).bind fun ys env2 => .ok (.ml ys) ((env2.set i (gt env1 i)).set j (gt env1 j)) else .st) σ H Q) :
    tLc (rdI G W cls true ti) (gTup K 2 (gCons (gName i) (gCons (gName j) gNil))) tYes (rdV G W0 cls q te) [i, j] σ H Q := by
  obtain ⟨env, fp, se, T⟩ := h
  refine ⟨env, fp, se, T.bind.imp fun ds env1 T J H1 fp1 Gd Y se1 st1 wk gd items L hL => ?_⟩
  split at T
  · rename_i hgg
    obtain ⟨hg, hg2, hij, _⟩ := hgg
    obtain ⟨hi1, _⟩ := lcG_of hg
    obtain ⟨hj1, _⟩ := lcG_of hg2
    rcases lcLoop_res (f := lcF2 i j te) (xs := ds) (acc := []) (env := (env1.set i .no).set j .no) with ⟨ys, env2, E⟩ | E
    · rw [E] at T
      simp only [R.bind_ok] at T
      have zL : ¬ G.Z L := fun h => (se1.zz L h).2 hL
      have nL1 : ¬ In fp1 L := fun h => by have := se1.owned L h; rw [hL] at this; exact this
      have imL : Imm H1 (upd H1 L (.lst [])) := ⟨fun b xs e => by rw [upd_ne (fun z => by subst z; rw [hL] at e; cases e)]; exact e, fun b ob u e => by rw [upd_ne (fun z => by subst z; rw [hL] at e; cases e)]; exact e⟩
      refine lc_it wk (D := L) (vs := [i, j]) (σ := σ) (H1 := H1) (fun k H2 => ∃ env ad, LcI G ((σ.set j none).set i none) env1.length H1 fp1 L H2 env ad ∧ lcLoop (lcF2 i j te) (ds.drop k) ad env = .ok ys env2) ⟨(env1.set i .no).set j .no, [], ⟨?_, by simp⟩, by rw [List.drop_zero]; exact E⟩ (fun k H2 hk ⟨env3, ad, I, _⟩ => ?_) ?_ ?_
      · obtain ⟨fpw, sew, sub⟩ := se_wipe se1 hi1
        obtain ⟨fpw2, sew2, sub2⟩ := se_wipe sew (i := j) (by rw [List.length_set]; exact hj1)
        rw [set_sw hij] at sew2
        refine ⟨fpw2, [], sew2.keep imL fun b hb o e => ?_, upd_same, by rw [RPs], fun h => nL1 (sub L (sub2 L h)), imL, fun b o e _ => ?_, fun a ha => .inl (sub a (sub2 a ha))⟩
        · rw [upd_ne (fun z => by subst z; exact hb.elim (fun h => nL1 (sub _ (sub2 _ h))) zL)]; exact e
        · rw [upd_ne (fun z => by subst z; rw [hL] at e; cases e)]; exact e
      · obtain ⟨_, _, _, _, _, _, im, _⟩ := I.ex
        exact gd H2 im
      · rintro k x H2 H3 hk ⟨env3, ad, I, E3⟩ y
        obtain ⟨fp3, acc, se3, hL3, ra, nL3, im, st3, ow3⟩ := I.ex
        obtain ⟨p, hp, it⟩ := items k H2 x H3 hk im y
        have hd : ds.drop k = p :: ds.drop (k + 1) := by
          rw [List.drop_eq_getElem_cons hk]
          rw [List.getElem?_eq_getElem hk] at hp
          cases hp
          rfl
        rw [hd] at E3
        obtain ⟨z, e4, hf, hl, E4⟩ := lcLoop_cons E3
        have sm : L2.Same H2 H3 := by
          rcases it with ⟨rfl, _⟩ | ⟨T0, u, w, a, b, _, _, _, hn, rfl, _⟩
          · exact L2.Same.refl _
          · exact same_upd hn
        obtain ⟨u1, u2, rfl⟩ : ∃ u1 u2, p = .tuple [u1, u2] := by
          unfold lcF2 tup2 at hf
          split at hf
          · rename_i u hu
            split at hu
            · exact ⟨_, _, rfl⟩
            · cases hu
          · cases hf
        obtain ⟨a, qv, wv, hv, ha, hr1, hr2⟩ : ∃ a qv wv, x = .ref a ∧ SqT K H3 a [qv, wv] ∧ RP H3 u1 qv ∧ RP H3 u2 wv := by
          rcases it with ⟨rfl, r⟩ | ⟨T0, v1, w1, a1, b1, _, e0, rfl, hn0, rfl, ra1, rb1⟩
          · obtain ⟨a, vs, rfl, h1, h2⟩ := r.tuple
            rw [RPs] at h2
            obtain ⟨qv, r1, rfl, k1, h2⟩ := h2
            rw [RPs] at h2
            obtain ⟨wv, r2, rfl, k2, h2⟩ := h2
            rw [RPs] at h2
            subst h2
            exact ⟨a, qv, wv, rfl, h1.sq, k1, k2⟩
          · cases e0
            exact ⟨T0, v1, w1, rfl, .inl (.inl upd_same), ra1.mono (same_imm (same_upd hn0)) _ _, rb1.mono (same_imm (same_upd hn0)) _ _⟩
        have hf' : ∃ e5, te ((env3.set i (.ow (.p u1))).set j (.ow (.p u2))) = .ok (.p z) e5 ∧ e4 = (e5.set i .no).set j .no := by
          have hf : ((asP (te ((env3.set i (.ow (.p u1))).set j (.ow (.p u2))))).bind fun y e => R.ok y ((e.set i .no).set j .no)) = .ok z e4 := hf
          cases hq : asP (te ((env3.set i (.ow (.p u1))).set j (.ow (.p u2)))) with
          | ok a b =>
            rw [hq] at hf
            simp only [R.bind_ok] at hf
            cases hf
            exact ⟨b, asP_of hq, rfl⟩
          | _ => rw [hq] at hf; cases hf
        obtain ⟨e5, hte, rfl⟩ := hf'
        have hi3 : i < env3.length := by rw [I.len]; exact hi1
        have hj3 : j < env3.length := by rw [I.len]; exact hj1
        obtain ⟨fpd, sed, subd⟩ := se_datum (i := i) (se3.same sm) hi3 hr1
        obtain ⟨fpe, see, sube⟩ := se_datum (i := j) sed (by rw [List.length_set]; exact hj3) hr2
        refine ⟨a, _, hv, ha, rfl, qv, _, rfl, wv, _, rfl, rfl, ?_, ?_⟩
        · exact wipe_two hij
        · show rdV G W0 cls q te ((((σ.set j none).set i none).set i (some qv)).set j (some wv)) H3 _
          refine ⟨(env3.set i (.ow (.p u1))).set j (.ow (.p u2)), fpe, see, ?_⟩
          rw [hte]
          intro v H4 fp4 fd se4 rd nd ap st4 sm4
          have se4 : SE G H4 ((((σ.set j none).set i none).set i (some qv)).set j (some wv)) e5 fp4 := se4
          have hlen4 : e5.length = env1.length := by
            have h1 := se_len se4
            have h2 := se_len se3
            simp only [List.length_set] at h1 h2
            rw [h1, ← h2, I.len]
          have imm : Imm H2 H3 := same_imm sm
          obtain ⟨I', hL4⟩ := LcI.put (σw := (σ.set j none).set i none) (env := (e5.set i .no).set j .no) (n := env1.length) hL see.owned (sm _ _ hL3) (ra.mono imm _ _) (fun h => nL3 (subd L (sube L h))) ⟨fun x o h => imm.1 x o (im.1 x o h), fun x o t h => imm.2 x o t (im.2 x o t h)⟩ (fun b o e hb => sm _ _ (st3 b o e hb)) (fun a ha => ow3 a (subd a (sube a ha))) zL se4 rd.ofp st4 (fun se4 => by
            obtain ⟨fpw, sew, sub⟩ := se_wipe se4 (i := i) (by rw [hlen4]; exact hi1)
            obtain ⟨fpw2, sew2, sub2⟩ := se_wipe sew (i := j) (by rw [List.length_set, hlen4]; exact hj1)
            have e := wipe_t (σ := σ) hij (some qv) (some wv)
            rw [e] at sew2
            exact ⟨fpw2, sew2, fun a h => sub a (sub2 a h)⟩) (by rw [List.length_set, List.length_set, hlen4])
          exact ⟨acc, hL4, by rw [ra.length]; exact hl, (e5.set i .no).set j .no, ad ++ [z], I', E4⟩
      · rintro H2 ⟨env3, ad, I, E3⟩
        obtain ⟨fp3, acc, se3, hL3, ra, nL3, im, st3, ow3⟩ := I.ex
        have hl : ds.drop ds.length = [] := List.drop_length
        rw [hl] at E3
        simp only [lcLoop] at E3
        cases E3
        obtain ⟨o, fp5, e5, se5, sub5⟩ := se_back (i := i) se3 (by rw [I.len]; exact hi1) se1 im hg
        obtain ⟨o2, fp6, e6, se6, sub6⟩ := se_back (i := j) se5 (by rw [List.length_set, I.len]; exact hj1) se1 im hg2
        have eσ : ((((σ.set j none).set i none).set i o).set j o2) = σ := by
          rw [List.set_set, set_sw (Ne.symm hij), List.set_set, σ_set (σ := σ.set i o) (by rw [σ_set e5]; exact e6), σ_set e5]
        rw [eσ] at se6
        refine T (.ref L) H2 fp6 [L] se6 ⟨L, acc, rfl, hL3, ra, rfl⟩ (List.nodup_cons.mpr ⟨by simp, .nil⟩) (fun a ha => ?_) ?_ nq
        · rw [List.mem_singleton] at ha
          subst ha
          exact ⟨fun h => nL3 (sub5 _ (sub6 _ h)), zL⟩
        · refine st1.trans ⟨st3, fun a ha => ?_⟩
          rcases ha with ha | ha
          · exact ow3 a (sub5 a (sub6 a ha))
          · rw [List.mem_singleton] at ha
            subst ha
            exact .inr hL
    · rw [E] at T; exact T.elim
  · exact T.elim
/-- [elt for t, u in iter] -/
theorem de_lc2 (cx : Ctx cf X G C W cls) (hh : cf.hot = false) {elt iter : Expr} {t u : Str} {i j kk : Nat} {p p2 tp pos : Pos} {scope : Scope} {ti : Env → R (List P)} {te : Env → R D} {q : Bool} {nc : Prop} [Decidable nc] (hN : X.N[i]? = some t) (hN2 : X.N[j]? = some u) (ow : ownB X.env.scope scope t = true) (ow2 : ownB X.env.scope scope u = true) (bk : blkC X.N X.env.scope scope [(t, i), (u, j)] = true)
    (hi : PI X (.Tuple [.Name t p, .Name u p2] kk tp) iter (rdI G W cls true ti)) (hs : ∀ x, foldedSetIterable iter X.env x = pure x)
    (he : ∀ (s : Shared) (H : Hp) (Cc : Addr) (cl : List (Str × Addr)) (fp : List Addr), PE (X.blk s H scope (compEnvC scope cl Cc X.env) fp) elt (rdV G W0 cls q te)) :
    PE X (.ListComp elt [⟨.Tuple [.Name t p, .Name u p2] kk tp, iter, [], 0⟩] scope pos) (rdV G W cls false fun env => (ti env).bind fun xs env1 => if lcG i env1 = true ∧ lcG j env1 = true ∧ i ≠ j ∧ nc then (lcLoop (lcF2 i j te) xs [] ((env1.set i .no).set j .no)).bind fun ys env2 => .ok (.ml ys) ((env2.set i (gt env1 i)).set j (gt env1 j)) else .st) := by
  obtain ⟨lo, fn⟩ := ownB_of ow
  obtain ⟨lo2, fn2⟩ := ownB_of ow2
  exact PE_imp (pe_lc (own := [(t, i), (u, j)]) (g := gTup X.K 2 (gCons (gName i) (gCons (gName j) gNil))) (tt := tYes) (cx.calm hh) cx.nd hi (blkOk_by bk) (fun s H Cc cl fp => pg_tup (cx.calm hh) (pgs_cons (pg_name cx.nd hN lo fn) (pgs_cons (pg_name cx.nd hN2 lo2 fn2) pgs_nil))) (fun _ _ _ _ _ => pts_nil) he hs) fun σ H Q h => lc2_imp h
/-! ### an exception's kind -/
def tyX (cls : String → Addr) : Ty → V
  | .xc d => .ref (cls d)
  | _ => .ty "ValueError"
theorem tyX_cls (cls : String → Addr) (t : Ty) : ClsV (tyX cls t) (tyXV cls t) := by
  cases t <;> first | exact .ty _ | exact .own _
theorem tyX_vals (cls : String → Addr) : ∀ (ts : List Ty), Paired ClsV (ts.map (tyX cls)) (ts.map (tyXV cls))
  | [] => .nil
  | t :: ts => .cons (tyX_cls cls t) (tyX_vals cls ts)
theorem kit_anyx {K : PySem.W.Frag} {D : Addr} {c : String} {cf : Cf} (h : ∀ t, xTy cf t = true → PySem.W.kitOne K (.ref D) (tyXV cls t) = some (isXc c t)) : ∀ (ts : List Ty), ts.all (xTy cf) = true → PySem.W.kitAny K (.ref D) (ts.map (tyXV cls)) = some (ts.any (isXc c))
  | [], _ => rfl
  | t :: ts, ht => by
    rw [List.all_cons, Bool.and_eq_true] at ht
    have h1 := h t ht.1
    have h2 := kit_anyx h ts ht.2
    rw [List.map_cons, List.any_cons]
    cases q : isXc c t with
    | true => exact kitAny_cons (b := true) (by rw [h1, q]) (fun z => by cases z) fun _ => by rw [Bool.true_or]
    | false => exact kitAny_cons (b := false) (by rw [h1, q]) (fun _ => by rw [Bool.false_or]; exact h2) fun z => by cases z
theorem call_isET {X : Cx} {a D : Addr} {oe : Obj} {pn : List (Addr × Obj)} (Cc : ExcC X.K D) (hz : Zc (.ref D) none oe) (hf : ∃ vs, oe.data = .fields vs) : CallR (X.suite a ((a, oe) :: pn)) (.builtin "isinstance")
    (fun xs H Q => ∃ (tp : Addr) (cs : List V) (us : List Value) (b : Bool), xs = [.ref a, .ref tp] ∧ H tp = some (.tup cs) ∧ Paired ClsV cs us ∧ PySem.W.kitAny X.K (.ref D) us = some b ∧ Q (.bl b) H) := by
  intro pins s σ H xs us Q I r h
  obtain ⟨tp, cs, ws, b, rfl, hT, k, e, q⟩ := h
  obtain ⟨u1, u2, rfl, r1, r2⟩ := vals2 r
  cases (show u2 = Value.ref tp from r2)
  cases (show u1 = Value.ref a from r1)
  obtain ⟨_, its, rv, o, h1, h2, n, h3⟩ := (show ObjOk X.prog X.w H s.heap tp (.tup cs) from I.hok tp _ hT)
  have e3 := ClsV.all k rv
  subst e3
  obtain ⟨oc, od, dt, sl⟩ := o
  simp only at h2 h3
  subst h2 h3
  obtain ⟨hget, _⟩ := I.pin (a, oe) (List.mem_append.mpr (.inl List.mem_cons_self))
  obtain ⟨vs, hv⟩ := hf
  have J : PySem.W.InstAt s.heap a oe D none := by
    obtain ⟨oc, od, oda, osl⟩ := oe
    obtain ⟨h1, h2⟩ := hz
    dsimp only at h1 h2 hv
    subst h1 h2 hv
    exact ⟨hget, rfl, rfl, trivial⟩
  exact PySem.W.kia_tup (PySem.W.handS_kitx_exc Cc.hg Cc.hk Cc.hs Cc.hd Cc.ha Cc.hn Cc.ht Cc.hm) I.kIn J h1 e (fun z => nomatch z) fun tk => ⟨.bl b, H, I.tok tk, rfl, q⟩
theorem pe_tyx (cx : Ctx cf X G C W cls) (hm : ∀ d ∈ cf.xcs, X.mg d = some (.ref (cls d))) {t : Ty} (ht : xTy cf t = true) {e : Expr} (h : glName X.env.scope (nameTy t) e = true) : PE X e (tC (tyX cls t)) := by
  obtain ⟨p, rfl, hg, hd, hn⟩ := gl_of h
  cases t <;> first
    | (cases ht; done)
    | exact pe_bltn hg (cx.blt _ (by decide)) (by decide +kernel) rfl hn hd
    | exact pe_glob hg (hm _ (of_decide_eq_true ht)) rfl hd
theorem pa_tyx (cx : Ctx cf X G C W cls) (hm : ∀ d ∈ cf.xcs, X.mg d = some (.ref (cls d))) : ∀ {ts : List Ty} {es : List Expr}, ts.all (xTy cf) = true → tysB X.env.scope ts es = true → es.length = ts.length ∧ PA X es (fun _ H Q => Q (ts.map (tyX cls)) H)
  | [], [], _, _ => ⟨rfl, PA_imp pa_nil fun σ H Q h => h⟩
  | c :: ts, e :: es, h, k => by
    rw [List.all_cons, Bool.and_eq_true] at h
    simp only [tysB, Bool.and_eq_true] at k
    obtain ⟨h1, h2⟩ := pa_tyx cx hm h.2 k.2
    obtain ⟨p, rfl, _⟩ := gl_of k.1
    exact ⟨by simp [h1], PA_imp (pa_cons (pe_tyx cx hm h.1 k.1) h2 notStar_name) fun σ H Q h => h⟩
  | [], _ :: _, _, k => by cases k
  | _ :: _, [], _, k => by cases k
theorem isX_nB {cf : Cf} {ts : List Ty} (h : ts.all (xTy cf) = true) : (ts.all fun t => !isB t) = true := by
  rw [List.all_eq_true] at h ⊢
  intro t ht
  have := h t ht
  cases t <;> first | rfl | (cases this)
theorem de_isx (cx : Ctx cf X G C W cls) {ts : List Ty} {one : Bool} {e g c : Expr} {j : Nat} {pos : Pos} (he : PE X e (tVar j)) (hg : glName X.env.scope "isinstance" g = true) (hc : isiB X.env.scope ts one c = true) (hb : ts.all (xTy cf) = true) (hne : ts ≠ [])
    (hs : starEach [e, c] X.env = (false, eval e X.env) :: starEach [c] X.env) :
    PE X (.Call g [e, c] [] pos) (rdV G W cls false fun env => isiS ts (gt env j) env) := by
  refine ⟨fun pins s σ H Q I ⟨env, fp, se, T⟩ => ?_⟩
  dsimp only at T
  have nb := isX_nB hb
  have dead : ∀ s0 : Sl, (∀ x, s0 ≠ .xc x) → isiS ts s0 env = .st := fun s0 h0 => by
    unfold isiS
    split
    · exact absurd rfl (h0 _)
    · split
      · unfold isiD
        cases ts with
        | nil => exact absurd rfl hne
        | cons t r =>
          simp only [List.all_cons, Bool.and_eq_true, Bool.not_eq_true'] at nb
          simp only [List.all_cons, nb.1, Bool.false_and]
      · rfl
  cases hgt : gt env j with
  | xc x =>
    rw [hgt] at T
    obtain ⟨o, e1, r1⟩ := se.sl j (gt_lt (by rw [hgt]; exact fun z => nomatch z))
    rw [hgt] at r1
    obtain ⟨_, a, rfl, hxa⟩ := r1
    have F := cx.hx a x hxa
    obtain ⟨X0, oe, pn, hX, hz, hf⟩ := F.ex
    have kit := F.kit
    have mgx := F.mgx
    have exc := F.exc
    subst hX
    simp only [isiS] at T
    rw [if_pos nb] at T
    obtain ⟨p, rfl, hgl, hd, hn⟩ := gl_of hg
    rcases isiB_cases hc with ⟨t, rfl, hc'⟩ | ⟨es, k, tp, rfl, hc'⟩
    · have ht : xTy cf t = true := by simpa using hb
      have ct := pe_tyx cx mgx ht hc'
      obtain ⟨p2, rfl, _⟩ := gl_of hc'
      refine (pe_callB (call_isE (X := X0) (a := a) (oe := oe) (pn := pn) exc hz hf) hgl (cx.blt "isinstance" (by simp)) (by decide +kernel) (pa_cons he (pa_cons ct pa_nil notStar_name) hs) hn hd hs rfl).run pins s σ H Q I ⟨.ref a, e1, ?_⟩
      refine ⟨tyX cls t, tyXV cls t, isXc x t, rfl, fun u hu => (tyX_cls cls t).eq hu, kit t ht, ?_⟩
      have e2 : [t].any (isXc x) = isXc x t := by simp
      rw [e2] at T
      exact T _ H fp [] se ⟨by rw [RP], rfl⟩ .nil (fun _ z => nomatch z) Stp.refl.nil nq
    · obtain ⟨hl, hp⟩ := pa_tyx cx mgx hb hc'.1
      have ct := pe_tup (pos := tp) (x1 := k) hp
      refine (pe_callB (call_isET (X := X0) (a := a) (oe := oe) (pn := pn) exc hz hf) hgl (cx.blt "isinstance" (by simp)) (by decide +kernel) (pa_cons he (pa_cons ct pa_nil rfl) hs) hn hd hs rfl).run pins s σ H Q I ⟨.ref a, e1, ⟨?_, fun tp' hn' => ?_⟩⟩
      · rw [List.length_map, ← hl, sizeLine_eq]; omega
      · have sm := same_upd (o := .tup (ts.map (tyX cls))) hn'
        refine ⟨tp', _, _, _, rfl, upd_same, tyX_vals cls ts, kit_anyx kit ts hb, ?_⟩
        exact T _ _ fp [] (se.same sm) ⟨by rw [RP], rfl⟩ .nil (fun _ z => nomatch z) ⟨fun b o eo hb => sm b o eo, fun b hb => .inl (hb.elim id fun z => nomatch z)⟩ nq
  | no => rw [hgt, dead _ (by intro y z; cases z)] at T; exact T.elim
  | ow d => rw [hgt, dead _ (by intro y z; cases z)] at T; exact T.elim
  | bo d => rw [hgt, dead _ (by intro y z; cases z)] at T; exact T.elim
  | ro d => rw [hgt, dead _ (by intro y z; cases z)] at T; exact T.elim
end
/-! ### slots, more and fewer -/
section
variable {G : Gh}
theorem gt_app : ∀ {a b : Env} {i : Nat}, i < a.length → gt (a ++ b) i = gt a i
  | [], _, _, h => by simp at h
  | x :: a, b, 0, _ => rfl
  | x :: a, b, i + 1, h => by
    show gt (a ++ b) i = gt a i
    exact gt_app (by simpa using h)
theorem gt_rep : ∀ {a : Env} {k i : Nat}, a.length ≤ i → gt (a ++ List.replicate k .no) i = .no
  | [], 0, i, _ => rfl
  | [], k + 1, 0, _ => rfl
  | [], k + 1, i + 1, _ => gt_rep (a := []) (k := k) (i := i) (Nat.zero_le _)
  | x :: a, k, 0, h => by simp at h
  | x :: a, k, i + 1, h => by
    show gt (a ++ List.replicate k .no) i = .no
    exact gt_rep (by simpa using h)
theorem gt_take : ∀ {a : Env} {k i : Nat}, i < k → gt (a.take k) i = gt a i
  | [], k, i, _ => by simp
  | x :: a, 0, i, h => by simp at h
  | x :: a, k + 1, 0, _ => rfl
  | x :: a, k + 1, i + 1, h => by
    show gt (a.take k) i = gt a i
    exact gt_take (by omega)
theorem se_start {H : Hp} {σ : L2.St} {ts : Env} {fp : Nat → List Addr} (k : Nat) (se : SE G H σ ts fp) : SE G H (σ ++ List.replicate k none) (ts ++ List.replicate k .no) fp := by
  have hl := se.len
  refine ⟨by simp [hl], fun i hi => ?_, fun i hi => se.off i (by rw [List.length_append] at hi; omega), se.nd, se.dj, se.zz⟩
  by_cases h : i < ts.length
  · obtain ⟨o, h1, h2⟩ := se.sl i h
    refine ⟨o, ?_, ?_⟩
    · rw [List.getElem?_append_left (by omega)]; exact h1
    · rw [gt_app h]; exact h2
  · have h' : ts.length ≤ i := by omega
    refine ⟨none, ?_, ?_⟩
    · rw [List.getElem?_append_right (by omega)]
      rw [List.length_append, List.length_replicate] at hi
      rw [List.getElem?_replicate]
      rw [if_pos (by omega)]
    · rw [gt_rep h']
      exact se.off i h'
theorem se_take {H : Hp} {σ : L2.St} {env : Env} {fp : Nat → List Addr} (k : Nat) (se : SE G H σ env fp) : SE G H (σ.take k) (env.take k) fun i => if i < k then fp i else [] := by
  have hl := se.len
  refine ⟨by simp [hl], fun i hi => ?_, fun i hi => ?_, fun i => ?_, fun i j a h1 h2 => ?_, fun a ha => ⟨fun ⟨i, hi⟩ => ?_, (se.zz a ha).2⟩⟩
  · rw [List.length_take] at hi
    have hk : i < k := by omega
    obtain ⟨o, h1, h2⟩ := se.sl i (by omega)
    refine ⟨o, ?_, ?_⟩
    · rw [List.getElem?_take_of_lt hk]; exact h1
    · rw [gt_take hk, if_pos hk]; exact h2
  · rw [List.length_take] at hi
    by_cases hk : i < k
    · rw [if_pos hk]; exact se.off i (by omega)
    · rw [if_neg hk]
  · split
    · exact se.nd i
    · exact .nil
  · split at h1
    · split at h2
      · exact se.dj i j a h1 h2
      · cases h2
    · cases h1
  · dsimp only at hi
    split at hi
    · exact (se.zz a ha).1 ⟨i, hi⟩
    · cases hi
end
/-! ### attributes, methods, new instances -/
section
variable {cf : Cf} {X : Cx} {G : Gh} {C : Calls} {W : WX} {cls : String → Addr}
theorem de_fldP {f : Fld} {i : Nat} {e : Expr} {pos : Pos} (cl : Cls X.K G.Cl.a ∧ ∀ g : Fld, NoAttr X.K G.Cl.a g.name) (he : PE X e (tVar i)) (hb : attributeBase e f.name X.env (eval e X.env) = eval e X.env) :
    PE X (.Attribute e f.name pos) (fun σ H Q => ∃ env fp d, SE G H σ env fp ∧ brw (.fld (.v i) f) env = some d ∧ ∀ v g, AtP G H σ (.fld (.v i) f) v → RD G.K G.Cl H d v g → (∀ a ∈ g, In fp a ∨ G.Z a) → Q v H) := PE_imp (pe_fld he hb) fun σ H Q ⟨env, fp, d, se, hd, T⟩ => by
  obtain ⟨v, g, hat, rd, hg⟩ := brw_at se rfl hd
  have q := T v g hat rd hg
  obtain ⟨a, dx, fs, h1, h2, h3⟩ := hat
  exact ⟨.ref a, h1, a, G.Cl.a, dx, fs, v, rfl, h2, cl.1, cl.2 f, h3, q⟩
theorem evV_fld (f : Fld) (i : Nat) (env : Env) : ((evV i env).bind fun d env => R.of (fldD f d) env) = .st := by
  unfold evV
  split <;> rfl
theorem de_fldV {f : Fld} {i : Nat} {e : Expr} {pos : Pos} (cl : Cls X.K G.Cl.a ∧ ∀ g : Fld, NoAttr X.K G.Cl.a g.name) (he : PE X e (tVar i)) (hb : attributeBase e f.name X.env (eval e X.env) = eval e X.env) :
    PE X (.Attribute e f.name pos) (rdV G W cls true fun env => match brw (.fld (.v i) f) env with | some d => R.of (pOnly d) env | none => (evV i env).bind fun d env => R.of (fldD f d) env) := PE_imp (de_fldP cl he hb) fun σ H Q ⟨env, fp, se, T⟩ => by
  dsimp only at T
  cases hb : brw (.fld (.v i) f) env with
  | none =>
    rw [hb] at T
    dsimp only at T
    rw [evV_fld] at T
    exact T.elim
  | some d =>
    rw [hb] at T
    obtain ⟨d', e', T⟩ := RQ.of T
    unfold pOnly at e'
    split at e'
    · cases e'
      exact ⟨env, fp, _, se, hb, fun v g _ rd _ => T v H fp [] se ⟨rd.ofp, rfl⟩ .nil (fun _ z => nomatch z) Stp.refl.nil fun _ => ⟨L2.Same.refl H, rfl⟩⟩
    · cases e'
theorem de_fldB {f : Fld} {i : Nat} {e : Expr} {pos : Pos} {v0 : Env → R D} (cl : Cls X.K G.Cl.a ∧ ∀ g : Fld, NoAttr X.K G.Cl.a g.name) (he : PE X e (tVar i)) (hb : attributeBase e f.name X.env (eval e X.env) = eval e X.env) (h0 : ∀ env, brw (.fld (.v i) f) env = none → v0 env = .st) :
    PE X (.Attribute e f.name pos) (rdB G W cls true (orB (.fld (.v i) f) v0)) := PE_imp (de_fldP cl he hb) fun σ H Q ⟨env, fp, se, T⟩ => by
  unfold orB at T
  cases hb : brw (.fld (.v i) f) env with
  | none =>
    rw [hb] at T
    dsimp only at T
    rw [h0 env hb] at T
    exact T.elim
  | some d =>
    rw [hb] at T
    exact ⟨env, fp, d, se, hb, fun v g _ rd _ => T v H fp g se rd Stp.refl fun _ => ⟨L2.Same.refl H, rfl⟩⟩
theorem de_fldT {f : Fld} {e : Expr} {pos : Pos} {q : Bool} {te : Env → R D} (cl : Cls X.K G.Cl.a ∧ ∀ g : Fld, NoAttr X.K G.Cl.a g.name) (he : PE X e (rdV G W cls q te)) (hb : attributeBase e f.name X.env (eval e X.env) = eval e X.env) :
    PE X (.Attribute e f.name pos) (rdV G W cls q fun env => (te env).bind fun d env => R.of (fldD f d) env) := PE_imp (pe_fld he hb) fun σ H Q ⟨env, fp, se, T⟩ => by
  refine ⟨env, fp, se, T.bind.imp fun d env1 T v H1 fp1 fd1 se1 rd1 nd1 ap1 st1 sm1 => ?_⟩
  obtain ⟨d', e', T⟩ := RQ.of T
  unfold fldD at e'
  split at e'
  · rename_i fs
    split at e'
    · rename_i d1 hd1
      cases e'
      obtain ⟨a, dx, fs', ff, rfl, h2, h3, rfl⟩ := rd1
      obtain ⟨v1, f1, k1, k2, k3, k4⟩ := h3.at hd1
      refine ⟨a, G.Cl.a, dx, fs', v1, rfl, h2, cl.1, cl.2 f, k1, T v1 H1 fp1 f1 se1 (D1.toD k2) (k4 (List.nodup_cons.mp nd1).2) (fun b hb => ap1 b (List.mem_cons_of_mem _ (k3 b hb))) (st1.less fun b hb => hb.imp id fun h => List.mem_cons_of_mem _ (k3 b h)) sm1⟩
    · cases e'
  · cases e'
theorem RFs.no {H : Hp} {m : Str} (hm : ∀ g : Fld, g.name ≠ m) : ∀ {ds : List (Fld × D1)} {vs : List (Str × V)} {ff : List Addr}, RFs H ds vs ff → vs.lookup m = none
  | [], _, _, h => by rw [h.1]; rfl
  | (g, d) :: ds, _, _, h => by
    obtain ⟨v, r, g1, g2, rfl, q, z, rfl⟩ := h
    have hne : (m == g.name) = false := beq_eq_false_iff_ne.mpr fun e => hm g e.symm
    simp only [List.lookup, hne]
    exact RFs.no hm z
theorem RFs.put {H : Hp} {f : Fld} {x : D1} {y : V} {fd : List Addr} (rx : RD1 H x y fd) : ∀ {ds : List (Fld × D1)} {vs : List (Str × V)} {ff : List Addr}, RFs H ds vs ff → (ff ++ fd).Nodup → ∃ ff2, RFs H (putFl f x ds) (putF f.name y vs) ff2 ∧ ff2.Nodup ∧ ∀ a ∈ ff2, a ∈ ff ∨ a ∈ fd
  | [], _, _, h, nd => by
    rw [h.1]
    exact ⟨fd ++ [], ⟨y, [], fd, [], rfl, rx, ⟨rfl, rfl⟩, rfl⟩, by rw [List.append_nil]; exact nodup_right nd, fun a ha => .inr (by rw [List.append_nil] at ha; exact ha)⟩
  | (g, d) :: ds, _, _, h, nd => by
    obtain ⟨v, r, g1, g2, rfl, q, z, rfl⟩ := h
    by_cases hg : g = f
    · subst hg
      refine ⟨fd ++ g2, ?_, ?_, fun a ha => ?_⟩
      · simp only [putFl, putF, if_true]
        exact ⟨y, r, fd, g2, rfl, rx, z, rfl⟩
      · obtain ⟨n1, n2, n3⟩ := List.nodup_append.mp nd
        exact List.nodup_append.mpr ⟨n2, nodup_right n1, fun a ha b hb e => n3 b (List.mem_append.mpr (.inr hb)) a ha e.symm⟩
      · rcases List.mem_append.mp ha with ha | ha
        · exact .inr ha
        · exact .inl (List.mem_append.mpr (.inr ha))
    · rw [List.append_assoc] at nd
      obtain ⟨n1, n2, n3⟩ := List.nodup_append.mp nd
      obtain ⟨ff2, k1, k2, k3⟩ := RFs.put rx z n2
      have hne : ¬ g.name = f.name := fun e => hg (fld_inj e)
      refine ⟨g1 ++ ff2, ?_, List.nodup_append.mpr ⟨n1, k2, fun a ha b hb e => ?_⟩, fun a ha => ?_⟩
      · simp only [putFl, putF, if_neg hg, if_neg hne]
        exact ⟨v, _, g1, ff2, rfl, q, k1, rfl⟩
      · subst e
        exact n3 a ha a ((k3 a hb).elim (fun h => List.mem_append.mpr (.inl h)) fun h => List.mem_append.mpr (.inr h)) rfl
      · rcases List.mem_append.mp ha with ha | ha
        · exact .inl (List.mem_append.mpr (.inl ha))
        · exact (k3 a ha).imp (fun h => List.mem_append.mpr (.inr h)) id
theorem meth_ht {o : Expr} {name : Str} {apos pos : Pos} {args : List Expr} {env : PySem.Env} (hbase : attributeBase o name env (eval o env) = eval o env)
    (hform : methodCallForm (args.length + 0) (backTo pos (starEach args env)) (backToKw pos (keywordEach [] env)) = true) (hline : (apos.endLine == pos.line) = true) :
    eval (.Call (.Attribute o name apos) args [] pos) env = (do
      let ov ← eval o env
      standAt apos.atName
      let (f, first) ← holding [ov] (getMethod ov name (do return (← importBound o env).getD true))
      callWith pos f first (backTo pos (starEach args env)) (backToKw pos (keywordEach [] env))) := by
  rw [arm_eval_Call, hbase]
  have hpos : methodCallPos true o env apos pos = pure pos := by unfold methodCallPos; simp [hline]
  unfold methodCall
  have hf : methodCallForm (args.length + ([] : List Keyword).length) (backTo pos (starEach args env)) (backToKw pos (keywordEach [] env)) = true := hform
  rw [hf, hpos]
  rfl
/-- nothing leaves by an exception -/
theorem passF : Passes (L2.CX X.prog X.w) X (fun _ _ _ => False) := fun pins σ H s e s' I h => by
  obtain ⟨_, _, _, _, _, _, _, _, _, _, _, _, z⟩ := h
  exact z.elim
/-- an argument that is read only -/
def roA : AV → Bool
  | .va (.p _) => true
  | .rr _ => true
  | _ => false
theorem ro_given {H : Hp} {σ : L2.St} {fp : Nat → List Addr} : ∀ {as : List AV} {vs : List V} {fs : List (List Addr)}, AVals G H σ as vs fs → as.all roA = true → ∀ a, ¬ In (given fp fs as) a := fun {as vs fs} h hro a ⟨p, hp⟩ => by
  rcases given_of hp with ⟨i, e1, _⟩ | ⟨⟨d, e1⟩, m1⟩
  · have := List.all_eq_true.mp hro _ (List.mem_of_getElem? e1)
    cases this
  · have := List.all_eq_true.mp hro _ (List.mem_of_getElem? e1)
    cases d with
    | p x =>
      obtain ⟨_, _, at2⟩ := avals_at h
      obtain ⟨v, f, _, hf, hv⟩ := at2 p _ e1
      rw [hf] at m1
      have : f = [] := hv.2
      rw [this] at m1
      cases m1
    | _ => cases this
/-- the callee's promise, from what its caller has -/
theorem call_sp {callf : Env → CR} {np : Nat} {σ : L2.St} {H1 : Hp} {env1 env2 : Env} {fp1 : Nat → List Addr} {as : List AV} {vs : List V} {fs : List (List Addr)} {ts outs : Env} {d : D} {Q : VK} {E : XK} (se1 : SE G H1 σ env1 fp1) (hv : AVals G H1 σ as vs fs) (A : Apt G fp1 fs) (hl : lentOnce as = true) (hts : slotsOf env1 as = some ts)
    (hc : callf ts = .ok d outs) (hgb : giveBack env1 as outs = some env2) (hn2 : ts.length = np)
    (T : ∀ v H2 fp2 fd, SE G H2 σ env2 fp2 → RD G.K G.Cl H2 d v fd → fd.Nodup → (∀ a ∈ fd, ¬ In fp2 a ∧ ¬ G.Z a) → Stp (fun a => In fp1 a ∨ a ∈ fs.flatten) H1 (fun a => In fp2 a ∨ a ∈ fd) H2 → (as.all roA = true → L2.Same H1 H2 ∧ env2 = env1) → Q v H2) : spD G.K G.Cl cls callf np vs H1 Q E := by
  have se0 := se_in se1 hl hts hv A
  obtain ⟨l1, _⟩ := slotsOf_at hts
  obtain ⟨l2, _, _⟩ := avals_at hv
  refine ⟨ts, given fp1 fs as, kept G fp1 as, by omega, hn2, se0, ?_⟩
  rw [hc]
  intro v H2 σ' fp' fd sc rd nd ap st2
  refine T v H2 (backFp fp1 fp' as) fd (se_out se1 hl hv A hgb sc st2) rd nd (fun b hb => ⟨fun ⟨i, hi⟩ => ?_, fun hz => (ap b hb).2 (.inl hz)⟩) ⟨fun b o e hb => st2.st b o e fun ⟨p, hp⟩ => hb ?_, fun b hb => ?_⟩ fun hro => ⟨fun b o e => st2.st b o e (ro_given hv hro b), ?_⟩
  · unfold backFp at hi
    cases q : lp as i with
    | none => rw [q] at hi; exact (ap b hb).2 (.inr ⟨i, hi, q⟩)
    | some p => rw [q] at hi; exact (ap b hb).1 ⟨p, hi⟩
  · rcases given_of hp with ⟨i, _, m1⟩ | ⟨_, m1⟩
    · exact .inl ⟨i, m1⟩
    · exact .inr (flat_mem m1)
  · have back : (In fp' b ∨ b ∈ fd) → (In fp1 b ∨ b ∈ fs.flatten) ∨ H1 b = none := fun h => by
      rcases st2.ow b h with ⟨p, hp⟩ | q
      · rcases given_of hp with ⟨i, _, m1⟩ | ⟨_, m1⟩
        · exact .inl (.inl ⟨i, m1⟩)
        · exact .inl (.inr (flat_mem m1))
      · exact .inr q
    rcases hb with ⟨i, hi⟩ | hb
    · unfold backFp at hi
      cases q : lp as i with
      | none => rw [q] at hi; exact .inl (.inl ⟨i, hi⟩)
      | some p => rw [q] at hi; exact back (.inl ⟨p, hi⟩)
    · exact back (.inr hb)
  · have gb : ∀ (as : List AV) (outs env env2 : Env), as.all roA = true → giveBack env as outs = some env2 → env2 = env := fun as => by
      induction as with
      | nil => intro outs env env2 _ h; simp only [giveBack] at h; cases h; rfl
      | cons a r ih =>
        intro outs env env2 h1 h2
        rw [List.all_cons, Bool.and_eq_true] at h1
        cases outs with
        | nil => cases a <;> simp [giveBack] at h2
        | cons o os =>
          cases a with
          | br i => cases h1.1
          | va d => exact ih os env env2 h1.2 (by simpa [giveBack] using h2)
          | rr i => exact ih os env env2 h1.2 (by simpa [giveBack] using h2)
    exact gb as outs env1 env2 hro hgb
/-- a method's call -/
theorem de_mth (cx : Ctx cf X G C W cls) {m : String} {x : Expr} {xs : List Expr} {ta : Env → R (List AV)} {q qa : Bool} {r : AV} {i : Nat} {apos pos : Pos} (hr : r = .br i ∨ r = .rr i) (hx : PE X x (tVar i)) (ha : PA X xs (rdA G W cls qa ta)) (hq : q = true → r = .rr i ∧ qa = true ∧ ∀ env as env', ta env = .ok as env' → as.all roA = true)
    (hm : m ∈ cf.meths) (hmach : cf.mach = true) (hh : cf.hot = false) (hbase : attributeBase x m X.env (eval x X.env) = eval x X.env) (hform : methodCallForm (xs.length + 0) (backTo pos (starEach xs X.env)) (backToKw pos (keywordEach [] X.env)) = true) (hline : (apos.endLine == pos.line) = true)
    (hnil : xs = [] → ta = fun env => .ok [] env) (hstar : ∀ y ys, xs = y :: ys → starEach (y :: ys) X.env = (false, eval y X.env) :: starEach ys X.env) (hpl : ∀ y ys, xs = y :: ys → (backTo pos (starEach ys X.env)).any (·.1) = false) :
    PE X (.Call (.Attribute x m apos) xs [] pos) (rdV G W cls q fun env => if recS r env = true then (ta env).bind fun as env => doMeth C m (r :: as) env else .st) := by
  obtain ⟨a, fd, ps, k, np, hnp, F, hroom, hmeth, hbinds, hne⟩ := (cx.met m hm hh).ex
  have cl := (cx.cl hmach).1
  have ht := meth_ht (apos := apos) hbase hform hline
  have main : PE X (.Call (.Attribute x m apos) xs [] pos) (tMeth G.Cl.a m (spD G.K G.Cl cls (C.call m) np) [] (fun _ _ _ => False) (tVar i) (rdA G W cls qa ta)) := by
    cases xs with
    | nil => exact PE_imp (pe_meth0 (ds := []) (dvs := []) hx cl hmeth F hroom hbinds .nil passF ht) fun σ H Q ⟨v, h1, a, dx, fs, ex, h2, h3, h4⟩ => ⟨v, h1, a, dx, fs, ex, h2, h3, by
        obtain ⟨env, fp, se, T⟩ := h4
        rw [hnil rfl] at T
        exact T [] H fp [] se ⟨rfl, rfl⟩ .nil (fun a ha => nomatch ha) Stp.refl.nil fun _ => ⟨L2.Same.refl H, rfl⟩⟩
    | cons y ys => exact pe_meth (ds := []) (dvs := []) hx cl hmeth F hroom hbinds .nil passF ha (hstar y ys rfl) (hpl y ys rfl) ht
  refine PE_imp main fun σ H Q ⟨env, fp, se, T⟩ => ?_
  have hrec : recS r env = true := by
    cases h : recS r env with
    | true => rfl
    | false =>
      dsimp only at T
      rw [h] at T
      exact T.elim
  have hins : ∃ fs, (gt env i).rd = some (.ins fs) := by
    rcases hr with rfl | rfl
    · simp only [recS] at hrec
      split at hrec
      · exact ⟨_, by assumption⟩
      · cases hrec
    · simp only [recS] at hrec
      split at hrec
      · exact ⟨_, by assumption⟩
      · cases hrec
  obtain ⟨fs, hfs⟩ := hins
  obtain ⟨v, f, h1, rd, _⟩ := se.rd hfs
  obtain ⟨b, dx, fs', ff, rfl, h2, h3, _⟩ := rd
  dsimp only at T
  rw [if_pos hrec] at T
  refine ⟨.ref b, h1, b, dx, fs', rfl, h2, h3.no hne, env, fp, se, RQ.imp' T.bind fun as env1 hta T vs H1 fp1 fs1 se1 hv nds aps st1 sm1 => ?_⟩
  have hvr : AVal G H1 σ r (.ref b) [] := by rcases hr with rfl | rfl <;> exact ⟨h1, rfl⟩
  have hv2 : AVals G H1 σ (r :: as) (.ref b :: vs) ([] :: fs1) := ⟨.ref b, vs, [], fs1, rfl, rfl, hvr, hv⟩
  have A : Apt G fp1 ([] :: fs1) := ⟨nds, aps⟩
  unfold doMeth at T
  split at T
  · rename_i hl
    split at T
    · rename_i ts hts
      split at T
      · rename_i d outs hc
        split at T
        · rename_i env2 hgb
          dsimp only
          rw [List.append_nil]
          refine call_sp se1 hv2 A hl hts hc hgb (hnp ts (by rw [hc]; exact fun z => nomatch z)) fun v H2 fp2 fd2 s2 r2 n2 a2 st2 ro => T v H2 fp2 fd2 s2 r2 n2 a2 (st1.trans st2) fun hq1 => ?_
          obtain ⟨e1, e2, e3⟩ := hq hq1
          obtain ⟨z1, z2⟩ := sm1 e2
          obtain ⟨z3, z4⟩ := ro (by rw [List.all_cons, e3 env as env1 hta, e1]; rfl)
          exact ⟨z1.trans z3, z4.trans z2⟩
        · exact T.elim
      · exact T.elim
    · exact T.elim
  · exact T.elim
/-! ### one more slot, for a new instance -/
theorem gt_last {env : Env} {s : Sl} : gt (env ++ [s]) env.length = s := by
  induction env with
  | nil => rfl
  | cons x r ih => exact ih
theorem slotOf_lt {env : Env} {a : AV} {t s : Sl} (h : slotOf env a = some t) : slotOf (env ++ [s]) a = some t ∧ (∀ i, a = .br i → i < env.length) ∧ ∀ i, a = .rr i → i < env.length := by
  cases a with
  | va d => exact ⟨h, (fun i e => nomatch e), fun i e => nomatch e⟩
  | br i =>
    have hlt : i < env.length := gt_lt fun q => by simp only [slotOf, q] at h; cases h
    refine ⟨?_, fun j e => by cases e; exact hlt, fun j e => nomatch e⟩
    simp only [slotOf, gt_app hlt] at h ⊢
    exact h
  | rr i =>
    have hlt : i < env.length := gt_lt fun q => by simp only [slotOf, q, Sl.rd] at h; cases h
    refine ⟨?_, (fun j e => nomatch e), fun j e => by cases e; exact hlt⟩
    simp only [slotOf, gt_app hlt] at h ⊢
    exact h
theorem slotsOf_lt {env : Env} {s : Sl} : ∀ {as : List AV} {ts : Env}, slotsOf env as = some ts → slotsOf (env ++ [s]) as = some ts ∧ ∀ a ∈ as, (∀ i, a = .br i → i < env.length) ∧ ∀ i, a = .rr i → i < env.length
  | [], ts, h => ⟨h, fun a ha => nomatch ha⟩
  | a :: r, ts, h => by
    unfold slotsOf at h
    split at h
    · rename_i t ht
      obtain ⟨q, h1, rfl⟩ := Option.map_eq_some_iff.mp h
      obtain ⟨k1, k2⟩ := slotsOf_lt (s := s) h1
      obtain ⟨m1, m2⟩ := slotOf_lt (s := s) ht
      refine ⟨?_, fun b hb => ?_⟩
      · unfold slotsOf
        rw [m1]
        simp only [k1, Option.map_some]
      · rcases List.mem_cons.mp hb with rfl | hb
        · exact m2
        · exact k2 b hb
    · cases h
theorem set_app {env : Env} {s t : Sl} {i : Nat} (h : i < env.length) : (env ++ [s]).set i t = env.set i t ++ [s] := by
  rw [List.set_append_left _ _ h]
theorem giveBack_lt {s : Sl} : ∀ {as : List AV} {env outs env2 : Env}, giveBack env as outs = some env2 → giveBack (env ++ [s]) as outs = some (env2 ++ [s])
  | [], env, outs, env2, h => by simp only [giveBack] at h ⊢; cases h; rfl
  | .va d :: r, env, [], env2, h => by simp [giveBack] at h
  | .rr d :: r, env, [], env2, h => by simp [giveBack] at h
  | .br d :: r, env, [], env2, h => by simp [giveBack] at h
  | .va d :: r, env, o :: os, env2, h => by
    simp only [giveBack] at h ⊢
    exact giveBack_lt h
  | .rr d :: r, env, o :: os, env2, h => by
    simp only [giveBack] at h ⊢
    exact giveBack_lt h
  | .br i :: r, env, o :: os, env2, h => by
    simp only [giveBack] at h ⊢
    split at h
    · rename_i d
      split at h
      · rename_i d0 h0
        have hlt : i < env.length := ow_lt h0
        rw [gt_app hlt, h0]
        simp only
        rw [set_app hlt]
        exact giveBack_lt h
      · rename_i d0 h0
        have hlt : i < env.length := gt_lt (by rw [h0]; exact fun z => nomatch z)
        rw [gt_app hlt, h0]
        simp only
        rw [set_app hlt]
        exact giveBack_lt h
      · cases h
    · cases h
theorem avals_lt {H : Hp} {σ : L2.St} {w : Option V} : ∀ {as : List AV} {vs : List V} {fs : List (List Addr)}, AVals G H σ as vs fs → AVals G H (σ ++ [w]) as vs fs
  | [], vs, fs, h => h
  | a :: as, vs, fs, h => by
    obtain ⟨v, r, f, g, e1, e2, h1, h2⟩ := h
    refine ⟨v, r, f, g, e1, e2, ?_, avals_lt h2⟩
    cases a with
    | va d => exact h1
    | br i => exact ⟨by rw [List.getElem?_append_left (List.getElem?_eq_some_iff.mp h1.1).1]; exact h1.1, h1.2⟩
    | rr i => exact ⟨by rw [List.getElem?_append_left (List.getElem?_eq_some_iff.mp h1.1).1]; exact h1.1, h1.2⟩
theorem se_more {H : Hp} {σ : L2.St} {env : Env} {fp : Nat → List Addr} {d : D} {v : V} {fd : List Addr} (se : SE G H σ env fp) (rd : RD G.K G.Cl H d v fd) (nd : fd.Nodup) (ap : ∀ a ∈ fd, ¬ In fp a ∧ ¬ G.Z a) :
    SE G H (σ ++ [some v]) (env ++ [.ow d]) (fun i => if i = env.length then fd else fp i) := by
  have se1 := se_start (G := G) 1 se
  have se2 := se1.put (i := env.length) (s := .ow d) (o := some v) (f := fd) (by simp) ⟨fun _ _ h => h, fun _ _ _ h => h⟩ (fun _ _ _ h => h) ⟨v, rfl, rd⟩ nd fun a ha => ⟨fun j _ hj => (ap a ha).1 ⟨j, hj⟩, (ap a ha).2⟩
  have e1 : (σ ++ List.replicate 1 none).set env.length (some v) = σ ++ [some v] := by
    rw [← se.len]
    simp
  have e2 : (env ++ List.replicate 1 Sl.no).set env.length (.ow d) = env ++ [.ow d] := by simp
  rw [e1, e2] at se2
  exact se2
/-- a new instance -/
theorem de_mk (cx : Ctx cf X G C W cls) {g e : Expr} {es : List Expr} {ta : Env → R (List AV)} {qa : Bool} {pos : Pos} (ha : PA X (e :: es) (rdA G W cls qa ta)) (hg : glName X.env.scope "Machine" g = true) (hmk : cf.makes = true) (hh : cf.hot = false)
    (hs : starEach (e :: es) X.env = (false, eval e X.env) :: starEach es X.env) (hpl : (backTo pos (starEach es X.env)).any (·.1) = false) :
    PE X (.Call g (e :: es) [] pos) (rdV G W cls false fun env => (ta env).bind fun as env => doMake C as env) := by
  obtain ⟨a, fd, ps, k, np, hnp, F, hr, M, hm, hb⟩ := (cx.ini hmk hh).ex
  obtain ⟨p, rfl, hgl, hd, hn⟩ := gl_of hg
  refine PE_imp (pe_make (ds := []) (dvs := []) (E := fun _ _ _ => False) M F hr hgl hm hb .nil passF ha hd hs hpl) fun σ H Q ⟨env, fp, se, T⟩ => ?_
  refine ⟨env, fp, se, T.bind.imp fun as env1 T vs H1 fp1 fs se1 hv nds aps st1 _ => fun x dx nx ndx nex => ?_⟩
  rw [List.append_nil]
  have sm1 : L2.Same H1 (upd H1 dx (.own x)) := same_upd ndx
  have nx2 : (upd H1 dx (.own x)) x = none := by rw [upd_ne (fun e => nex e.symm)]; exact nx
  have sm : L2.Same H1 (upd (upd H1 dx (.own x)) x (.ins G.Cl.a dx [])) := sm1.trans (same_upd nx2)
  obtain ⟨n1, n2⟩ := se1.none_in nx
  have nf : x ∉ fs.flatten := fun h => by
    have := avals_owned hv x h
    rw [nx] at this
    exact this
  have se2 := se_more (d := .ins []) (v := .ref x) (fd := [x]) (se1.same sm) ⟨x, dx, [], [], rfl, upd_same, ⟨rfl, rfl⟩, rfl⟩ (by simp) (fun a ha => by rw [List.mem_singleton.mp ha]; exact ⟨n1, n2⟩)
  unfold doMake at T
  split at T
  · rename_i hl
    split at T
    · rename_i ts hts
      split at T
      · rename_i d outs hc
        split at T
        · rename_i env2 hgb
          obtain ⟨s1, s2⟩ := slotsOf_lt (s := .ow (.ins [])) hts
          have hk : ∀ b ∈ as, b ≠ .br env1.length ∧ b ≠ .rr env1.length := fun b hb => ⟨fun e => by have := (s2 b hb).1 _ e; omega, fun e => by have := (s2 b hb).2 _ e; omega⟩
          have hl2 : lentOnce (.br env1.length :: as) = true := by
            simp only [lentOnce, Bool.and_eq_true, List.all_eq_true]
            refine ⟨fun b hb => ?_, hl⟩
            cases b with
            | va d => rfl
            | br j => exact bne_iff_ne.mpr fun e => (hk _ hb).1 (by rw [e])
            | rr j => exact bne_iff_ne.mpr fun e => (hk _ hb).2 (by rw [e])
          have hts2 : slotsOf (env1 ++ [.ow (.ins [])]) (.br env1.length :: as) = some (.bo (.ins []) :: ts) := by
            unfold slotsOf
            simp only [slotOf, gt_last, s1, Option.map_some]
          have hgb2 : giveBack (env1 ++ [.ow (.ins [])]) (.br env1.length :: as) (.bo d :: outs) = some (env2 ++ [.ow d]) := by
            simp only [giveBack, gt_last]
            have e : (env1 ++ [Sl.ow (.ins [])]).set env1.length (.ow d) = env1 ++ [.ow d] := by simp
            rw [e]
            exact giveBack_lt hgb
          have hv2 : AVals G (upd (upd H1 dx (.own x)) x (.ins G.Cl.a dx [])) (σ ++ [some (.ref x)]) (.br env1.length :: as) (.ref x :: vs) ([] :: fs) := by
            refine ⟨.ref x, vs, [], fs, rfl, rfl, ⟨by rw [← se1.len]; simp, rfl⟩, ?_⟩
            have kp : ∀ {as : List AV} {vs : List V} {fs : List (List Addr)}, AVals G H1 σ as vs fs → AVals G (upd (upd H1 dx (.own x)) x (.ins G.Cl.a dx [])) σ as vs fs := fun {as} => by
              induction as with
              | nil => exact fun h => h
              | cons b r ih =>
                intro vs fs h
                obtain ⟨v, r, f, g, e1, e2, h1, h2⟩ := h
                exact ⟨v, r, f, g, e1, e2, h1.keep (same_keep sm _), ih h2⟩
            exact avals_lt (kp hv)
          have A : Apt G (fun i => if i = env1.length then [x] else fp1 i) ([] :: fs) := ⟨nds, fun b hb => ⟨fun ⟨j, hj⟩ => by
            dsimp only at hj
            split at hj
            · rw [List.mem_singleton.mp hj] at hb
              exact nf hb
            · exact (aps b hb).1 ⟨j, hj⟩, (aps b hb).2⟩⟩
          refine call_sp se2 hv2 A hl2 hts2 hc hgb2 (hnp _ (by rw [hc]; exact fun z => nomatch z)) fun v H2 fp2 fd2 s3 r2 n2' a2 st2 _ => ?_
          have ev : v = .non := by have := r2.ofp; rw [RP] at this; exact this
          refine ⟨ev, ?_⟩
          have len2 : env2.length = env1.length := (giveBack_at hgb hl).1
          have s4 := se_take (G := G) env1.length s3
          have e1 : (σ ++ [some (V.ref x)]).take env1.length = σ := by rw [← se1.len]; simp
          have e2 : (env2 ++ [Sl.ow d]).take env1.length = env2 := by rw [← len2]; simp
          rw [e1, e2] at s4
          obtain ⟨o, k1, k2⟩ := s3.sl env1.length (by simp [len2])
          have k3 : (σ ++ [some (V.ref x)])[env1.length]? = some (some (.ref x)) := by rw [← se1.len]; simp
          rw [k3] at k1
          cases k1
          have k4 : gt (env2 ++ [Sl.ow d]) env1.length = .ow d := by rw [← len2]; exact gt_last
          rw [k4] at k2
          obtain ⟨v', ev', rdv⟩ := k2
          cases ev'
          refine T (.ref x) H2 _ (fp2 env1.length) s4 rdv (s3.nd _) (fun b hb => ⟨fun ⟨j, hj⟩ => ?_, fun hz => (s3.zz b hz).1 ⟨_, hb⟩⟩) (st1.trans ⟨fun b o eb hb => ?_, fun b hb => ?_⟩) nq
          · dsimp only at hj
            split at hj
            · rename_i hlt
              have := s3.dj _ _ b hj hb
              omega
            · cases hj
          · have hbx : b ≠ x := fun e => by rw [e, nx] at eb; cases eb
            refine st2.st b o (sm b o eb) fun h => ?_
            rcases h with ⟨j, hj⟩ | h
            · dsimp only at hj
              split at hj
              · exact hbx (List.mem_singleton.mp hj)
              · exact hb (.inl ⟨j, hj⟩)
            · exact hb (.inr h)
          · have back : In fp2 b → (In fp1 b ∨ b ∈ fs.flatten) ∨ H1 b = none := fun h => by
              rcases st2.ow b (.inl h) with h | h
              · rcases h with ⟨j, hj⟩ | h
                · dsimp only at hj
                  split at hj
                  · rw [List.mem_singleton.mp hj]; exact .inr nx
                  · exact .inl (.inl ⟨j, hj⟩)
                · exact .inl (.inr h)
              · refine .inr ?_
                cases z : H1 b with
                | none => rfl
                | some o => rw [sm b o z] at h; cases h
            rcases hb with ⟨j, hj⟩ | hb
            · dsimp only at hj
              split at hj
              · exact back ⟨j, hj⟩
              · cases hj
            · exact back ⟨_, hb⟩
        · exact T.elim
      · exact T.elim
    · exact T.elim
  · exact T.elim
end
end DL

/-! DL13: every term's reading holds where the check says so. -/
namespace DL
open PySem PySem.Spec PyProof.Rows L2

theorem nst_star {e : Expr} {es : List Expr} {env : PySem.Env} (h : nst e = true) : starEach (e :: es) env = (false, eval e env) :: starEach es env := by
  cases e <;> first | rfl | (cases h)
theorem nbs_base {e : Expr} {n : Str} {env : PySem.Env} (h : nbs e = true) : attributeBase e n env (eval e env) = eval e env := by
  cases e with
  | Call f as kw pos =>
    cases f <;> cases as <;> cases kw <;> first | rfl | (cases h)
  | _ => rfl
theorem nsl_plain {e : Expr} (h : nsl e = true) : PlainIx e := by
  intro o i
  cases e <;> first | rfl | (cases h; done)
theorem plain_true {e : Expr} {env : PySem.Env} (h : plainT e = true) : ∀ whole, isTrue e env whole = (do let v ← whole; standAt e.pos; holding [v] (truthy v)) := by
  intro whole
  cases e with
  | UnaryOp op x pos => cases op <;> first | rfl | (cases h)
  | BoolOp _ _ _ => cases h
  | IfExp _ _ _ _ => cases h
  | Compare _ _ _ _ => cases h
  | _ => rfl
section
variable {X : Cx} {G : Gh} {W : WX} {cls : String → Addr}
theorem de_weak {x : Expr} {q : Bool} {r : Env → R D} (h : PE X x (rdV G W cls q r)) : PE X x (rdV G W cls false r) := PE_imp h fun σ H Q ⟨env, fp, se, T⟩ =>
  ⟨env, fp, se, T.imp fun d env' T v H' fp' fd se' rd nd ap st _ => T v H' fp' fd se' rd nd ap st nq⟩
theorem dB_weak {x : Expr} {q : Bool} {r : Env → R D} (h : PE X x (rdB G W cls q r)) : PE X x (rdB G W cls false r) := PE_imp h fun σ H Q ⟨env, fp, se, T⟩ =>
  ⟨env, fp, se, T.imp fun d env' T v H' fp' fd se' rd st _ => T v H' fp' fd se' rd st nq⟩
theorem do_weak {x : Option Expr} {q : Bool} {r : Env → R (Option Int)} (h : PO X x (rdO G W cls q r)) : PO X x (rdO G W cls false r) := ⟨fun pins s σ H Q I ⟨env, fp, se, T⟩ => h.run pins s σ H Q I
  ⟨env, fp, se, T.imp fun d env' T H' fp' se' st _ => T H' fp' se' st nq⟩⟩
end
/-- a term's readings -/
structure Snd (C : Calls) (e : E) : Prop where
  v : ∀ {cf : Cf} {X : Cx} {G : Gh} {W : WX} {cls : String → Addr}, Ctx cf X G C W cls → ∀ x, (chk cf e X.env.scope).e x = true → PE X x (rdV G W cls (quiet e) (den C e).v)
  b : ∀ {cf : Cf} {X : Cx} {G : Gh} {W : WX} {cls : String → Addr}, Ctx cf X G C W cls → ∀ x, (chk cf e X.env.scope).e x = true → PE X x (rdB G W cls (quiet e) (orB e (den C e).v))
  t : ∀ {cf : Cf} {X : Cx} {G : Gh} {W : WX} {cls : String → Addr}, Ctx cf X G C W cls → ∀ x, (chk cf e X.env.scope).e x = true → PT X x (rdT G W cls (den C e).t)
  s : ∀ {cf : Cf} {X : Cx} {G : Gh} {W : WX} {cls : String → Addr}, Ctx cf X G C W cls → ∀ l, (chk cf e X.env.scope).l l = true → PA X l (rdS G W cls (quiet e) (den C e).s)
  sl : ∀ {cf : Cf} {sc : Scope} l, (chk cf e sc).l l = true → ∀ env xs env', (den C e).s env = .ok xs env' → xs.length = l.length
  n : ∀ {cf : Cf} {X : Cx} {G : Gh} {W : WX} {cls : String → Addr}, Ctx cf X G C W cls → ∀ l, (chk cf e X.env.scope).l l = true → PA X l (rdN G W cls (den C e).n)
  nl : ∀ {cf : Cf} {sc : Scope} l, (chk cf e sc).l l = true → ∀ env xs env', (den C e).n env = .ok xs env' → xs.length = l.length
  a : ∀ {cf : Cf} {X : Cx} {G : Gh} {W : WX} {cls : String → Addr}, Ctx cf X G C W cls → ∀ l, (chk cf e X.env.scope).l l = true → PA X l (rdA G W cls (quiet e) (den C e).a)
  ar : ∀ {cf : Cf} {X : Cx} {G : Gh} {W : WX} {cls : String → Addr}, Ctx cf X G C W cls → ∀ x, (chk cf e X.env.scope).e x = true → PE X x (tArg G W cls (quiet e) (argA e (den C e).v))
  o : ∀ {cf : Cf} {X : Cx} {G : Gh} {W : WX} {cls : String → Addr}, Ctx cf X G C W cls → ∀ x, (chk cf e X.env.scope).o x = true → PO X x (rdO G W cls (quiet e) (den C e).o)
  an : ∀ {cf : Cf} {X : Cx} {G : Gh} {W : WX} {cls : String → Addr}, Ctx cf X G C W cls → ∀ l pos, (chk cf e X.env.scope).an l = true → PE X (.BoolOp .And l pos) (rdV G W cls false (den C e).v) ∧ PW X (.BoolOp .And l pos) (rdT G W cls (den C e).t)
  orr : ∀ {cf : Cf} {X : Cx} {G : Gh} {W : WX} {cls : String → Addr}, Ctx cf X G C W cls → ∀ l pos, (chk cf e X.env.scope).orr l = true → PE X (.BoolOp .Or l pos) (rdV G W cls false (den C e).v) ∧ PW X (.BoolOp .Or l pos) (rdT G W cls (den C e).t)
  i : ∀ {cf : Cf} {X : Cx} {G : Gh} {W : WX} {cls : String → Addr}, Ctx cf X G C W cls → ∀ tg x, (chk cf e X.env.scope).i tg x = true → PI X tg x (rdI G W cls (isTupTg tg) (den C e).i)
/-- a test's reading, where it changes nothing -/
def SndQ (C : Calls) (e : E) : Prop := qT e = true → ∀ {cf : Cf} {X : Cx} {G : Gh} {W : WX} {cls : String → Addr}, Ctx cf X G C W cls → ∀ x, (chk cf e X.env.scope).e x = true → PT X x (rdTQ G W cls (den C e).t)
/-- no place -/
def plc : E → Bool
  | .v _ => true
  | .fld _ _ => true
  | .ix _ _ => true
  | _ => false
def lnd : E → Bool
  | .bw _ => true
  | .rw _ => true
  | .lst _ => true
  | _ => false
theorem orB_pl {e : E} (h : plc e = false) (v : Env → R D) : orB e v = v := by
  funext env
  unfold orB
  have : brw e env = none := by cases e <;> first | rfl | (cases h)
  rw [this]
theorem argA_pl {e : E} (h : lnd e = false) (v : Env → R D) : argA e v = fun env => (asP (v env)).bind fun x env => .ok (.va (.p x)) env := by
  funext env
  cases e <;> first | rfl | (cases h)
section
variable {C : Calls}
theorem one1_of {f : Expr → Bool} {l : List Expr} (h : one1 f l = true) : ∃ x, l = [x] ∧ f x = true ∧ nst x = true := by
  unfold one1 at h
  split at h
  · rw [Bool.and_eq_true] at h; exact ⟨_, rfl, h.1, h.2⟩
  · cases h
theorem some1_of {f : Expr → Bool} {l : Option Expr} (h : some1 f l = true) : ∃ x, l = some x ∧ f x = true := by
  unfold some1 at h
  split at h
  · exact ⟨_, rfl, h⟩
  · cases h
/-- most terms -/
theorem Snd.mk1 {e : E} {f : Cf → Scope → Expr → Bool} {v : Env → R D} (hc : ∀ cf sc, chk cf e sc = dfC (f cf sc)) (hv0 : (den C e).v = v) (ho : (den C e).o = fun env => (v env).bind partD) (hi : (den C e).i = fun env => (v env).bind walkD)
    (hv : ∀ {cf : Cf} {X : Cx} {G : Gh} {W : WX} {cls : String → Addr}, Ctx cf X G C W cls → ∀ x, f cf X.env.scope x = true → PE X x (rdV G W cls (quiet e) v))
    (hb : ∀ {cf : Cf} {X : Cx} {G : Gh} {W : WX} {cls : String → Addr}, Ctx cf X G C W cls → ∀ x, f cf X.env.scope x = true → PE X x (rdB G W cls (quiet e) (orB e v)))
    (ha : ∀ {cf : Cf} {X : Cx} {G : Gh} {W : WX} {cls : String → Addr}, Ctx cf X G C W cls → ∀ x, f cf X.env.scope x = true → PE X x (tArg G W cls (quiet e) (argA e v)))
    (ht : ∀ {cf : Cf} {X : Cx} {G : Gh} {W : WX} {cls : String → Addr}, Ctx cf X G C W cls → ∀ x, f cf X.env.scope x = true → PT X x (rdT G W cls (den C e).t)) : Snd C e where
  v := fun cx x h => by rw [hc] at h; rw [hv0]; exact hv cx x h
  b := fun cx x h => by rw [hc] at h; rw [hv0]; exact hb cx x h
  t := fun cx x h => by rw [hc] at h; exact ht cx x h
  s := fun cx l h => by rw [hc] at h; cases h
  sl := fun l h => by rw [hc] at h; cases h
  n := fun cx l h => by rw [hc] at h; cases h
  nl := fun l h => by rw [hc] at h; cases h
  a := fun cx l h => by rw [hc] at h; cases h
  ar := fun cx x h => by rw [hc] at h; rw [hv0]; exact ha cx x h
  o := fun cx x h => by
    rw [hc] at h
    obtain ⟨y, rfl, h⟩ := some1_of h
    rw [ho]
    exact do_some (hv cx y h)
  an := fun cx l pos h => by
    rw [hc] at h
    obtain ⟨y, rfl, h, _⟩ := one1_of h
    rw [hv0]
    exact ⟨pe_one (de_weak (hv cx y h)), pw_and1 (ht cx y h)⟩
  orr := fun cx l pos h => by
    rw [hc] at h
    obtain ⟨y, rfl, h, _⟩ := one1_of h
    rw [hv0]
    exact ⟨pe_one (de_weak (hv cx y h)), pw_or1 (ht cx y h)⟩
  i := fun cx tg x h => by
    rw [hc] at h
    rw [hi]
    have h' : f _ _ x = true := (Bool.and_eq_true _ _ |>.mp h).1
    exact di_walk cx.K (hv cx x h')
/-- terms that are no place and are not lent, tested by their truth -/
theorem Snd.mk0 {e : E} {f : Cf → Scope → Expr → Bool} {v : Env → R D} (hc : ∀ cf sc, chk cf e sc = dfC (f cf sc)) (hd : den C e = dflt e v) (pl : plc e = false) (ln : lnd e = false) (pt : ∀ cf sc x, f cf sc x = true → plainT x = true)
    (hv : ∀ {cf : Cf} {X : Cx} {G : Gh} {W : WX} {cls : String → Addr}, Ctx cf X G C W cls → ∀ x, f cf X.env.scope x = true → PE X x (rdV G W cls (quiet e) v)) : Snd C e :=
  Snd.mk1 hc (by rw [hd]; rfl) (by rw [hd]; rfl) (by rw [hd]; rfl) hv (fun cx x h => by rw [orB_pl pl]; exact rdB_of (hv cx x h)) (fun cx x h => by rw [argA_pl ln]; exact de_argV (hv cx x h)) fun cx x h => by
    rw [hd]
    show PT _ x (rdT _ _ _ fun env => (orB e v env).bind fun d env => R.of (truth d) env)
    rw [orB_pl pl]
    exact dt_plain cx.K (rdB_of (hv cx x h)) (plain_true (pt _ _ x h))
/-- terms that are tests -/
theorem Snd.mkT {e : E} {f : Cf → Scope → Expr → Bool} {v : Env → R D} {t : Env → R Bool} (hc : ∀ cf sc, chk cf e sc = dfC (f cf sc)) (hd : den C e = { dflt e v with t := t }) (pl : plc e = false) (ln : lnd e = false)
    (hv : ∀ {cf : Cf} {X : Cx} {G : Gh} {W : WX} {cls : String → Addr}, Ctx cf X G C W cls → ∀ x, f cf X.env.scope x = true → PE X x (rdV G W cls (quiet e) v))
    (ht : ∀ {cf : Cf} {X : Cx} {G : Gh} {W : WX} {cls : String → Addr}, Ctx cf X G C W cls → ∀ x, f cf X.env.scope x = true → PT X x (rdT G W cls t)) : Snd C e :=
  Snd.mk1 hc (by rw [hd]; rfl) (by rw [hd]; rfl) (by rw [hd]; rfl) hv (fun cx x h => by rw [orB_pl pl]; exact rdB_of (hv cx x h)) (fun cx x h => by rw [argA_pl ln]; exact de_argV (hv cx x h)) fun cx x h => by rw [hd]; exact ht cx x h
/-- terms that the check lets pass nowhere -/
theorem Snd.mkN {e : E} (hc : ∀ cf sc, chk cf e sc = noE) : Snd C e where
  v := fun cx x h => by rw [hc] at h; cases h
  b := fun cx x h => by rw [hc] at h; cases h
  t := fun cx x h => by rw [hc] at h; cases h
  s := fun cx l h => by rw [hc] at h; cases h
  sl := fun l h => by rw [hc] at h; cases h
  n := fun cx l h => by rw [hc] at h; cases h
  nl := fun l h => by rw [hc] at h; cases h
  a := fun cx l h => by rw [hc] at h; cases h
  ar := fun cx x h => by rw [hc] at h; cases h
  o := fun cx x h => by rw [hc] at h; cases h
  an := fun cx l pos h => by rw [hc] at h; cases h
  orr := fun cx l pos h => by rw [hc] at h; cases h
  i := fun cx tg x h => by rw [hc] at h; cases h
/-- what is only walked -/
theorem Snd.mkI {e : E} {f : Cf → Scope → Expr → Expr → Bool} (hc : ∀ cf sc, chk cf e sc = { noE with i := f cf sc })
    (hi : ∀ {cf : Cf} {X : Cx} {G : Gh} {W : WX} {cls : String → Addr}, Ctx cf X G C W cls → ∀ tg x, f cf X.env.scope tg x = true → PI X tg x (rdI G W cls (isTupTg tg) (den C e).i)) : Snd C e where
  v := fun cx x h => by rw [hc] at h; cases h
  b := fun cx x h => by rw [hc] at h; cases h
  t := fun cx x h => by rw [hc] at h; cases h
  s := fun cx l h => by rw [hc] at h; cases h
  sl := fun l h => by rw [hc] at h; cases h
  n := fun cx l h => by rw [hc] at h; cases h
  nl := fun l h => by rw [hc] at h; cases h
  a := fun cx l h => by rw [hc] at h; cases h
  ar := fun cx x h => by rw [hc] at h; cases h
  o := fun cx x h => by rw [hc] at h; cases h
  an := fun cx l pos h => by rw [hc] at h; cases h
  orr := fun cx l pos h => by rw [hc] at h; cases h
  i := fun cx tg x h => by rw [hc] at h; exact hi cx tg x h

/-! ### names, constants -/
theorem chkK_pl {p : P} {x : Expr} (h : chkK p x = true) : plainT x = true := by
  unfold chkK at h
  split at h <;> first | rfl | (cases h)
theorem slot_pl {cf : Cf} {sc : Scope} {i : Nat} {x : Expr} (h : slotB cf sc i x = true) : plainT x = true := by
  unfold slotB at h
  split at h
  · rfl
  · cases h
theorem snd_k (p : P) : Snd C (.k p) := Snd.mk0 (f := fun _ _ => chkK p) (fun _ _ => rfl) rfl rfl rfl (fun _ _ _ => chkK_pl) fun cx x h => de_k h
theorem gl_pl {sc : Scope} {n : Str} {e : Expr} (h : glName sc n e = true) : plainT e = true := by
  obtain ⟨p, rfl, _⟩ := gl_of h; rfl
theorem snd_g (n : String) (p : P) : Snd C (.g n p) := Snd.mk0 (f := fun cf sc e => glName sc n e && decide ((n, p) ∈ cf.cst)) (fun _ _ => rfl) rfl rfl rfl (fun _ _ _ h => by
    rw [Bool.and_eq_true] at h; exact gl_pl h.1) fun cx x h => by
  rw [Bool.and_eq_true, decide_eq_true_eq] at h
  obtain ⟨v, u, h1, h2, h3⟩ := cx.cst n p h.2
  obtain ⟨p, rfl, hgl, hd, hn⟩ := gl_of h.1
  exact de_const (pe_glob hgl h1 h2 hd) h3
theorem snd_v (i : Nat) : Snd C (.v i) := Snd.mk1 (f := fun cf sc => slotB cf sc i) (v := evV i) (fun _ _ => rfl) rfl rfl rfl (fun cx x h => de_v (slot_pe cx h)) (fun cx x h => de_vB (slot_pe cx h)) (fun cx x h => by rw [argA_pl rfl]; exact de_argV (q := true) (de_v (slot_pe cx h)))
  fun cx x h => dt_plain (q := true) cx.K (de_vB (slot_pe cx h)) (plain_true (slot_pl h))
theorem snd_mv (i : Nat) : Snd C (.mv i) := Snd.mk0 (f := fun cf sc => slotB cf sc i) (fun _ _ => rfl) rfl rfl rfl (fun _ _ _ => slot_pl) fun cx x h => de_mv (slot_pe cx h)
theorem snd_fz (i : Nat) : Snd C (.fz i) := Snd.mk0 (f := fun cf sc => slotB cf sc i) (fun _ _ => rfl) rfl rfl rfl (fun _ _ _ => slot_pl) fun cx x h => de_fz (slot_pe cx h)
theorem de_no {X : Cx} {G : Gh} {W : WX} {cls : String → Addr} {i : Nat} {e : Expr} {q : Bool} (h : PE X e (tVar i)) : PE X e (rdV G W cls q fun _ => .st) := PE_imp h fun σ H Q ⟨env, fp, se, T⟩ => T.elim
theorem snd_bw (i : Nat) : Snd C (.bw i) := Snd.mk1 (f := fun cf sc => slotB cf sc i) (v := fun _ => .st) (fun _ _ => rfl) rfl rfl rfl (fun cx x h => de_no (slot_pe cx h)) (fun cx x h => by rw [orB_pl rfl]; exact rdB_of (de_no (slot_pe cx h)))
  (fun cx x h => de_argS (slot_pe cx h) fun H σ v h => ⟨h, rfl⟩) fun cx x h => dt_plain (q := true) (ta := orB (.bw i) fun _ => .st) cx.K (by rw [orB_pl rfl]; exact rdB_of (de_no (slot_pe cx h))) (plain_true (slot_pl h))
theorem snd_rw (i : Nat) : Snd C (.rw i) := Snd.mk1 (f := fun cf sc => slotB cf sc i) (v := fun _ => .st) (fun _ _ => rfl) rfl rfl rfl (fun cx x h => de_no (slot_pe cx h)) (fun cx x h => by rw [orB_pl rfl]; exact rdB_of (de_no (slot_pe cx h)))
  (fun cx x h => de_argS (slot_pe cx h) fun H σ v h => ⟨h, rfl⟩) fun cx x h => dt_plain (q := true) (ta := orB (.rw i) fun _ => .st) cx.K (by rw [orB_pl rfl]; exact rdB_of (de_no (slot_pe cx h))) (plain_true (slot_pl h))
theorem snd_fr {e : E} (he : Snd C e) : Snd C (.fr e) := Snd.mk0 (f := fun cf sc x => plainT x && (chk cf e sc).e x) (fun _ _ => rfl) rfl rfl rfl (fun _ _ _ h => (Bool.and_eq_true _ _ |>.mp h).1) fun cx x h => de_fr (he.v cx x (Bool.and_eq_true _ _ |>.mp h).2)
/-! ### displays -/
def isTupE (l : List Expr → Bool) (e : Expr) : Bool := match e with
  | .Tuple xs _ _ => l xs && decide (xs.length ≤ 1000)
  | _ => false
def isLstE (l : List Expr → Bool) (e : Expr) : Bool := match e with
  | .List xs _ => l xs && decide (xs.length ≤ 1000)
  | _ => false
theorem isTupE_of {l : List Expr → Bool} {e : Expr} (h : isTupE l e = true) : ∃ xs k p, e = .Tuple xs k p ∧ l xs = true ∧ xs.length ≤ 1000 := by
  unfold isTupE at h
  split at h
  · rw [Bool.and_eq_true, decide_eq_true_eq] at h; exact ⟨_, _, _, rfl, h.1, h.2⟩
  · cases h
theorem isLstE_of {l : List Expr → Bool} {e : Expr} (h : isLstE l e = true) : ∃ xs p, e = .List xs p ∧ l xs = true ∧ xs.length ≤ 1000 := by
  unfold isLstE at h
  split at h
  · rw [Bool.and_eq_true, decide_eq_true_eq] at h; exact ⟨_, _, rfl, h.1, h.2⟩
  · cases h
theorem snd_tup {es : E} (he : Snd C es) : Snd C (.tup es) := Snd.mk0 (f := fun cf sc => isTupE (chk cf es sc).l) (fun _ _ => rfl) rfl rfl rfl (fun _ _ _ h => by obtain ⟨_, _, _, rfl, _⟩ := isTupE_of h; rfl) fun cx x h => by
  obtain ⟨xs, k, p, rfl, h1, h2⟩ := isTupE_of h
  exact de_tup (he.s cx xs h1) h2 (he.sl xs h1)
theorem lst_v {es : E} (he : Snd C es) {cf : Cf} {X : Cx} {G : Gh} {W : WX} {cls : String → Addr} (cx : Ctx cf X G C W cls) (x : Expr) (h : isLstE (chk cf es X.env.scope).l x = true) : PE X x (rdV G W cls false (den C (.lst es)).v) := by
  obtain ⟨xs, p, rfl, h1, h2⟩ := isLstE_of h
  exact de_weak (de_lst (he.s cx xs h1) h2 (he.sl xs h1))
theorem snd_lst {es : E} (he : Snd C es) : Snd C (.lst es) := Snd.mk1 (f := fun cf sc => isLstE (chk cf es sc).l) (fun _ _ => rfl) rfl rfl rfl (fun cx x h => lst_v he cx x h) (fun cx x h => by rw [orB_pl rfl]; exact rdB_of (lst_v he cx x h))
  (fun cx x h => de_argL (lst_v he cx x h)) fun cx x h => by
    show PT _ x (rdT _ _ _ fun env => (orB (.lst es) (den C (.lst es)).v env).bind fun d env => R.of (truth d) env)
    rw [orB_pl rfl]
    exact dt_plain cx.K (rdB_of (lst_v he cx x h)) (plain_true (by obtain ⟨_, _, rfl, _⟩ := isLstE_of h; rfl))
theorem snd_lsn {es : E} (he : Snd C es) : Snd C (.lsn es) := Snd.mk0 (f := fun cf sc => isLstE (chk cf es sc).l) (fun _ _ => rfl) rfl rfl rfl (fun _ _ _ h => by obtain ⟨_, _, rfl, _⟩ := isLstE_of h; rfl) fun cx x h => by
  obtain ⟨xs, p, rfl, h1, h2⟩ := isLstE_of h
  exact de_lsn (he.n cx xs h1) h2 (he.nl xs h1)
theorem snd_nil : Snd C .nil where
  v := fun cx x h => by cases h
  b := fun cx x h => by cases h
  t := fun cx x h => by cases h
  s := fun cx l h => by cases l with | nil => exact de_nilS | cons x r => cases h
  sl := fun l h env xs env' e => by cases l with | nil => cases e; rfl | cons x r => cases h
  n := fun cx l h => by cases l with | nil => exact de_nilN | cons x r => cases h
  nl := fun l h env xs env' e => by cases l with | nil => cases e; rfl | cons x r => cases h
  a := fun cx l h => by cases l with | nil => exact de_nilA | cons x r => cases h
  ar := fun cx x h => by cases h
  o := fun cx x h => by cases h
  an := fun cx l pos h => by cases h
  orr := fun cx l pos h => by cases h
  i := fun cx tg x h => by cases h
theorem bind_ok {α β : Type} {r : R α} {f : α → Env → R β} {y : β} {env' : Env} (h : r.bind f = .ok y env') : ∃ x e, r = .ok x e ∧ f x e = .ok y env' := by
  cases r with
  | ok x e => exact ⟨x, e, rfl, h⟩
  | _ => cases h
theorem cons_l {cf : Cf} {e es : E} {sc : Scope} {l : List Expr} (h : (chk cf (.cons e es) sc).l l = true) : ∃ x r, l = x :: r ∧ (chk cf e sc).e x = true ∧ nst x = true ∧ (chk cf es sc).l r = true := by
  cases l with
  | nil => cases h
  | cons x r =>
    have h' : ((chk cf e sc).e x && nst x && (chk cf es sc).l r) = true := h
    simp only [Bool.and_eq_true] at h'
    exact ⟨x, r, rfl, h'.1.1, h'.1.2, h'.2⟩
theorem snd_cons {e es : E} (he : Snd C e) (hs : Snd C es) : Snd C (.cons e es) where
  v := fun cx x h => by cases h
  b := fun cx x h => by cases h
  t := fun cx x h => by cases h
  s := fun cx l h => by
    obtain ⟨x, r, rfl, h1, h2, h3⟩ := cons_l h
    exact de_consS (he.v cx x h1) (hs.s cx r h3) (nst_star h2)
  sl := fun l h env xs env' q => by
    obtain ⟨x, r, rfl, h1, h2, h3⟩ := cons_l h
    obtain ⟨y, e1, _, q⟩ := bind_ok q
    obtain ⟨ys, e2, q1, q⟩ := bind_ok q
    cases q
    simp [hs.sl r h3 _ _ _ q1]
  n := fun cx l h => by
    obtain ⟨x, r, rfl, h1, h2, h3⟩ := cons_l h
    exact de_consN (he.v cx x h1) (hs.n cx r h3) (nst_star h2)
  nl := fun l h env xs env' q => by
    obtain ⟨x, r, rfl, h1, h2, h3⟩ := cons_l h
    obtain ⟨y, e1, _, q⟩ := bind_ok q
    obtain ⟨y2, e3, _, q⟩ := bind_ok q
    obtain ⟨ys, e2, q1, q⟩ := bind_ok q
    cases q
    simp [hs.nl r h3 _ _ _ q1]
  a := fun cx l h => by
    obtain ⟨x, r, rfl, h1, h2, h3⟩ := cons_l h
    exact de_consA (he.ar cx x h1) (hs.a cx r h3) (nst_star h2)
  ar := fun cx x h => by cases h
  o := fun cx x h => by cases h
  an := fun cx l pos h => by cases h
  orr := fun cx l pos h => by cases h
  i := fun cx tg x h => by cases h
theorem snd_no : Snd C .no where
  v := fun cx x h => by cases h
  b := fun cx x h => by cases h
  t := fun cx x h => by cases h
  s := fun cx l h => by cases h
  sl := fun l h => by cases h
  n := fun cx l h => by cases h
  nl := fun l h => by cases h
  a := fun cx l h => by cases h
  ar := fun cx x h => by cases h
  o := fun cx x h => by cases x with | none => exact do_no | some y => cases h
  an := fun cx l pos h => by cases h
  orr := fun cx l pos h => by cases h
  i := fun cx tg x h => by cases h
/-! ### operators -/
def isBin (o : BOp) (a b : Expr → Bool) (e : Expr) : Bool := match e with
  | .BinOp x op y _ => decide (op = pyB o) && a x && b y
  | _ => false
theorem isBin_of {o : BOp} {a b : Expr → Bool} {e : Expr} (h : isBin o a b e = true) : ∃ x y p, e = .BinOp x (pyB o) y p ∧ a x = true ∧ b y = true := by
  unfold isBin at h
  split at h
  · simp only [Bool.and_eq_true, decide_eq_true_eq] at h
    obtain ⟨⟨rfl, h1⟩, h2⟩ := h
    exact ⟨_, _, _, rfl, h1, h2⟩
  · cases h
theorem snd_bin (o : BOp) {a b : E} (ha : Snd C a) (hb : Snd C b) : Snd C (.bin o a b) := Snd.mk0 (f := fun cf sc => isBin o (chk cf a sc).e (chk cf b sc).e) (fun _ _ => rfl) rfl rfl rfl (fun _ _ _ h => by obtain ⟨_, _, _, rfl, _⟩ := isBin_of h; rfl) fun cx x h => by
  obtain ⟨x, y, p, rfl, h1, h2⟩ := isBin_of h
  exact de_bin cx.K (ha.b cx x h1) (hb.b cx y h2) rfl
def isNeg (a : Expr → Bool) (e : Expr) : Bool := match e with
  | .UnaryOp .USub x _ => a x
  | _ => false
theorem isNeg_of {a : Expr → Bool} {e : Expr} (h : isNeg a e = true) : ∃ x p, e = .UnaryOp .USub x p ∧ a x = true := by
  unfold isNeg at h
  split at h
  · exact ⟨_, _, rfl, h⟩
  · cases h
theorem snd_neg {a : E} (ha : Snd C a) : Snd C (.neg a) := Snd.mk0 (f := fun cf sc => isNeg (chk cf a sc).e) (fun _ _ => rfl) rfl rfl rfl (fun _ _ _ h => by obtain ⟨_, _, rfl, _⟩ := isNeg_of h; rfl) fun cx x h => by
  obtain ⟨x, p, rfl, h1⟩ := isNeg_of h
  exact de_neg (ha.v cx x h1)
def isCmp (o : COp) (a b : Expr → Bool) (e : Expr) : Bool := match e with
  | .Compare x [op] [y] _ => decide (op = pyC o) && a x && b y && noSet y
  | _ => false
theorem isCmp_of {o : COp} {a b : Expr → Bool} {e : Expr} (h : isCmp o a b e = true) : ∃ x y p, e = .Compare x [pyC o] [y] p ∧ a x = true ∧ b y = true ∧ noSet y = true := by
  unfold isCmp at h
  split at h
  · simp only [Bool.and_eq_true, decide_eq_true_eq] at h
    obtain ⟨⟨⟨rfl, h1⟩, h2⟩, h3⟩ := h
    exact ⟨_, _, _, rfl, h1, h2, h3⟩
  · cases h
theorem snd_cmp (o : COp) {a b : E} (ha : Snd C a) (hb : Snd C b) : Snd C (.cmp o a b) := Snd.mk1 (f := fun cf sc => isCmp o (chk cf a sc).e (chk cf b sc).e) (fun _ _ => rfl) rfl rfl rfl (fun cx x h => by
    obtain ⟨x, y, p, rfl, h1, h2, h3⟩ := isCmp_of h
    exact de_cmp cx (ha.b cx x h1) (hb.b cx y h2) rfl h3) (fun cx x h => by
    obtain ⟨x, y, p, rfl, h1, h2, h3⟩ := isCmp_of h
    rw [orB_pl rfl]
    exact rdB_of (de_cmp cx (ha.b cx x h1) (hb.b cx y h2) rfl h3)) (fun cx x h => by
    obtain ⟨x, y, p, rfl, h1, h2, h3⟩ := isCmp_of h
    rw [argA_pl rfl]
    exact de_argV (de_cmp cx (ha.b cx x h1) (hb.b cx y h2) rfl h3)) fun cx x h => by
    obtain ⟨x, y, p, rfl, h1, h2, h3⟩ := isCmp_of h
    have := dt_cmp (pos := p) cx (ha.b cx x h1) (hb.b cx y h2) (eb := b) rfl h3 (o := o)
    exact this
theorem sndq_cmp (o : COp) {a b : E} (ha : Snd C a) (hb : Snd C b) : SndQ C (.cmp o a b) := fun hq {cf X G W cls} cx x h => by
  have hq : (quiet a && quiet b) = true := hq
  rw [Bool.and_eq_true] at hq
  obtain ⟨x, y, p, rfl, h1, h2, h3⟩ := isCmp_of h
  have h4 := ha.b cx x h1
  have h5 := hb.b cx y h2
  rw [hq.1] at h4
  rw [hq.2] at h5
  have := dt_cmpQ (pos := p) cx h4 h5 (eb := b) hq.2.symm h3 (o := o)
  exact this
def isChn (o o' : COp) (a b c : Expr → Bool) (e : Expr) : Bool := match e with
  | .Compare x [op, op'] [y, z] _ => decide (op = pyC o) && decide (op' = pyC o') && a x && b y && c z && noSet z
  | _ => false
theorem isChn_of {o o' : COp} {a b c : Expr → Bool} {e : Expr} (h : isChn o o' a b c e = true) : ∃ x y z p, e = .Compare x [pyC o, pyC o'] [y, z] p ∧ a x = true ∧ b y = true ∧ c z = true ∧ noSet z = true := by
  unfold isChn at h
  split at h
  · simp only [Bool.and_eq_true, decide_eq_true_eq] at h
    obtain ⟨⟨⟨⟨⟨rfl, rfl⟩, h1⟩, h2⟩, h3⟩, h4⟩ := h
    exact ⟨_, _, _, _, rfl, h1, h2, h3, h4⟩
  · cases h
theorem last_marks {o o' : CmpOp} {y z : Expr} (h : noSet z = true) : lastMarks [o, o'] [y, z] = false := by
  cases z <;> first | rfl | (cases h)
theorem snd_chn (o o' : COp) {a b c : E} (ha : Snd C a) (hb : Snd C b) (hc : Snd C c) : Snd C (.chn o o' a b c) := Snd.mk1 (f := fun cf sc => isChn o o' (chk cf a sc).e (chk cf b sc).e (chk cf c sc).e) (fun _ _ => rfl) rfl rfl rfl (fun cx x h => by
    obtain ⟨x, y, z, p, rfl, h1, h2, h3, h4⟩ := isChn_of h
    exact de_chn cx (ha.v cx x h1) (hb.v cx y h2) (hc.v cx z h3) (last_marks h4)) (fun cx x h => by
    obtain ⟨x, y, z, p, rfl, h1, h2, h3, h4⟩ := isChn_of h
    rw [orB_pl rfl]
    exact rdB_of (de_chn cx (ha.v cx x h1) (hb.v cx y h2) (hc.v cx z h3) (last_marks h4))) (fun cx x h => by
    obtain ⟨x, y, z, p, rfl, h1, h2, h3, h4⟩ := isChn_of h
    rw [argA_pl rfl]
    exact de_argV (de_chn cx (ha.v cx x h1) (hb.v cx y h2) (hc.v cx z h3) (last_marks h4))) fun cx x h => by
    obtain ⟨x, y, z, p, rfl, h1, h2, h3, h4⟩ := isChn_of h
    exact dt_chn cx (ha.v cx x h1) (hb.v cx y h2) (hc.v cx z h3) (last_marks h4)
def isNot (a : Expr → Bool) (e : Expr) : Bool := match e with
  | .UnaryOp .Not x _ => a x
  | _ => false
theorem isNot_of {a : Expr → Bool} {e : Expr} (h : isNot a e = true) : ∃ x p, e = .UnaryOp .Not x p ∧ a x = true := by
  unfold isNot at h
  split at h
  · exact ⟨_, _, rfl, h⟩
  · cases h
theorem snd_nt {a : E} (ha : Snd C a) : Snd C (.nt a) := Snd.mkT (f := fun cf sc => isNot (chk cf a sc).e) (fun _ _ => rfl) rfl rfl rfl (fun cx x h => by
    obtain ⟨x, p, rfl, h1⟩ := isNot_of h
    exact de_nt (ha.v cx x h1)) fun cx x h => by
    obtain ⟨x, p, rfl, h1⟩ := isNot_of h
    exact dt_nt (ha.t cx x h1)
def isIfe (c a b : Expr → Bool) (e : Expr) : Bool := match e with
  | .IfExp x y z _ => c x && a y && b z
  | _ => false
theorem isIfe_of {c a b : Expr → Bool} {e : Expr} (h : isIfe c a b e = true) : ∃ x y z p, e = .IfExp x y z p ∧ c x = true ∧ a y = true ∧ b z = true := by
  unfold isIfe at h
  split at h
  · simp only [Bool.and_eq_true] at h
    exact ⟨_, _, _, _, rfl, h.1.1, h.1.2, h.2⟩
  · cases h
theorem pt_st {X : Cx} {G : Gh} {W : WX} {cls : String → Addr} {x : Expr} : PT X x (rdT G W cls fun _ => .st) := ⟨fun pins s σ H Q I ⟨env, fp, se, T⟩ => T.elim⟩
theorem snd_ife {c a b : E} (hc : Snd C c) (hcq : SndQ C c) (ha : Snd C a) (hb : Snd C b) : Snd C (.ife c a b) := Snd.mkT (f := fun cf sc => isIfe (chk cf c sc).e (chk cf a sc).e (chk cf b sc).e) (fun _ _ => rfl) rfl rfl rfl (fun cx x h => by
    obtain ⟨x, y, z, p, rfl, h1, h2, h3⟩ := isIfe_of h
    rw [quiet_ife]
    cases hq : qT c with
    | true =>
      have := de_ifeQ (pos := p) (hcq hq cx x h1) (ha.v cx y h2) (hb.v cx z h3)
      simpa using this
    | false =>
      have := de_ife (pos := p) (hc.t cx x h1) (ha.v cx y h2) (hb.v cx z h3)
      simpa using this) fun cx x h => pt_st
end
end DL

/-! DL14: every term's reading holds where the check says so (2). -/
namespace DL
open PySem PySem.Spec PyProof.Rows L2
section
variable {C : Calls}
theorem noSet_f {e : Expr} {env : PySem.Env} (h : noSet e = true) : ∀ x, foldedSetIterable e env x = pure x := by
  intro x
  cases e <;> first | rfl | (cases h)
/-! ### and, or -/
def anL (a : Expr → Bool) (b : List Expr → Bool) (l : List Expr) : Bool := match l with
  | x :: y :: r => a x && b (y :: r)
  | _ => false
def isAnd (l : List Expr → Bool) (e : Expr) : Bool := match e with
  | .BoolOp .And xs _ => l xs
  | _ => false
def isOr (l : List Expr → Bool) (e : Expr) : Bool := match e with
  | .BoolOp .Or xs _ => l xs
  | _ => false
theorem anL_of {a : Expr → Bool} {b : List Expr → Bool} {l : List Expr} (h : anL a b l = true) : ∃ x y r, l = x :: y :: r ∧ a x = true ∧ b (y :: r) = true := by
  unfold anL at h
  split at h
  · rw [Bool.and_eq_true] at h; exact ⟨_, _, _, rfl, h.1, h.2⟩
  · cases h
theorem isAnd_of {l : List Expr → Bool} {e : Expr} (h : isAnd l e = true) : ∃ xs p, e = .BoolOp .And xs p ∧ l xs = true := by
  unfold isAnd at h
  split at h
  · exact ⟨_, _, rfl, h⟩
  · cases h
theorem isOr_of {l : List Expr → Bool} {e : Expr} (h : isOr l e = true) : ∃ xs p, e = .BoolOp .Or xs p ∧ l xs = true := by
  unfold isOr at h
  split at h
  · exact ⟨_, _, rfl, h⟩
  · cases h
theorem chk_an {cf : Cf} {a b : E} {sc : Scope} : chk cf (.an a b) sc = { dfC (isAnd (anL (chk cf a sc).e (chk cf b sc).an)) with an := fun xs => anL (chk cf a sc).e (chk cf b sc).an xs || one1 (isAnd (anL (chk cf a sc).e (chk cf b sc).an)) xs } := rfl
theorem chk_orr {cf : Cf} {a b : E} {sc : Scope} : chk cf (.orr a b) sc = { dfC (isOr (anL (chk cf a sc).e (chk cf b sc).orr)) with orr := fun xs => anL (chk cf a sc).e (chk cf b sc).orr xs || one1 (isOr (anL (chk cf a sc).e (chk cf b sc).orr)) xs } := rfl
section
variable {a b : E} {cf : Cf} {X : Cx} {G : Gh} {W : WX} {cls : String → Addr}
theorem an_core (ha : Snd C a) (hb : Snd C b) (cx : Ctx cf X G C W cls) {l : List Expr} {pos : Pos} (h : anL (chk cf a X.env.scope).e (chk cf b X.env.scope).an l = true) :
    PE X (.BoolOp .And l pos) (rdV G W cls false (den C (.an a b)).v) ∧ PW X (.BoolOp .And l pos) (rdT G W cls (den C (.an a b)).t) := by
  obtain ⟨x, y, r, rfl, h1, h2⟩ := anL_of h
  have hb' := hb.an cx (y :: r) pos h2
  exact ⟨de_an (ha.v cx x h1) hb'.1, dt_an (ha.t cx x h1) hb'.2⟩
theorem orr_core (ha : Snd C a) (hb : Snd C b) (cx : Ctx cf X G C W cls) {l : List Expr} {pos : Pos} (h : anL (chk cf a X.env.scope).e (chk cf b X.env.scope).orr l = true) :
    PE X (.BoolOp .Or l pos) (rdV G W cls false (den C (.orr a b)).v) ∧ PW X (.BoolOp .Or l pos) (rdT G W cls (den C (.orr a b)).t) := by
  obtain ⟨x, y, r, rfl, h1, h2⟩ := anL_of h
  have hb' := hb.orr cx (y :: r) pos h2
  exact ⟨de_orr (ha.v cx x h1) hb'.1, dt_orr (ha.t cx x h1) hb'.2⟩
end
theorem snd_an {a b : E} (ha : Snd C a) (hb : Snd C b) : Snd C (.an a b) where
  v := fun cx x h => by
    obtain ⟨xs, p, rfl, h⟩ := isAnd_of h
    exact (an_core ha hb cx h).1
  b := fun cx x h => by
    obtain ⟨xs, p, rfl, h⟩ := isAnd_of h
    rw [orB_pl rfl]
    exact rdB_of (an_core ha hb cx h).1
  t := fun cx x h => by
    obtain ⟨xs, p, rfl, h⟩ := isAnd_of h
    exact (an_core ha hb cx h).2.pt
  s := fun cx l h => by cases h
  sl := fun l h => by cases h
  n := fun cx l h => by cases h
  nl := fun l h => by cases h
  a := fun cx l h => by cases h
  ar := fun cx x h => by
    obtain ⟨xs, p, rfl, h⟩ := isAnd_of h
    rw [argA_pl rfl]
    exact de_argV (an_core ha hb cx h).1
  o := fun cx x h => by
    obtain ⟨y, rfl, h⟩ := some1_of h
    obtain ⟨xs, p, rfl, h⟩ := isAnd_of h
    exact do_some (an_core ha hb cx h).1
  an := fun cx l pos h => by
    rw [chk_an] at h
    rcases (Bool.or_eq_true _ _ |>.mp h) with h | h
    · exact an_core ha hb cx h
    · obtain ⟨y, rfl, h, _⟩ := one1_of h
      obtain ⟨xs, p, rfl, h⟩ := isAnd_of h
      exact ⟨pe_one (an_core ha hb cx h).1, pw_and1 (an_core ha hb cx h).2.pt⟩
  orr := fun cx l pos h => by
    obtain ⟨y, rfl, h, _⟩ := one1_of h
    obtain ⟨xs, p, rfl, h⟩ := isAnd_of h
    exact ⟨pe_one (an_core ha hb cx h).1, pw_or1 (an_core ha hb cx h).2.pt⟩
  i := fun cx tg x h => by
    have h' := (Bool.and_eq_true _ _ |>.mp h).1
    obtain ⟨xs, p, rfl, h2⟩ := isAnd_of h'
    exact di_walk cx.K (an_core ha hb cx h2).1
theorem snd_orr {a b : E} (ha : Snd C a) (hb : Snd C b) : Snd C (.orr a b) where
  v := fun cx x h => by
    obtain ⟨xs, p, rfl, h⟩ := isOr_of h
    exact (orr_core ha hb cx h).1
  b := fun cx x h => by
    obtain ⟨xs, p, rfl, h⟩ := isOr_of h
    rw [orB_pl rfl]
    exact rdB_of (orr_core ha hb cx h).1
  t := fun cx x h => by
    obtain ⟨xs, p, rfl, h⟩ := isOr_of h
    exact (orr_core ha hb cx h).2.pt
  s := fun cx l h => by cases h
  sl := fun l h => by cases h
  n := fun cx l h => by cases h
  nl := fun l h => by cases h
  a := fun cx l h => by cases h
  ar := fun cx x h => by
    obtain ⟨xs, p, rfl, h⟩ := isOr_of h
    rw [argA_pl rfl]
    exact de_argV (orr_core ha hb cx h).1
  o := fun cx x h => by
    obtain ⟨y, rfl, h⟩ := some1_of h
    obtain ⟨xs, p, rfl, h⟩ := isOr_of h
    exact do_some (orr_core ha hb cx h).1
  orr := fun cx l pos h => by
    rw [chk_orr] at h
    rcases (Bool.or_eq_true _ _ |>.mp h) with h | h
    · exact orr_core ha hb cx h
    · obtain ⟨y, rfl, h, _⟩ := one1_of h
      obtain ⟨xs, p, rfl, h⟩ := isOr_of h
      exact ⟨pe_one (orr_core ha hb cx h).1, pw_or1 (orr_core ha hb cx h).2.pt⟩
  an := fun cx l pos h => by
    obtain ⟨y, rfl, h, _⟩ := one1_of h
    obtain ⟨xs, p, rfl, h⟩ := isOr_of h
    exact ⟨pe_one (orr_core ha hb cx h).1, pw_and1 (orr_core ha hb cx h).2.pt⟩
  i := fun cx tg x h => by
    have h' := (Bool.and_eq_true _ _ |>.mp h).1
    obtain ⟨xs, p, rfl, h2⟩ := isOr_of h'
    exact di_walk cx.K (orr_core ha hb cx h2).1

/-! ### subscripts -/
theorem D1.rd {K : PySem.W.Frag} {Cl : CW} {H : Hp} {d : D1} {v : V} {f : List Addr} (h : RD1 H d v f) : RD K Cl H d.d v f := by
  cases d with
  | p x => exact h
  | ml xs => exact h
theorem de_ixP {X : Cx} {G : Gh} {W : WX} {cls : String → Addr} (hK : X.K = G.K) {a i : Expr} {j : Nat} {ti : Env → R D} {pos : Pos} (ha : PE X a (tVar j)) (hi : PE X i (rdV G W cls true ti)) (hp : PlainIx i) :
    PE X (.Subscript a i pos) (fun σ H Q => ∃ env fp xs jj d, SE G H σ env fp ∧ (gt env j).rd = some (.ne xs) ∧ ti env = .ok (.p (.int jj)) env ∧ atI xs jj = some d ∧
      ∀ v H' fp' fd, SE G H' σ env fp' → RD G.K G.Cl H' d.d v fd → Stp (In fp) H (In fp') H' → L2.Same H H' ∧ env = env → Q v H') := by
  refine PE_imp (pe_ix ix_list ha hi hp) fun σ H Q ⟨env, fp, xs, jj, d, se, hx, hti, hat, T⟩ => ?_
  obtain ⟨v, f, h1, rd, _⟩ := se.rd hx
  refine ⟨v, h1, env, fp, se, ?_⟩
  rw [hti]
  intro y H1 fp1 fd1 se1 rd1 nd1 ap1 st1 sm1
  obtain ⟨sm, _⟩ := sm1 rfl
  have rd := rd.keep (same_keep sm f)
  obtain ⟨b, vs, f', rfl, q1, s1, _⟩ := rd
  obtain ⟨n, _, hn, hv⟩ := atI_n s1.length hat
  obtain ⟨w, g, e1, q2, _⟩ := s1.at hn
  exact ⟨b, vs, jj, w, rfl, rd1.ofp.int, SqL.of q1, hv w e1, T w H1 fp1 g se1 (D1.rd q2) st1.drop ⟨sm, rfl⟩⟩
def isIx (a i : Expr → Bool) (e : Expr) : Bool := match e with
  | .Subscript x y _ => a x && i y && nsl y
  | _ => false
theorem isIx_of {a i : Expr → Bool} {e : Expr} (h : isIx a i e = true) : ∃ x y p, e = .Subscript x y p ∧ a x = true ∧ i y = true ∧ nsl y = true := by
  unfold isIx at h
  split at h
  · simp only [Bool.and_eq_true] at h; exact ⟨_, _, _, rfl, h.1.1, h.1.2, h.2⟩
  · cases h
theorem negIx_den {k : E} {j : Int} (h : negIx k = some j) : (∀ env, (den C k).v env = .ok (.p (.int j)) env) ∧ quiet k = true := by
  unfold negIx at h
  split at h
  · cases h; exact ⟨fun _ => rfl, rfl⟩
  · cases h; exact ⟨fun _ => rfl, rfl⟩
  · cases h
theorem brw_ix {a i : E} {env : Env} {d : D} (h : brw (.ix a i) env = some d) : ∃ n xs jj d1, a = .v n ∧ (gt env n).rd = some (.ne xs) ∧ negIx i = some jj ∧ atI xs jj = some d1 ∧ d = d1.d := by
  cases a with
  | v n =>
    simp only [brw] at h
    split at h
    · rename_i xs hx
      split at h
      · rename_i jj hj
        obtain ⟨d1, h1, rfl⟩ := Option.map_eq_some_iff.mp h
        exact ⟨n, xs, jj, d1, rfl, hx, hj, h1, rfl⟩
      · cases h
    · cases h
  | _ => cases h
theorem ix_b {a i : E} (ha : Snd C a) (hi : Snd C i) {cf : Cf} {X : Cx} {G : Gh} {W : WX} {cls : String → Addr} (cx : Ctx cf X G C W cls) (x : Expr) (h : isIx (chk cf a X.env.scope).e (chk cf i X.env.scope).e x = true) :
    PE X x (rdB G W cls (quiet (.ix a i)) (orB (.ix a i) (den C (.ix a i)).v)) := by
  obtain ⟨x, y, p, rfl, h1, h2, h3⟩ := isIx_of h
  have base := rdB_of (de_ix (pos := p) cx (ha.b cx x h1) (hi.v cx y h2) rfl (nsl_plain h3))
  refine ⟨fun pins s σ H Q I ⟨env, fp, se, T⟩ => ?_⟩
  cases hb : brw (.ix a i) env with
  | none =>
    refine base.run pins s σ H Q I ⟨env, fp, se, ?_⟩
    simp only [orB, hb] at T
    exact T
  | some d =>
    simp only [orB, hb] at T
    obtain ⟨n, xs, jj, d1, rfl, hx, hj, hat, rfl⟩ := brw_ix hb
    obtain ⟨hd, hq⟩ := negIx_den (C := C) hj
    have hi2 := hi.v cx y h2
    rw [hq] at hi2
    exact (de_ixP (pos := p) cx.K (slot_pe cx h1) hi2 (nsl_plain h3)).run pins s σ H Q I ⟨env, fp, xs, jj, d1, se, hx, hd env, hat, fun v H' fp' fd se' rd st sm => T v H' fp' fd se' rd st fun _ => sm⟩
theorem snd_ix {a i : E} (ha : Snd C a) (hi : Snd C i) : Snd C (.ix a i) := Snd.mk1 (f := fun cf sc => isIx (chk cf a sc).e (chk cf i sc).e) (fun _ _ => rfl) rfl rfl rfl (fun cx x h => by
    obtain ⟨x, y, p, rfl, h1, h2, h3⟩ := isIx_of h
    exact de_ix cx (ha.b cx x h1) (hi.v cx y h2) rfl (nsl_plain h3)) (fun cx x h => ix_b ha hi cx x h) (fun cx x h => by
    obtain ⟨x, y, p, rfl, h1, h2, h3⟩ := isIx_of h
    rw [argA_pl rfl]
    exact de_argV (de_ix cx (ha.b cx x h1) (hi.v cx y h2) rfl (nsl_plain h3))) fun cx x h => by
    have pt : plainT x = true := by obtain ⟨x, y, p, rfl, _⟩ := isIx_of h; rfl
    exact dt_plain cx.K (ix_b ha hi cx x h) (plain_true pt)
/-- an item of a list of lists, moved out: the list itself is gone -/
theorem de_mvi {X : Cx} {G : Gh} {W : WX} {cls : String → Addr} (hK : X.K = G.K) {a i : Expr} {j : Nat} {k : E} {ti : Env → R D} {pos : Pos} (ha : PE X a (tVar j)) (hi : PE X i (rdV G W cls true ti)) (hp : PlainIx i) (hk : ∀ jj, negIx k = some jj → ∀ env, ti env = .ok (.p (.int jj)) env) :
    PE X (.Subscript a i pos) (rdV G W cls false (evMvi j k)) := by
  refine PE_imp (pe_ix ix_list ha hi hp) fun σ H Q ⟨env, fp, se, T⟩ => ?_
  unfold evMvi at T
  split at T
  · rename_i xs hx
    split at T
    · rename_i jj hj
      split at T
      · rename_i d hat
        obtain ⟨v, h1, _⟩ := se.ow hx
        refine ⟨v, h1, env, fp, se, ?_⟩
        rw [hk jj hj]
        intro y H1 fp1 fd1 se1 rd1 nd1 ap1 st1 sm1
        obtain ⟨v', h1', rd'⟩ := se1.ow hx
        rw [h1] at h1'
        cases h1'
        have se' := se1.put (i := j) (s := .no) (o := some v) (f := []) (ow_lt hx) ⟨fun _ _ h => h, fun _ _ _ h => h⟩ (fun _ _ _ h => h) rfl .nil (fun _ z => nomatch z)
        rw [σ_set h1] at se'
        obtain ⟨b, vs, f', rfl, q1, s1, ef⟩ := rd'
        obtain ⟨n, _, hn, hv⟩ := atI_n s1.length hat
        obtain ⟨w, g, e1, q2, sg⟩ := s1.at hn
        have gj : ∀ c ∈ g, c ∈ fp1 j := fun c hc => by rw [ef]; exact List.mem_cons_of_mem _ (sg c hc)
        have gn : g.Nodup := by
          cases d with
          | p x => rw [q2.2]; exact .nil
          | ml ys => obtain ⟨_, _, _, _, _, e⟩ := q2; rw [e]; simp
        refine ⟨b, vs, jj, w, rfl, rd1.ofp.int, SqL.of q1, hv w e1, T w H1 _ g se' (D1.rd q2) gn (fun c hc => ⟨fun ⟨l, hl⟩ => ?_, fun hz => (se1.zz c hz).1 ⟨j, gj c hc⟩⟩) (st1.drop.less fun c hc => ?_) nq⟩
        · by_cases e : l = j
          · simp only [if_pos e] at hl; cases hl
          · simp only [if_neg e] at hl; exact e (se1.dj l j c hl (gj c hc))
        · rcases hc with ⟨l, hl⟩ | hc
          · by_cases e : l = j
            · simp only [if_pos e] at hl; cases hl
            · simp only [if_neg e] at hl; exact ⟨l, hl⟩
          · exact ⟨j, gj c hc⟩
      · exact T.elim
    · exact T.elim
  · exact T.elim
def isMvi (cf : Cf) (sc : Scope) (i : Nat) (k : Expr → Bool) (e : Expr) : Bool := match e with
  | .Subscript x y _ => slotB cf sc i x && k y && nsl y
  | _ => false
theorem snd_mvi (i : Nat) {k : E} (hk : Snd C k) : Snd C (.mvi i k) := Snd.mk0 (f := fun cf sc e => isMvi cf sc i (chk cf k sc).e e && (negIx k).isSome) (fun _ _ => rfl) rfl rfl rfl (fun _ _ _ h => by
    unfold isMvi at h
    split at h
    · rfl
    · simp at h) fun cx x h => by
  obtain ⟨h, hs⟩ := Bool.and_eq_true _ _ |>.mp h
  unfold isMvi at h
  split at h
  · rename_i x y p _
    simp only [Bool.and_eq_true] at h
    obtain ⟨⟨h1, h2⟩, h3⟩ := h
    obtain ⟨jj, hj⟩ := Option.isSome_iff_exists.mp hs
    have hi2 := hk.v cx y h2
    rw [(negIx_den (C := C) hj).2] at hi2
    exact de_mvi cx.K (slot_pe cx h1) hi2 (nsl_plain h3) fun l hl env => (negIx_den (C := C) hl).1 env
  · simp at h
def isSl (a : Expr → Bool) (lo hi : Option Expr → Bool) (e : Expr) : Bool := match e with
  | .Subscript x (.Slice l h none _) _ => a x && lo l && hi h
  | _ => false
theorem isSl_of {a : Expr → Bool} {lo hi : Option Expr → Bool} {e : Expr} (h : isSl a lo hi e = true) : ∃ x l u p p2, e = .Subscript x (.Slice l u none p) p2 ∧ a x = true ∧ lo l = true ∧ hi u = true := by
  unfold isSl at h
  split at h
  · simp only [Bool.and_eq_true] at h; exact ⟨_, _, _, _, _, rfl, h.1.1, h.1.2, h.2⟩
  · cases h
theorem snd_sl {a lo hi : E} (ha : Snd C a) (hl : Snd C lo) (hh : Snd C hi) : Snd C (.sl a lo hi) := Snd.mk0 (f := fun cf sc => isSl (chk cf a sc).e (chk cf lo sc).o (chk cf hi sc).o) (fun _ _ => rfl) rfl rfl rfl (fun _ _ _ h => by obtain ⟨_, _, _, _, _, rfl, _⟩ := isSl_of h; rfl) fun cx x h => by
  obtain ⟨x, l, u, p, p2, rfl, h1, h2, h3⟩ := isSl_of h
  exact de_sl cx.K (ha.b cx x h1) (hl.o cx l h2) (hh.o cx u h3) rfl rfl

/-! ### calls -/
theorem call1_of {f : Expr → Bool} {a : List Expr → Bool} {e : Expr} (h : call1 f a e = true) : ∃ g x xs p, e = .Call g (x :: xs) [] p ∧ f g = true ∧ a (x :: xs) = true := by
  unfold call1 at h
  split at h
  · rw [Bool.and_eq_true] at h; exact ⟨_, _, _, _, rfl, h.1, h.2⟩
  · cases h
theorem all_nst (es : E) : ∀ {cf : Cf} {sc : Scope} {l : List Expr}, (chk cf es sc).l l = true → ∀ x ∈ l, nst x = true := by
  induction es with
  | nil => intro cf sc l h x hx; cases l with | nil => cases hx | cons _ _ => cases h
  | cons e es _ ih =>
    intro cf sc l h x hx
    obtain ⟨y, r, rfl, h1, h2, h3⟩ := cons_l h
    rcases List.mem_cons.mp hx with rfl | hx
    · exact h2
    · exact ih h3 x hx
  | _ => intro cf sc l h; cases h
theorem pl_nst {pos : Pos} {env : PySem.Env} : ∀ {l : List Expr}, (∀ x ∈ l, nst x = true) → (backTo pos (starEach l env)).any (·.1) = false
  | [], _ => rfl
  | x :: l, h => by
    rw [nst_star (h x (by simp))]
    have := pl_nst (pos := pos) (env := env) (l := l) fun y hy => h y (by simp [hy])
    simp only [backTo, List.map_cons, List.any_cons] at this ⊢
    simpa using this
theorem snd_call {f : String} {es : E} (he : Snd C es) : Snd C (.call f es) := Snd.mk0 (f := fun cf sc e => call1 (glName sc f) (chk cf es sc).l e && decide (f ∈ cf.funs) && !cf.hot) (fun _ _ => rfl) rfl rfl rfl (fun _ _ _ h => by
    simp only [Bool.and_eq_true] at h
    obtain ⟨_, _, _, _, rfl, _⟩ := call1_of h.1.1
    rfl) fun cx x h => by
  simp only [Bool.and_eq_true, decide_eq_true_eq, Bool.not_eq_true'] at h
  obtain ⟨⟨h1, h2⟩, h3⟩ := h
  obtain ⟨g, x, xs, p, rfl, h4, h5⟩ := call1_of h1
  have al := all_nst es h5
  exact de_call cx (he.a cx _ h5) h4 h2 h3 (nst_star (al x (by simp))) (pl_nst fun y hy => al y (by simp [hy]))
def b1Ok (hot : Bool) (f : B1) : Bool := match f with
  | .any => !hot
  | .all => !hot
  | .lenset => false
  | _ => true
theorem snd_b1 (f : B1) {a : E} (ha : Snd C a) : Snd C (.b1 f a) := Snd.mk0 (f := fun cf sc e => call1 (glName sc (nameB1 f)) (one1 (chk cf a sc).e) e && b1Ok cf.hot f) (fun _ _ => rfl) rfl rfl rfl (fun _ _ _ h => by
    simp only [Bool.and_eq_true] at h
    obtain ⟨_, _, _, _, rfl, _⟩ := call1_of h.1
    rfl) fun cx x h => by
  simp only [Bool.and_eq_true] at h
  obtain ⟨h1, h2⟩ := h
  obtain ⟨g, x, xs, p, rfl, h4, h5⟩ := call1_of h1
  obtain ⟨y, e, h6, h7⟩ := one1_of h5
  cases e
  refine de_b1 cx (ha.b cx x h6) h4 (fun hf => cx.calm ?_) (fun e => ?_) (nst_star h7)
  · rcases hf with rfl | rfl <;> simpa [b1Ok] using h2
  · subst e; cases h2
theorem snd_lns {a : E} (ha : Snd C a) : Snd C (.lns a) := Snd.mk0 (f := fun cf sc e => call1 (glName sc "len") (one1 fun y => call1 (glName sc "set") (one1 (chk cf a sc).e) y) e && !cf.hot) (fun _ _ => rfl) rfl rfl rfl (fun _ _ _ h => by
    simp only [Bool.and_eq_true] at h
    obtain ⟨_, _, _, _, rfl, _⟩ := call1_of h.1
    rfl) fun cx x h => by
  simp only [Bool.and_eq_true, Bool.not_eq_true'] at h
  obtain ⟨g, x, xs, p, rfl, h4, h5⟩ := call1_of h.1
  obtain ⟨y, e, h6, h7⟩ := one1_of h5
  cases e
  obtain ⟨g2, z, zs, p2, rfl, h8, h9⟩ := call1_of h6
  obtain ⟨u, e, h10, h11⟩ := one1_of h9
  cases e
  exact de_lns cx (cx.calm h.2) (ha.v cx _ h10) h4 h8 (nst_star h11)
def isDix (kvs : List (Str × Str)) (i : Expr → Bool) (e : Expr) : Bool := match e with
  | .Subscript (.Dict ks vs _) y _ => dixB kvs ks vs && i y && nsl y
  | _ => false
theorem snd_dix (kvs : List (Str × Str)) {i : E} (hi : Snd C i) : Snd C (.dix kvs i) := Snd.mk0 (f := fun cf sc e => isDix kvs (chk cf i sc).e e && (decide (kvs.map (·.1)).Nodup && decide (kvs ≠ []) && decide (kvs.length ≤ 15))) (fun _ _ => rfl) rfl rfl rfl (fun _ _ _ h => by
    unfold isDix at h
    split at h
    · rfl
    · simp at h) fun cx x h => by
  obtain ⟨h, hs⟩ := Bool.and_eq_true _ _ |>.mp h
  simp only [Bool.and_eq_true, decide_eq_true_eq] at hs
  obtain ⟨⟨s1, s2⟩, s3⟩ := hs
  unfold isDix at h
  split at h
  · rename_i ks vs p1 y p _
    simp only [Bool.and_eq_true] at h
    obtain ⟨⟨h1, h2⟩, h3⟩ := h
    exact de_dix cx h1 s1 s2 s3 (hi.v cx y h2) (nsl_plain h3) cx.units
  · simp at h
theorem two_of {a b : Expr → Bool} {l : List Expr} (h : two a b l = true) : ∃ x y, l = [x, y] ∧ a x = true ∧ b y = true ∧ nst x = true ∧ nst y = true := by
  unfold two at h
  split at h
  · simp only [Bool.and_eq_true] at h; exact ⟨_, _, rfl, h.1.1.1, h.1.2, h.1.1.2, h.2⟩
  · cases h
theorem three_of {a b c : Expr → Bool} {l : List Expr} (h : three a b c l = true) : ∃ x y z, l = [x, y, z] ∧ a x = true ∧ b y = true ∧ c z = true ∧ nst x = true ∧ nst y = true ∧ nst z = true := by
  unfold three at h
  split at h
  · simp only [Bool.and_eq_true] at h; exact ⟨_, _, _, rfl, h.1.1.1.1.1, h.1.1.1.2, h.1.2, h.1.1.1.1.2, h.1.1.2, h.2⟩
  · cases h
theorem call1_pl {f : Expr → Bool} {a : List Expr → Bool} {e : Expr} (h : call1 f a e = true) : plainT e = true := by
  obtain ⟨_, _, _, _, rfl, _⟩ := call1_of h
  rfl
theorem snd_mx2 {a b : E} (ha : Snd C a) (hb : Snd C b) : Snd C (.mx2 a b) := Snd.mk0 (f := fun cf sc e => call1 (glName sc "max") (two (chk cf a sc).e (chk cf b sc).e) e && !cf.hot) (fun _ _ => rfl) rfl rfl rfl (fun _ _ _ h => call1_pl (Bool.and_eq_true _ _ |>.mp h).1) fun cx x h => by
  simp only [Bool.and_eq_true, Bool.not_eq_true'] at h
  obtain ⟨g, x, xs, p, rfl, h4, h5⟩ := call1_of h.1
  obtain ⟨y, z, e, h6, h7, h8, h9⟩ := two_of h5
  cases e
  exact de_mx2 cx h.2 (ha.v cx _ h6) (hb.v cx _ h7) h4 (nst_star h8) (nst_star h9)
theorem snd_mx3 {a b c : E} (ha : Snd C a) (hb : Snd C b) (hc : Snd C c) : Snd C (.mx3 a b c) := Snd.mk0 (f := fun cf sc e => call1 (glName sc "max") (three (chk cf a sc).e (chk cf b sc).e (chk cf c sc).e) e && !cf.hot) (fun _ _ => rfl) rfl rfl rfl (fun _ _ _ h => call1_pl (Bool.and_eq_true _ _ |>.mp h).1) fun cx x h => by
  simp only [Bool.and_eq_true, Bool.not_eq_true'] at h
  obtain ⟨g, x, xs, p, rfl, h4, h5⟩ := call1_of h.1
  obtain ⟨y, z, w, e, h6, h7, h8, h9, h10, h11⟩ := three_of h5
  cases e
  exact de_mx3 cx h.2 (ha.v cx _ h6) (hb.v cx _ h7) (hc.v cx _ h8) h4 (nst_star h9) (nst_star h10) (nst_star h11)
theorem isiB_nst {sc : Scope} {ts : List Ty} {one : Bool} {c : Expr} (h : isiB sc ts one c = true) : ts ≠ [] ∧ nst c = true := by
  rcases isiB_cases h with ⟨t, rfl, h0⟩ | ⟨es, k, p, rfl, h1, h2, _⟩
  · obtain ⟨p, rfl, _⟩ := gl_of h0
    exact ⟨by simp, rfl⟩
  · refine ⟨fun e => ?_, rfl⟩
    subst e
    cases es with
    | nil => cases h2
    | cons x r => cases h1
theorem isi_eq {e : E} {ts : List Ty} {i : Nat} {env : Env} (hi : isVar e = some i) (hb : ts.all isB = true) (hn : ts ≠ []) (C : Calls) {σ : L2.St} {H : Hp} {fp : Nat → List Addr} {G : Gh} {W : WX} {cls : String → Addr} {T : D → Env → Prop}
    (h : RQ G W cls σ H fp (isiS ts (gt env i) env) T) : RQ G W cls σ H fp ((orB e (den C e).v env).bind (isiD ts)) T := by
  have he : e = .v i := by
    cases e <;> first | (cases hi; rfl) | (cases hi)
  subst he
  have go : ∀ s : Sl, gt env i = s → (∀ c, s ≠ .xc c) → RQ G W cls σ H fp (isiS ts s env) T → RQ G W cls σ H fp ((orB (.v i) (den C (.v i)).v env).bind (isiD ts)) T := fun s hs nx h => by
    have hb2 : brw (.v i) env = s.rd := by simp only [brw, hs]
    unfold orB
    rw [hb2]
    unfold isiS at h
    split at h
    · exact absurd rfl (nx _)
    · cases q : s.rd with
      | none => rw [q] at h; exact h.elim
      | some d => rw [q] at h; exact h
  cases hs : gt env i with
  | xc c =>
    rw [hs] at h
    simp only [isiS] at h
    cases ts with
    | nil => exact absurd rfl hn
    | cons t r =>
      have ht : isB t = true := by simp only [List.all_cons, Bool.and_eq_true] at hb; exact hb.1
      rw [if_neg (by simp [ht])] at h
      exact h.elim
  | no => rw [hs] at h; exact go _ hs (fun c z => nomatch z) h
  | ow d => rw [hs] at h; exact go _ hs (fun c z => nomatch z) h
  | bo d => rw [hs] at h; exact go _ hs (fun c z => nomatch z) h
  | ro d => rw [hs] at h; exact go _ hs (fun c z => nomatch z) h
theorem isVar_of' {o : E} (h : (isVar o).isSome = true) : ∃ i, o = .v i := by
  cases o <;> first | exact ⟨_, rfl⟩ | (cases h)
theorem snd_isi {e : E} (ts : List Ty) (one : Bool) (he : Snd C e) : Snd C (.isi e ts one) := Snd.mk0 (f := fun cf sc x => call1 (glName sc "isinstance") (two (chk cf e sc).e (isiB sc ts one)) x && isiOk cf e ts) (fun _ _ => rfl) rfl rfl rfl (fun _ _ _ h => call1_pl (Bool.and_eq_true _ _ |>.mp h).1) fun {cf X G W cls} cx x h => by
  rw [Bool.and_eq_true] at h
  obtain ⟨h1, hk⟩ := h
  obtain ⟨g, x, xs, p, rfl, h4, h5⟩ := call1_of h1
  obtain ⟨y, z, e', h6, h7, h8, h9⟩ := two_of h5
  cases e'
  simp only [isiOk, Bool.or_eq_true, Bool.and_eq_true, Bool.not_eq_true'] at hk
  rcases hk with ⟨h2, h3⟩ | ⟨⟨h2, h3⟩, h10⟩
  · have base := de_isi (pos := p) cx (he.b cx _ h6) h4 h7 h3 (nst_star h8)
    refine PE_imp base fun σ H Q ⟨env, fp, se, T⟩ => ⟨env, fp, se, ?_⟩
    cases hi : isVar e with
    | none => simp only [hi] at T; exact T
    | some i => simp only [hi] at T; exact isi_eq hi h3 (isiB_nst h7).1 C T
  · obtain ⟨i, rfl⟩ := isVar_of' h10
    exact de_isx cx (slot_pe cx h6) h4 h7 h3 (isiB_nst h7).1 (nst_star h8)
/-! ### attributes -/
theorem attB_of {n : Str} {o : Expr → Bool} {e : Expr} (h : attB n o e = true) : ∃ x p, e = .Attribute x n p ∧ o x = true ∧ nbs x = true := by
  unfold attB at h
  split at h
  · simp only [Bool.and_eq_true, decide_eq_true_eq] at h
    obtain ⟨⟨rfl, h1⟩, h2⟩ := h
    exact ⟨_, _, rfl, h1, h2⟩
  · cases h
theorem fld_v {f : Fld} {o : E} (ho : Snd C o) {cf : Cf} {X : Cx} {G : Gh} {W : WX} {cls : String → Addr} (cx : Ctx cf X G C W cls) (x : Expr) (h : (attB f.name (chk cf o X.env.scope).e x && cf.mach) = true) : PE X x (rdV G W cls (quiet (.fld o f)) (den C (.fld o f)).v) := by
  rw [Bool.and_eq_true] at h
  obtain ⟨y, p, rfl, h1, h2⟩ := attB_of h.1
  have cl := cx.cl h.2
  cases o with
  | v i => exact de_fldV cl (slot_pe cx h1) (nbs_base h2)
  | _ => exact de_fldT cl (ho.v cx y h1) (nbs_base h2)
theorem fld_b {f : Fld} {o : E} (ho : Snd C o) {cf : Cf} {X : Cx} {G : Gh} {W : WX} {cls : String → Addr} (cx : Ctx cf X G C W cls) (x : Expr) (h : (attB f.name (chk cf o X.env.scope).e x && cf.mach) = true) : PE X x (rdB G W cls (quiet (.fld o f)) (orB (.fld o f) (den C (.fld o f)).v)) := by
  rw [Bool.and_eq_true] at h
  obtain ⟨y, p, rfl, h1, h2⟩ := attB_of h.1
  have cl := cx.cl h.2
  cases o with
  | v i =>
    refine de_fldB cl (slot_pe cx h1) (nbs_base h2) fun env hb => ?_
    simp only [den, dflt, hb]
    exact evV_fld f i env
  | _ => exact rdB_of (de_fldT cl (ho.v cx y h1) (nbs_base h2))
theorem snd_fld (f : Fld) {o : E} (ho : Snd C o) : Snd C (.fld o f) := Snd.mk1 (f := fun cf sc x => attB f.name (chk cf o sc).e x && cf.mach) (fun _ _ => rfl) rfl rfl rfl (fun cx x h => fld_v ho cx x h) (fun cx x h => fld_b ho cx x h)
  (fun cx x h => by rw [argA_pl rfl]; exact de_argV (fld_v ho cx x h)) fun cx x h => dt_plain cx.K (fld_b ho cx x h) (plain_true (by
    rw [Bool.and_eq_true] at h
    obtain ⟨y, p, rfl, _⟩ := attB_of h.1
    rfl))
/-! ### methods -/
theorem methB_of {attr : Str} {o : Expr → Bool} {a : List Expr → Bool} {e : Expr} (h : methB attr o a e = true) : ∃ x apos xs cpos, e = .Call (.Attribute x attr apos) xs [] cpos ∧ o x = true ∧ nbs x = true ∧ a xs = true ∧ (apos.endLine == cpos.line) = true := by
  unfold methB at h
  split at h
  · simp only [Bool.and_eq_true, decide_eq_true_eq] at h
    obtain ⟨⟨⟨⟨rfl, h1⟩, h2⟩, h3⟩, h4⟩ := h
    exact ⟨_, _, _, _, rfl, h1, h2, h3, h4⟩
  · cases h
theorem methB_pl {attr : Str} {o : Expr → Bool} {a : List Expr → Bool} {e : Expr} (h : methB attr o a e = true) : plainT e = true := by
  obtain ⟨_, _, _, _, rfl, _⟩ := methB_of h
  rfl
theorem isVar_of {o : E} (h : (isVar o).isSome = true) : ∃ i, o = .v i := by
  cases o <;> first | exact ⟨_, rfl⟩ | (cases h)
/-- a place is read -/
theorem pl_pe {cf : Cf} {X : Cx} {G : Gh} {W : WX} {cls : String → Addr} (cx : Ctx cf X G C W cls) {p : E} {x : Expr} (hp : isPl p = true) (h : (chk cf p X.env.scope).e x = true) : PE X x (tPl G p) := by
  rcases isPl_cases hp with ⟨i, rfl⟩ | ⟨i, f, rfl⟩ | ⟨i, k, j, rfl, hj⟩
  · exact PE_imp (slot_pe cx h) fun σ H Q ⟨env, fp, v, se, hat, T⟩ => ⟨v, hat, T H fp se (L2.Same.refl H) Stp.refl⟩
  · obtain ⟨h, hm⟩ := Bool.and_eq_true _ _ |>.mp h
    obtain ⟨y, pos, rfl, h1, h2⟩ := attB_of h
    have cl := cx.cl hm
    exact PE_imp (pe_fld (slot_pe cx h1) (nbs_base h2)) fun σ H Q ⟨env, fp, v, se, ⟨a, dx, fs, k1, k2, k3⟩, T⟩ => ⟨.ref a, k1, a, G.Cl.a, dx, fs, v, rfl, k2, cl.1, cl.2 f, k3, T H fp se (L2.Same.refl H) Stp.refl⟩
  · obtain ⟨y, z, pos, rfl, h1, h2, h3⟩ := isIx_of h
    obtain ⟨hd, hq⟩ := negIx_den (C := C) hj
    have hi : PE X z (rdV G W cls true (den C k).v) := by
      unfold negIx at hj
      split at hj
      · exact de_k h2
      · obtain ⟨w, pp, rfl, h4⟩ := isNeg_of h2
        exact de_neg (de_k h4)
      · cases hj
    refine PE_imp (pe_ix ix_list (slot_pe cx h1) hi (nsl_plain h3)) fun σ H Q ⟨env, fp, v, se, ⟨a, vs, j', k1, k2, k3, k4⟩, T⟩ => ⟨.ref a, k1, env, fp, se, ?_⟩
    rw [hj] at k3
    cases k3
    rw [hd env]
    intro y H1 fp1 fd1 se1 rd1 nd1 ap1 st1 sm1
    obtain ⟨sm, _⟩ := sm1 rfl
    exact ⟨a, vs, j, v, rfl, rd1.ofp.int, SqL.of (sm _ _ k2), k4, T H1 fp1 se1 sm st1.drop⟩
def m0Ok (m : M0) (o : E) : Bool := match m with
  | .strip => true
  | _ => isPl o
theorem snd_m0 (m : M0) {o : E} (ho : Snd C o) : Snd C (.m0 m o) := Snd.mk0 (f := fun cf sc e => methB (nameM0 m) (chk cf o sc).e isNil e && m0Ok m o) (fun _ _ => rfl) rfl rfl rfl (fun _ _ _ h => methB_pl (Bool.and_eq_true _ _ |>.mp h).1) fun {cf X G W cls} cx x h => by
  rw [Bool.and_eq_true] at h
  obtain ⟨x, apos, xs, cpos, rfl, h1, h2, h3, h4⟩ := methB_of h.1
  cases xs with
  | cons y r => cases h3
  | nil =>
    have go : ∀ hm : m ≠ .strip, isPl o = true → PE X (.Call (.Attribute x (nameM0 m) apos) [] [] cpos) (rdV G W cls false fun env => modR o env (mut0 m)) := fun hm hv => de_m0 hm hv (pl_pe cx hv h1) (nbs_base h2) h4
    cases m with
    | strip => exact de_strip (ho.v cx x h1) (nbs_base h2) h4
    | pop => exact go (fun z => nomatch z) h.2
    | reverse => exact go (fun z => nomatch z) h.2
    | clear => exact go (fun z => nomatch z) h.2
def m1Ok (m : M1) (o a : E) : Bool := match m with
  | .append => plOk o a
  | .extend => plOk o a
  | .popAt => plOk o a
  | _ => true
theorem plOk_of {o a : E} (h : plOk o a = true) : isPl o = true ∧ ((isVar o).isSome = true ∨ quiet a = true) := by
  unfold plOk at h
  rw [Bool.and_eq_true, Bool.or_eq_true] at h
  exact h
theorem few1 {e : Expr} {env : PySem.Env} {cpos : Pos} (h : nst e = true) : ((backTo cpos (starEach [e] env)).all (fun x => !x.1) && (backToKw cpos (keywordEach [] env)).all (fun x => x.1.isSome)
      && decide (([e] : List Expr).length + ([] : List Keyword).length + (if ([] : List Keyword).isEmpty then 0 else 1) < 30)) = true := by
  rw [nst_star h]; rfl
theorem snd_m1 (m : M1) {o a : E} (ho : Snd C o) (ha : Snd C a) : Snd C (.m1 m o a) := Snd.mk0 (f := fun cf sc e => methB (nameM1 m) (chk cf o sc).e (one1 (chk cf a sc).e) e && m1Ok m o a) (fun _ _ => rfl) rfl rfl rfl (fun _ _ _ h => methB_pl (Bool.and_eq_true _ _ |>.mp h).1) fun cx x h => by
  rw [Bool.and_eq_true] at h
  obtain ⟨x, apos, xs, cpos, rfl, h1, h2, h3, h4⟩ := methB_of h.1
  obtain ⟨y, rfl, h5, h6⟩ := one1_of h3
  cases m with
  | append =>
    obtain ⟨hp, hq⟩ := plOk_of h.2
    exact de_append hp hq (pl_pe cx hp h1) (ha.v cx y h5) (nbs_base h2) (few1 h6) h4 (nst_star h6)
  | popAt =>
    obtain ⟨hp, hq⟩ := plOk_of h.2
    exact de_popAt hp hq (pl_pe cx hp h1) (ha.v cx y h5) (nbs_base h2) (few1 h6) h4 (nst_star h6)
  | extend =>
    obtain ⟨hp, hq⟩ := plOk_of h.2
    exact de_extend hp hq (pl_pe cx hp h1) (ha.b cx y h5) (nbs_base h2) (few1 h6) h4 (nst_star h6)
  | startswith => exact de_txt cx.K (m := .startswith) rfl (ho.v cx x h1) (ha.b cx y h5) (nbs_base h2) (few1 h6) h4 (nst_star h6)
  | find => exact de_txt cx.K (m := .find) rfl (ho.v cx x h1) (ha.b cx y h5) (nbs_base h2) (few1 h6) h4 (nst_star h6)
  | split => exact de_txt cx.K (m := .split) rfl (ho.v cx x h1) (ha.b cx y h5) (nbs_base h2) (few1 h6) h4 (nst_star h6)
  | join => exact de_txt cx.K (m := .join) rfl (ho.v cx x h1) (ha.b cx y h5) (nbs_base h2) (few1 h6) h4 (nst_star h6)
  | partition => exact de_txt cx.K (m := .partition) rfl (ho.v cx x h1) (ha.b cx y h5) (nbs_base h2) (few1 h6) h4 (nst_star h6)
  | index => exact de_idx (ho.v cx x h1) (ha.b cx y h5) (nbs_base h2) (few1 h6) h4 (nst_star h6)
  | count => exact de_cnt (ho.v cx x h1) (ha.b cx y h5) (nbs_base h2) (few1 h6) h4 (nst_star h6)

theorem few2 {e f : Expr} {env : PySem.Env} {cpos : Pos} (h : nst e = true) (h' : nst f = true) : ((backTo cpos (starEach [e, f] env)).all (fun x => !x.1) && (backToKw cpos (keywordEach [] env)).all (fun x => x.1.isSome)
      && decide (([e, f] : List Expr).length + ([] : List Keyword).length + (if ([] : List Keyword).isEmpty then 0 else 1) < 30)) = true := by
  rw [nst_star h, nst_star h']; rfl
theorem snd_dgt {o a b : E} (ho : Snd C o) (ha : Snd C a) (hb : Snd C b) : Snd C (.dgt o a b) := Snd.mk0 (f := fun cf sc e => methB "get" (chk cf o sc).e (two (chk cf a sc).e (chk cf b sc).e) e) (fun _ _ => rfl) rfl rfl rfl (fun _ _ _ h => methB_pl h) fun cx x h => by
  obtain ⟨x, apos, xs, cpos, rfl, h1, h2, h3, h4⟩ := methB_of h
  obtain ⟨y, z, e, h5, h6, h7, h8⟩ := two_of h3
  subst e
  exact de_dgt cx (ho.b cx x h1) (ha.v cx y h5) (hb.v cx z h6) rfl rfl ⟨nbs_base h2, few2 h7 h8, h4, by rw [nst_star h7, nst_star h8]; rfl⟩

/-! ### what is walked -/
theorem snd_rg1 {a : E} (ha : Snd C a) : Snd C (.rg1 a) := Snd.mkI (f := fun cf sc _ e => call1 (glName sc "range") (one1 (chk cf a sc).e) e) (fun _ _ => rfl) fun cx tg x h => by
  obtain ⟨g, x, xs, p, rfl, h4, h5⟩ := call1_of h
  obtain ⟨y, e, h6, h7⟩ := one1_of h5
  cases e
  exact di_rg1 cx (ha.v cx _ h6) h4 (nst_star h7)
theorem snd_rg2 {a b : E} (ha : Snd C a) (hb : Snd C b) : Snd C (.rg2 a b) := Snd.mkI (f := fun cf sc _ e => call1 (glName sc "range") (two (chk cf a sc).e (chk cf b sc).e) e) (fun _ _ => rfl) fun cx tg x h => by
  obtain ⟨g, x, xs, p, rfl, h4, h5⟩ := call1_of h
  obtain ⟨y, z, e, h6, h7, h8, h9⟩ := two_of h5
  cases e
  exact di_rg2 cx (ha.v cx _ h6) (hb.v cx _ h7) h4 (nst_star h8) (nst_star h9)
theorem snd_rev {a : E} (ha : Snd C a) : Snd C (.rev a) := Snd.mkI (f := fun cf sc _ e => call1 (glName sc "reversed") (one1 (chk cf a sc).e) e) (fun _ _ => rfl) fun cx tg x h => by
  obtain ⟨g, x, xs, p, rfl, h4, h5⟩ := call1_of h
  obtain ⟨y, e, h6, h7⟩ := one1_of h5
  cases e
  exact di_rev cx (ha.v cx _ h6) h4 (nst_star h7)
theorem isTupTg_of {e : Expr} (h : isTupTg e = true) : ∃ es k p, e = .Tuple es k p := by
  unfold isTupTg at h
  split at h
  · exact ⟨_, _, _, rfl⟩
  · cases h
theorem snd_zip {a b : E} (ha : Snd C a) (hb : Snd C b) : Snd C (.zip a b) := Snd.mkI (f := fun cf sc t e => isTupTg t && call1 (glName sc "zip") (two (chk cf a sc).e (chk cf b sc).e) e) (fun _ _ => rfl) fun cx tg x h => by
  rw [Bool.and_eq_true] at h
  obtain ⟨es, k, tp, rfl⟩ := isTupTg_of h.1
  obtain ⟨g, x, xs, p, rfl, h4, h5⟩ := call1_of h.2
  obtain ⟨y, z, e, h6, h7, h8, h9⟩ := two_of h5
  cases e
  exact di_zip cx (ha.v cx _ h6) (hb.v cx _ h7) h4 (nst_star h8) (nst_star h9)
theorem snd_enu {a : E} (ha : Snd C a) : Snd C (.enu a) := Snd.mkI (f := fun cf sc t e => isTupTg t && call1 (glName sc "enumerate") (one1 (chk cf a sc).e) e) (fun _ _ => rfl) fun cx tg x h => by
  rw [Bool.and_eq_true] at h
  obtain ⟨es, k, tp, rfl⟩ := isTupTg_of h.1
  obtain ⟨g, x, xs, p, rfl, h4, h5⟩ := call1_of h.2
  obtain ⟨y, e, h6, h7⟩ := one1_of h5
  cases e
  exact di_enu cx (ha.v cx _ h6) h4 (nst_star h7)
theorem lcB_of {cf : Cf} {sc : Scope} {i : Nat} {it : Expr → Expr → Bool} {elt c : Scope → Expr → Bool} {e : Expr} (h : lcB cf sc i it elt true c e = true) : ∃ x t p iter scope pos, e = .ListComp x [⟨.Name t p, iter, [], 0⟩] scope pos ∧
    cf.N[i]? = some t ∧ ownB sc scope t = true ∧ blkC cf.N sc scope [(t, i)] = true ∧ noSet iter = true ∧ it (.Name t p) iter = true ∧ elt (relS scope sc) x = true := by
  unfold lcB at h
  split at h
  · rename_i x t p iter ifs scope pos
    simp only [Bool.and_eq_true, decide_eq_true_eq, if_true] at h
    obtain ⟨⟨⟨⟨⟨⟨⟨h1, h2⟩, h3⟩, h4⟩, h5⟩, h6⟩, h7⟩, h8⟩ := h
    cases ifs with
    | nil => exact ⟨_, _, _, _, _, _, rfl, h1, h3, h4, h5, h6, h7⟩
    | cons _ _ => cases h8
  · cases h
theorem lcB_ofIf {cf : Cf} {sc : Scope} {i : Nat} {it : Expr → Expr → Bool} {elt c : Scope → Expr → Bool} {e : Expr} (h : lcB cf sc i it elt false c e = true) : ∃ x t p iter z scope pos, e = .ListComp x [⟨.Name t p, iter, [z], 0⟩] scope pos ∧
    cf.N[i]? = some t ∧ ownB sc scope t = true ∧ blkC cf.N sc scope [(t, i)] = true ∧ noSet iter = true ∧ it (.Name t p) iter = true ∧ elt (relS scope sc) x = true ∧ c (relS scope sc) z = true := by
  unfold lcB at h
  split at h
  · rename_i x t p iter ifs scope pos
    simp only [Bool.and_eq_true, decide_eq_true_eq, Bool.false_eq_true, if_false] at h
    obtain ⟨⟨⟨⟨⟨⟨⟨h1, h2⟩, h3⟩, h4⟩, h5⟩, h6⟩, h7⟩, h8⟩ := h
    obtain ⟨z, rfl, k1, k2⟩ := one1_of h8
    exact ⟨_, _, _, _, _, _, _, rfl, h1, h3, h4, h5, h6, h7, k1⟩
  · cases h
theorem snd_lc {elt it c : E} {i : Nat} (he : Snd C elt) (hi : Snd C it) (hcs : Snd C c) : Snd C (.lc elt i it c) := Snd.mk0 (f := fun cf sc e => lcB cf sc i (chk cf it sc).i (fun s => (chk cf elt s).e) (noC c) (fun s => (chk cf c s).e) e && !cf.hot) (fun _ _ => rfl) rfl rfl rfl (fun _ _ _ h => by
    simp only [Bool.and_eq_true] at h
    cases hn : noC c with
    | true =>
      rw [hn] at h
      obtain ⟨_, _, _, _, _, _, rfl, _⟩ := lcB_of h.1
      rfl
    | false =>
      rw [hn] at h
      obtain ⟨_, _, _, _, _, _, _, rfl, _⟩ := lcB_ofIf h.1
      rfl) fun {cf X G W cls} cx x h => by
  simp only [Bool.and_eq_true, Bool.not_eq_true'] at h
  obtain ⟨h, hh⟩ := h
  cases hc : noC c with
  | true =>
    rw [hc] at h
    obtain ⟨x, t, p, iter, scope, pos, rfl, h1, h2, h3, h4, h5, h6⟩ := lcB_of h
    have base := de_lc (pos := pos) cx hh (by rw [cx.N]; exact h1) h2 (by rw [cx.N]; exact h3) (hi.i cx _ _ h5) (noSet_f h4) (fun s H Cc cl fp => he.v (cx.blk hh s H scope (compEnvC scope cl Cc X.env) fp) x h6)
    refine PE_imp base fun σ H Q ⟨env, fp, se, T⟩ => ⟨env, fp, se, ?_⟩
    simp only [hc, if_true] at T
    exact T
  | false =>
    rw [hc] at h
    obtain ⟨x, t, p, iter, z, scope, pos, rfl, h1, h2, h3, h4, h5, h6, h7⟩ := lcB_ofIf h
    have base := de_lcIf (pos := pos) cx hh (by rw [cx.N]; exact h1) h2 (by rw [cx.N]; exact h3) (hi.i cx _ _ h5) (noSet_f h4) (fun s H Cc cl fp => hcs.t (cx.blk hh s H scope (compEnvC scope cl Cc X.env) fp) z h7) (fun s H Cc cl fp => he.v (cx.blk hh s H scope (compEnvC scope cl Cc X.env) fp) x h6)
    refine PE_imp base fun σ H Q ⟨env, fp, se, T⟩ => ⟨env, fp, se, ?_⟩
    simp only [hc, Bool.false_eq_true, if_false] at T
    exact T
theorem lc2B_of {cf : Cf} {sc : Scope} {i j : Nat} {it : Expr → Expr → Bool} {elt : Scope → Expr → Bool} {e : Expr} (h : lc2B cf sc i j it elt e = true) : ∃ x t u p q k r iter scope pos, e = .ListComp x [⟨.Tuple [.Name t p, .Name u q] k r, iter, [], 0⟩] scope pos ∧
    cf.N[i]? = some t ∧ cf.N[j]? = some u ∧ ownB sc scope t = true ∧ ownB sc scope u = true ∧ blkC cf.N sc scope [(t, i), (u, j)] = true ∧ noSet iter = true ∧ it (.Tuple [.Name t p, .Name u q] k r) iter = true ∧ elt (relS scope sc) x = true := by
  unfold lc2B at h
  split at h
  · simp only [Bool.and_eq_true, decide_eq_true_eq] at h
    obtain ⟨⟨⟨⟨⟨⟨⟨h1, h2⟩, h3⟩, h4⟩, h5⟩, h6⟩, h7⟩, h8⟩ := h
    exact ⟨_, _, _, _, _, _, _, _, _, _, rfl, h1, h2, h3, h4, h5, h6, h7, h8⟩
  · cases h
theorem snd_lc2 {elt it c : E} {i j : Nat} (he : Snd C elt) (hi : Snd C it) : Snd C (.lc2 elt i j it c) := Snd.mk0 (f := fun cf sc e => lc2B cf sc i j (chk cf it sc).i (fun s => (chk cf elt s).e) e && noC c && !cf.hot) (fun _ _ => rfl) rfl rfl rfl (fun _ _ _ h => by
    simp only [Bool.and_eq_true] at h
    obtain ⟨_, _, _, _, _, _, _, _, _, _, rfl, _⟩ := lc2B_of h.1.1
    rfl) fun {cf X G W cls} cx x h => by
  simp only [Bool.and_eq_true, Bool.not_eq_true'] at h
  obtain ⟨⟨h, hc⟩, hh⟩ := h
  obtain ⟨x, t, u, p, q, k, r, iter, scope, pos, rfl, h1, h2, h3, h4, h5, h6, h7, h8⟩ := lc2B_of h
  exact de_lc2 (nc := noC c = true) (pos := pos) cx hh (by rw [cx.N]; exact h1) (by rw [cx.N]; exact h2) h3 h4 (by rw [cx.N]; exact h5) (hi.i cx _ _ h7) (noSet_f h6) (fun s H Cc cl fp => he.v (cx.blk hh s H scope (compEnvC scope cl Cc X.env) fp) x h8)
theorem rps_rg (n : Int) (H : Hp) : RPs H (rangeP 0 n.toNat) (rgV 0 n) := by
  unfold rangeP rgV
  rw [Int.sub_zero]
  generalize List.range n.toNat = l
  induction l with
  | nil => rw [List.map_nil, List.map_nil, RPs]
  | cons x l ih => exact .cons (by rw [RP]) ih
theorem snd_lrg {a : E} (ha : Snd C a) : Snd C (.lrg a) := Snd.mk0 (f := fun cf sc e => call1 (glName sc "list") (one1 fun x => call1 (glName sc "range") (one1 (chk cf a sc).e) x) e && !cf.hot) (fun _ _ => rfl) rfl rfl rfl (fun _ _ _ h => by
    rw [Bool.and_eq_true] at h
    obtain ⟨g, x, xs, p, rfl, h4, h5⟩ := call1_of h.1
    rfl) fun {cf X G W cls} cx x h => by
  rw [Bool.and_eq_true, Bool.not_eq_true'] at h
  obtain ⟨h, hh⟩ := h
  obtain ⟨g, x, xs, p, rfl, h4, h5⟩ := call1_of h
  obtain ⟨y, e, h6, h7⟩ := one1_of h5
  cases e
  obtain ⟨g2, x2, xs2, p2, rfl, h8, h9⟩ := call1_of h6
  obtain ⟨z, e, h10, h11⟩ := one1_of h9
  cases e
  obtain ⟨q1, rfl, hgl, _, _⟩ := gl_of h4
  obtain ⟨q2, rfl, hgl2, _, _⟩ := gl_of h8
  refine PE_imp (pe_listRg (cx.calm hh) hgl (cx.blt "list" (by simp)) (prg_1 hgl2 (cx.blt "range" (by simp)) (ha.v cx _ h10) (nst_star h11)) (nst_star h7)) fun σ H Q ⟨env, fp, se, T⟩ => ?_
  refine ⟨env, fp, se, T.bind.imp fun d env1 T v H1 fp1 fd1 se1 rd1 nd1 ap1 st1 sm1 => ?_⟩
  unfold lrgD at T
  split at T
  · rename_i n
    split at T
    · rename_i hb
      have e1 := rd1.ofp.int
      subst e1
      have st2 : Stp (In fp) H (In fp1) H1 := st1.drop
      refine ⟨n, rfl, RgOk.of_le (by omega) (by omega) (by omega) (by omega), fun q hq => ?_⟩
      have fr : Fresh G (.ml (rangeP 0 n.toNat)) H1 Q := fresh_done se1 st2 (q := false) nq T
      exact fr.ml hq (rps_rg n H1)
    · exact T.elim
  · exact T.elim
def isDc (e : Expr) : Bool := match e with
  | .Dict [] [] _ => true
  | _ => false
theorem isDc_of {e : Expr} (h : isDc e = true) : ∃ p, e = .Dict [] [] p := by
  unfold isDc at h
  split at h
  · exact ⟨_, rfl⟩
  · cases h
theorem n_empty {P0 : Program} {w : World} {H : Hp} (h : Heap) (hb : sysModules < h.objs.size) : ObjOk P0 w H (h.push { cls := .type "dict", data := .dict #[] }) h.objs.size (.ext (rawN w h.objs.size [])) :=
  raw_ok (us := []) (Nat.zero_le _) (beq_eq_false_iff_ne.mpr (Ne.symm (Nat.ne_of_lt hb))) .nil (Heap.DictOfH.new (knd := nestedKind P0 w) h)
theorem pe_newN {X : Cx} {pos : Pos} : PE X (.Dict [] [] pos) (fun _ H Q => ∀ p, H p = none → Q (.ref p) (upd H p (.ext (rawN X.w p [])))) := ⟨fun pins s σ H Q I h => by
  have ne := n_empty (P0 := X.prog) (w := X.w) (H := upd H s.heap.objs.size (.ext (rawN X.w s.heap.objs.size []))) s.heap I.big
  exact wpAny_Dict_empty ⟨.ref s.heap.objs.size, _, I.laid (t' := s.toks) (fun b u q => Heap.get?_push_of_some _ q) (Nat.le_refl _) ne, rfl, h _ (I.hok.fresh (Nat.le_refl _))⟩⟩
theorem snd_dc (t : Bool) : Snd C (.dc t) := Snd.mk0 (f := fun _ _ => isDc) (fun _ _ => rfl) rfl rfl rfl (fun _ _ _ h => by obtain ⟨_, rfl⟩ := isDc_of h; rfl) fun {cf X G W cls} cx x h => by
  obtain ⟨p, rfl⟩ := isDc_of h
  cases t with
  | false =>
    refine PE_imp pe_dnewK fun σ H Q ⟨env, fp, se, T⟩ p hn => ?_
    have fr : Fresh _ (.dc false []) H Q := fresh_done se Stp.refl (q := false) nq T
    refine fr (.ref p) (upd H p (.dK [])) [p] ⟨p, [], rfl, upd_same, by rw [RPd], rfl⟩ (List.nodup_cons.mpr ⟨by simp, .nil⟩) (fun a ha => ?_) (same_upd hn)
    rw [List.mem_singleton] at ha
    subst ha
    exact hn
  | true =>
    refine PE_imp pe_newN fun σ H Q ⟨env, fp, se, T⟩ p hn => ?_
    have fr : Fresh G (.dc true []) H Q := fresh_done se Stp.refl (q := false) nq T
    refine fr (.ref p) (upd H p (.ext (rawN X.w p []))) [p] ⟨p, [], rfl, by rw [cx.wd]; exact upd_same, rfl, rfl⟩ (List.nodup_cons.mpr ⟨by simp, .nil⟩) (fun a ha => ?_) (same_upd hn)
    rw [List.mem_singleton] at ha
    subst ha
    exact hn
theorem quiet_ro (es : E) : quiet es = true → ∀ env as env', (den C es).a env = .ok as env' → as.all roA = true := by
  induction es with
  | nil => intro _ env as env' h; cases h; rfl
  | cons e es _ ih =>
    intro hq env as env' h
    simp only [quiet, Bool.and_eq_true] at hq
    obtain ⟨a, env1, h1, h⟩ := bind_ok h
    obtain ⟨r, env2, h2, h⟩ := bind_ok h
    cases h
    rw [List.all_cons, Bool.and_eq_true]
    refine ⟨?_, ih hq.2 _ _ _ h2⟩
    cases e with
    | bw i => cases hq.1
    | lst _ => cases hq.1
    | rw i =>
      simp only [argA] at h1
      split at h1
      · cases h1; rfl
      · cases h1
    | _ =>
      rw [argA_pl rfl] at h1
      obtain ⟨x, env3, _, h1⟩ := bind_ok h1
      cases h1
      rfl
  | _ => intro _ env as env' h; cases h
theorem chk_nil {cf : Cf} {sc : Scope} {es : E} (h : (chk cf es sc).l [] = true) : es = .nil := by
  cases es <;> first | rfl | (cases h)
theorem recvA_of {o : E} (h : (recvA o).isSome = true) : ∃ i, (o = .v i ∧ recvA o = some (.br i)) ∨ (o = .rw i ∧ recvA o = some (.rr i)) := by
  cases o <;> first | exact ⟨_, .inl ⟨rfl, rfl⟩⟩ | exact ⟨_, .inr ⟨rfl, rfl⟩⟩ | (cases h)
theorem form_nst {pos : Pos} {env : PySem.Env} : ∀ {l : List Expr}, (∀ x ∈ l, nst x = true) → (backTo pos (starEach l env)).all (fun x => !x.1) = true
  | [], _ => rfl
  | x :: l, h => by
    rw [nst_star (h x (by simp))]
    have := form_nst (pos := pos) (env := env) (l := l) fun y hy => h y (by simp [hy])
    simp only [backTo, List.map_cons, List.all_cons] at this ⊢
    simpa using this
theorem snd_mth (m : String) {o es : E} (he : Snd C es) : Snd C (.mth m o es) := Snd.mk0 (f := fun cf sc e => methB m (chk cf o sc).e (fun l => (chk cf es sc).l l && decide (l.length < 20)) e && (recvA o).isSome && decide (m ∈ cf.meths) && cf.mach && !cf.hot) (fun _ _ => rfl) rfl rfl rfl (fun _ _ _ h => by
    simp only [Bool.and_eq_true] at h
    exact methB_pl h.1.1.1.1) fun {cf X G W cls} cx x h => by
  simp only [Bool.and_eq_true, decide_eq_true_eq, Bool.not_eq_true'] at h
  obtain ⟨⟨⟨⟨h1, h2⟩, h3⟩, h4⟩, h5⟩ := h
  obtain ⟨y, apos, xs, cpos, rfl, k1, k2, k3, k4⟩ := methB_of h1
  rw [Bool.and_eq_true, decide_eq_true_eq] at k3
  obtain ⟨k3, k5⟩ := k3
  have al := all_nst es k3
  obtain ⟨i, ho⟩ := recvA_of h2
  have hform : methodCallForm (xs.length + 0) (backTo cpos (starEach xs X.env)) (backToKw cpos (keywordEach [] X.env)) = true := by
    unfold methodCallForm
    rw [form_nst al]
    show (true && true && decide (xs.length + 0 + 0 < 30)) = true
    simp; omega
  have hsl : PE X y (tVar i) := by
    rcases ho with ⟨rfl, _⟩ | ⟨rfl, _⟩ <;> exact slot_pe cx k1
  have hr : ∃ r, recvA o = some r ∧ (r = .br i ∨ r = .rr i) ∧ (isRw o = true → r = .rr i) := by
    rcases ho with ⟨rfl, e⟩ | ⟨rfl, e⟩
    · exact ⟨_, e, .inl rfl, fun h => by cases h⟩
    · exact ⟨_, e, .inr rfl, fun _ => rfl⟩
  obtain ⟨r, er, hr, hrw⟩ := hr
  have base := de_mth (q := quiet (.mth m o es)) cx hr hsl (he.a cx xs k3) (fun hq => by
    simp only [quiet, Bool.and_eq_true] at hq
    exact ⟨hrw hq.1, hq.2, quiet_ro es hq.2⟩) h3 h4 h5 (nbs_base k2) hform k4 (fun e => by
      subst e
      rw [chk_nil k3]
      rfl) (fun y ys e => nst_star (al y (by rw [e]; simp))) fun y ys e => pl_nst fun z hz => al z (by rw [e]; simp [hz])
  refine PE_imp base fun σ H Q ⟨env, fp, se, T⟩ => ⟨env, fp, se, ?_⟩
  dsimp only at T
  rw [er] at T
  exact T
theorem snd_mk {es : E} (he : Snd C es) : Snd C (.mk es) := Snd.mk0 (f := fun cf sc e => call1 (glName sc "Machine") (chk cf es sc).l e && cf.makes && !cf.hot) (fun _ _ => rfl) rfl rfl rfl (fun _ _ _ h => by
    simp only [Bool.and_eq_true] at h
    obtain ⟨_, _, _, _, rfl, _⟩ := call1_of h.1.1
    rfl) fun cx x h => by
  simp only [Bool.and_eq_true, Bool.not_eq_true'] at h
  obtain ⟨⟨h1, h2⟩, h3⟩ := h
  obtain ⟨g, x, xs, p, rfl, h4, h5⟩ := call1_of h1
  have al := all_nst es h5
  exact de_mk cx (he.a cx _ h5) h4 h2 h3 (nst_star (al x (by simp))) (pl_nst fun y hy => al y (by simp [hy]))
theorem snd2 (C : Calls) (e : E) : Snd C e ∧ SndQ C e := by
  induction e with
  | k x => exact ⟨snd_k x, fun h => nomatch h⟩
  | g n x => exact ⟨snd_g n x, fun h => nomatch h⟩
  | v i => exact ⟨snd_v i, fun h => nomatch h⟩
  | mv i => exact ⟨snd_mv i, fun h => nomatch h⟩
  | mvi i k h => exact ⟨snd_mvi i h.1, fun h => nomatch h⟩
  | dix kvs i h => exact ⟨snd_dix kvs h.1, fun h => nomatch h⟩
  | lns a h => exact ⟨snd_lns h.1, fun h => nomatch h⟩
  | fz i => exact ⟨snd_fz i, fun h => nomatch h⟩
  | bw i => exact ⟨snd_bw i, fun h => nomatch h⟩
  | rw i => exact ⟨snd_rw i, fun h => nomatch h⟩
  | fr e h => exact ⟨snd_fr h.1, fun h => nomatch h⟩
  | tup es h => exact ⟨snd_tup h.1, fun h => nomatch h⟩
  | lst es h => exact ⟨snd_lst h.1, fun h => nomatch h⟩
  | lsn es h => exact ⟨snd_lsn h.1, fun h => nomatch h⟩
  | nil => exact ⟨snd_nil, fun h => nomatch h⟩
  | cons e es h1 h2 => exact ⟨snd_cons h1.1 h2.1, fun h => nomatch h⟩
  | no => exact ⟨snd_no, fun h => nomatch h⟩
  | bin o a b h1 h2 => exact ⟨snd_bin o h1.1 h2.1, fun h => nomatch h⟩
  | neg a h => exact ⟨snd_neg h.1, fun h => nomatch h⟩
  | cmp o a b h1 h2 => exact ⟨snd_cmp o h1.1 h2.1, sndq_cmp o h1.1 h2.1⟩
  | chn o o' a b c h1 h2 h3 => exact ⟨snd_chn o o' h1.1 h2.1 h3.1, fun h => nomatch h⟩
  | an a b h1 h2 => exact ⟨snd_an h1.1 h2.1, fun h => nomatch h⟩
  | orr a b h1 h2 => exact ⟨snd_orr h1.1 h2.1, fun h => nomatch h⟩
  | nt a h => exact ⟨snd_nt h.1, fun h => nomatch h⟩
  | ife c a b h1 h2 h3 => exact ⟨snd_ife h1.1 h1.2 h2.1 h3.1, fun h => nomatch h⟩
  | ix a i h1 h2 => exact ⟨snd_ix h1.1 h2.1, fun h => nomatch h⟩
  | sl a lo hi h1 h2 h3 => exact ⟨snd_sl h1.1 h2.1 h3.1, fun h => nomatch h⟩
  | call f es h => exact ⟨snd_call h.1, fun h => nomatch h⟩
  | b1 f e h => exact ⟨snd_b1 f h.1, fun h => nomatch h⟩
  | mx2 a b h1 h2 => exact ⟨snd_mx2 h1.1 h2.1, fun h => nomatch h⟩
  | mx3 a b c h1 h2 h3 => exact ⟨snd_mx3 h1.1 h2.1 h3.1, fun h => nomatch h⟩
  | isi e t o h => exact ⟨snd_isi t o h.1, fun h => nomatch h⟩
  | m0 m o h => exact ⟨snd_m0 m h.1, fun h => nomatch h⟩
  | m1 m o a h1 h2 => exact ⟨snd_m1 m h1.1 h2.1, fun h => nomatch h⟩
  | dgt o a b h1 h2 h3 => exact ⟨snd_dgt h1.1 h2.1 h3.1, fun h => nomatch h⟩
  | rg1 a h => exact ⟨snd_rg1 h.1, fun h => nomatch h⟩
  | rg2 a b h1 h2 => exact ⟨snd_rg2 h1.1 h2.1, fun h => nomatch h⟩
  | rev a h => exact ⟨snd_rev h.1, fun h => nomatch h⟩
  | zip a b h1 h2 => exact ⟨snd_zip h1.1 h2.1, fun h => nomatch h⟩
  | enu a h => exact ⟨snd_enu h.1, fun h => nomatch h⟩
  | lc elt i it c h1 h2 h3 => exact ⟨snd_lc h1.1 h2.1 h3.1, fun h => nomatch h⟩
  | lc2 elt i j it c h1 h2 h3 => exact ⟨snd_lc2 h1.1 h2.1, fun h => nomatch h⟩
  | lrg a h => exact ⟨snd_lrg h.1, fun h => nomatch h⟩
  | dc t => exact ⟨snd_dc t, fun h => nomatch h⟩
  | fld o f h => exact ⟨snd_fld f h.1, fun h => nomatch h⟩
  | mth m o es h1 h2 => exact ⟨snd_mth m h2.1, fun h => nomatch h⟩
  | mk es h => exact ⟨snd_mk h.1, fun h => nomatch h⟩
  | _ => exact ⟨Snd.mkN fun _ _ => rfl, fun h => nomatch h⟩
theorem snd (C : Calls) (e : E) : Snd C e := (snd2 C e).1
end
end DL

/-! DL15: statements. -/
namespace DL
open PySem PySem.Spec PyProof.Rows L2

/-! ### several clauses 'except x as n' with one n -/
/-- one clause: the class it names, its suite, what the suite does -/
structure Cl1 where
  x : Str
  np : Pos
  c : Value
  s0 : Stmt
  su : List Stmt
  hp : Pos
  ts : Addr → Value → Option Addr → TS
def Cl1.h (n : Str) (q : Cl1) : ExceptHandler := .ExceptHandler (some (.Name q.x q.np)) (some n) (q.s0 :: q.su) q.hp
/-- behind a suite the name is unbound -/
def endD (i : Nat) (D : Ends) : Ends := ⟨fun t J => D.nx (t.set i none) J, D.rt, fun t J => D.bk (t.set i none) J, fun t J => D.ct (t.set i none) J⟩
def wLs (K : PySem.W.Frag) (Z : WX) (i : Nat) (D : Ends) : List Cl1 → WX
  | [] => Z
  | q :: r => fun k d t J => ∃ b, PySem.W.exmOne K k q.c = some b ∧ (b = true → ∀ p, J p = none → q.ts p k d (endD i D) (t.set i (some (.ref p))) J) ∧ (b = false → wLs K Z i D r k d t J)
section
variable {X : Cx} {n : Str} {i : Nat} {body : List Stmt} {pos : Pos} {tb : WX → TS} {Z : WX}
/-- the clauses one after the other, at an exception p in flight -/
theorem clauses_ls (hS : X.stack = X.env :: X.outer) (hF : X.env.frame = some X.env.locals) (hN : X.N.Nodup) (hi : X.N[i]? = some n) (hn : X.env.kindOf n = some .local) (okX : X.Ok) {D : Ends} {ps : List (Addr × Obj)} {t : L2.St} {J : Hp} {r : Shared} {B : Heap} {p : Addr} {k : Value} {d : Option Addr}
    (fly : HandSPX.FlyingZ B (X.env :: X.outer) p (Zc k d) r.heap) (inv : ∀ g : Heap, HandSPX.FlyingZ B (X.env :: X.outer) p (Zc k d) g → r.heap.UpToSlots g → L2.Inv X ps t J { r with heap := g }) (i0 : L2.Inv X ps t J r) (free : J p = none)
    (out : Z k d t J → ∀ g : Heap, HandSPX.HeldZ B (X.env :: X.outer) p (Zc k d) X.env.locals g → r.heap.UpToSlots g → X.xe (.ref p) { r with heap := g }) :
    ∀ l : List Cl1, (∀ q ∈ l, Names X q.x q.c) → (∀ q ∈ l, ∀ (a : Addr) (w : Obj) (k : Value) (d : Option Addr) (pn : List (Addr × Obj)), Zc k d w → (∃ fs, w.data = .fields fs) → PSs (X.suite a ((a, w) :: pn)) (q.s0 :: q.su) (q.ts a k d)) →
      wLs X.K Z i D l k d t J → wpAny (model X.prog X.w) X.A (handleBy (.ref p) X.env (l.map (Cl1.h n))) (SP X ps D) X.xe r := by
  obtain ⟨w3, f3, g3, z3, v3⟩ := fly.there
  -- p is no frame's object
  have away : p ∉ frs (X.env :: X.outer) := fun z => by
    obtain ⟨_, y, gy, no⟩ := fly.2.2.1.mem z
    rw [g3] at gy
    cases gy
    exact no _ v3
  have awayL : p ≠ X.env.locals := fun z => by
    refine away (List.mem_filterMap.mpr ⟨X.env, List.mem_cons_self, ?_⟩)
    rw [hF, z]
  have awayF : p ∉ X.fs := fun z => by
    obtain ⟨y, gy, q⟩ := List.mem_filterMap.mp z
    exact away (List.mem_filterMap.mpr ⟨y, List.mem_cons_of_mem _ gy, q⟩)
  intro l
  induction l with
  | nil =>
    intro _ _ wish
    refine wpAny_handleBy_nil ?_
    have fly' := fly
    obtain ⟨_, _, _, w, fs, T, _, _, gw, _, ew, tr, _⟩ := fly'
    unfold PySem.passOn
    refine wpAny_bind (wpAny_field gw ew tr ?_)
    rw [if_neg (by simp)]
    have last : wpAny (model X.prog X.w) X.A (setFlight (.ref p) X.env.frame) (fun _ r4 => wpAny (model X.prog X.w) X.A (throw (.ref p) : Sem Flow) (SP X ps D) X.xe r4) X.xe r := by
      rw [hF]
      exact HandSPX.setFlight_upZ fly fun g hg up => wpAny_throw (out wish g hg up)
    first
      | exact wpAny_bind (wpAny_pure (wpAny_bind last))
      | exact wpAny_bind last
  | cons q l ih =>
    intro nms sus wish
    obtain ⟨b, eb, yes, no⟩ := wish
    have S3 := i0.suite g3 v3 free awayL awayF
    have looks : PySem.W.Looks (model X.prog X.w) r.heap (typeOf (.ref p)) k := fun A Q E s u hq => wpAny_typeOf_ref (u _ _ g3) (by
      rw [z3.1]
      exact hq)
    have match1 := PySem.W.exm_one (M := model X.prog X.w) i0.kIn looks eb
    have named : ∀ {Q E : Value → Shared → Prop}, Q q.c r → wpAny (model X.prog X.w) (X.A.mark (some (.ref p))) (eval (.Name q.x q.np) X.env) Q E r := fun {Q E} hq => by
      obtain ⟨gl, db, o | ⟨o, bt, nn⟩⟩ := nms q List.mem_cons_self
      · exact ld_glob (X := X.suite p ((p, w3) :: (X.pn ++ ps))) S3 gl o hq db
      · exact ld_blt (X := X.suite p ((p, w3) :: (X.pn ++ ps))) S3 gl o bt hq nn db
    rw [List.map_cons]
    refine wpAny_handleBy_cons (codeAny_handlers_test (named (match1.here ?_))) (fun z => nomatch z)
    cases b with
    | false => exact ih (fun y hy => nms y (List.mem_cons_of_mem _ hy)) (fun y hy => sus y (List.mem_cons_of_mem _ hy)) (no rfl)
    | true =>
      refine codeAny_handlers_suite_as (HandSPX.lands_againZ fly fun g fg up => ?_)
      obtain ⟨w4, f4, g4, z4, v4⟩ := fg.there
      have S4 := (inv g fg up).suite g4 v4 free awayL awayF
      refine store_ok (X := X.suite p ((p, w4) :: (X.pn ++ ps))) (v := .ref p) S4 hN hi (.inl hn) rfl (fun r5 S5 => ?_) (.inr hn)
      refine wpAny_mono ((sus q List.mem_cons_self p w4 k d (X.pn ++ ps) z4 ⟨_, v4⟩).run [] r5 _ J _ S5 (yes rfl p free)) (fun f r6 got => ?_) (fun _ _ z => z.elim)
      have gone : ∀ {t6 : L2.St} {J6 : Hp} {Q : Shared → Prop}, L2.Inv (X.suite p ((p, w4) :: (X.pn ++ ps))) [] t6 J6 r6 → (∀ r7, L2.Inv X ps (t6.set i none) J6 r7 → Q r7) →
          wpAny (model X.prog X.w) X.A (bindName X.env n .none >>= fun _ => unbindBehindTheSuite X.env n q.hp) (fun _ r7 => Q r7) X.xe r6 := fun S6 hq => gone_ok (S6.unsuite okX) hN hi hn hq
      cases f with
      | next =>
        obtain ⟨t6, J6, S6, e6⟩ := got
        exact gone S6 fun r7 I7 => ⟨t6.set i none, J6, I7, e6⟩
      | brk =>
        obtain ⟨t6, J6, S6, e6⟩ := got
        exact gone S6 fun r7 I7 => ⟨t6.set i none, J6, I7, e6⟩
      | cont =>
        obtain ⟨t6, J6, S6, e6⟩ := got
        exact gone S6 fun r7 I7 => ⟨t6.set i none, J6, I7, e6⟩
      | ret u =>
        obtain ⟨v6, t6, J6, S6, rel, e6⟩ := got
        exact gone S6 fun r7 I7 => ⟨v6, t6.set i none, J6, I7, rel, e6⟩
/-- try: body / except x1 as n: .. / except x2 as n: .. -/
theorem ps_try_ls (hS : X.stack = X.env :: X.outer) (hF : X.env.frame = some X.env.locals) (hN : X.N.Nodup) (hi : X.N[i]? = some n) (hn : X.env.kindOf n = some .local) (tk : Takes X Z) (q0 : Cl1) (l : List Cl1) (nms : ∀ q ∈ q0 :: l, Names X q.x q.c)
    (hb : ∀ (W : WX) (pn : List (Addr × Obj)) (ex : Value → Shared → Prop), Takes (X.tr pn ex) W → PassesOwn (model X.prog X.w) X.A X.env ex → PSs (X.tr pn ex) body (tb W))
    (sus : ∀ q ∈ q0 :: l, ∀ (a : Addr) (w : Obj) (k : Value) (d : Option Addr) (pn : List (Addr × Obj)), Zc k d w → (∃ fs, w.data = .fields fs) → PSs (X.suite a ((a, w) :: pn)) (q.s0 :: q.su) (q.ts a k d)) :
    PS X (.Try body ((q0 :: l).map (Cl1.h n)) [] [] pos) (fun D t J => tb (wLs X.K Z i D (q0 :: l)) D t J) := ⟨fun ps r t J D I hw => by
  have okX := I.ok
  have fr : X.A.frames = some (X.env :: X.outer) := by rw [okX.frames, hS]
  refine wpAny_Try_except (wpAny_mono ((hb (wLs X.K Z i D (q0 :: l)) (X.pn ++ ps) (fun e r1 => wpAny (model X.prog X.w) X.A (noteFrame e X.env) (fun _ r2 => wpAny (model X.prog X.w) X.A (setFlight e none)
      (fun _ r3 => wpAny (model X.prog X.w) X.A (handleBy e X.env ((q0 :: l).map (Cl1.h n))) (SP X ps D) X.xe r3) X.xe r2) X.xe r1) (fun u r1 caught => ?_) PassesOwn.looking).run [] r t J D (I.toTry _) hw) (fun f r1 got => ?_) fun e r1 he => he)
  · obtain ⟨p, B, rI, ps', t', J', k, d, rfl, I', same, up, sky, free, os, bare, wish⟩ := caught
    have I1 : L2.Inv X ps t' J' rI := I'.ofTry okX
    have sky1 : Sky B (X.env :: X.outer) p (Zc k d) X.env.locals r1.heap := hS ▸ sky
    refine Sky.land Zc.steady fr hF sky1 fun g3 fl3 up3 => ?_
    have moved : ∀ g : Heap, B.StaysIn g → rI.heap.UpToSlots g → L2.Inv X ps t' J' { r1 with heap := g } := fun g sg ug => I1.landed same sg ug os bare
    refine clauses_ls (r := { r1 with heap := g3 }) hS hF hN hi hn okX fl3 (fun g fg ug => moved g fg.1 ((up.trans up3).trans ug)) (moved g3 fl3.1 (up.trans up3)) free (fun z g hg ug => ?_) (q0 :: l) nms sus wish
    refine tk _ _ ⟨p, B, rI, ps, t', J', k, d, rfl, I1, same, (up.trans up3).trans ug, .inr (.inr ?_), free, os, bare, z⟩
    rw [hS]
    exact hg
  · cases f with
    | next =>
      obtain ⟨t6, J6, I6, e6⟩ := got
      exact wpAny_execs_nil ⟨t6, J6, I6.ofTry okX, e6⟩
    | brk =>
      obtain ⟨t6, J6, I6, e6⟩ := got
      exact ⟨t6, J6, I6.ofTry okX, e6⟩
    | cont =>
      obtain ⟨t6, J6, I6, e6⟩ := got
      exact ⟨t6, J6, I6.ofTry okX, e6⟩
    | ret u =>
      obtain ⟨v6, t6, J6, I6, rel, e6⟩ := got
      exact ⟨v6, t6, J6, I6.ofTry okX, rel, e6⟩⟩
end
/-- an exception class that may be raised -/
structure RaiF (X : Cx) (cls : String → Addr) (c : String) : Prop where
  ex : ∃ (B newId initId : String) (bmB : List Value), ExcBaseFacts B newId initId bmB ∧ PySem.W.excIn X.K (cls c) bmB newId = true ∧ X.mg c = some (.ref (cls c)) ∧ PySem.W.keepIn X.K (.ref (cls c)) = true ∧ Raises X (.ref (cls c))
/-- what more is known where statements run -/
structure CtxS (cf : Cf) (X : Cx) (G : Gh) (C : Calls) (W : WX) (cls : String → Addr) : Prop extends Ctx cf X G C W cls where
  fn : ∀ x, X.fn x = true
  po : PassesOwn (model X.prog X.w) X.A X.env X.xe
  xs : X.stack = X.env :: X.outer
  xf : X.env.frame = some X.env.locals
  rai : ∀ c ∈ cf.xcs, RaiF X cls c
  xm : ∀ c ∈ cf.xhs, ∀ d ∈ cf.xcs, PySem.W.exmOne X.K (.ref (cls c)) (.ref (cls d)) = some (isXc c (.xc d))
  xk : ∀ c ∈ cf.xhs, ExcC X.K (cls c) ∧ ∀ t, xTy cf t = true → PySem.W.kitOne X.K (.ref (cls c)) (tyXV cls t) = some (isXc c t)
/-- what is wanted behind a statement -/
def RSQ (G : Gh) (W : WX) (cls : String → Addr) (H : Hp) (fp : Nat → List Addr) (r : RS) (D : Ends) : Prop := match r with
  | .nx env' => ∀ σ' H' fp', SE G H' σ' env' fp' → Stp (In fp) H (In fp') H' → D.nx σ' H'
  | .rt d env' => ∀ v σ' H' fp' fd, SE G H' σ' env' fp' → RD G.K G.Cl H' d v fd → fd.Nodup → (∀ a ∈ fd, ¬ In fp' a ∧ ¬ G.Z a) → Stp (In fp) H (fun a => In fp' a ∨ a ∈ fd) H' → D.rt v H'
  | .ex c env' => ∀ σ' H' fp', SE G H' σ' env' fp' → Stp (In fp) H (In fp') H' → W (.ref (cls c)) none σ' H'
  | .st => False
def rdX (G : Gh) (W : WX) (cls : String → Addr) (r : Env → RS) : TS := fun D σ H => ∃ env fp, SE G H σ env fp ∧ RSQ G W cls H fp (r env) D
section
variable {cf : Cf} {X : Cx} {G : Gh} {C : Calls} {W : WX} {cls : String → Addr} {H H1 : Hp} {fp fp1 : Nat → List Addr} {D D' : Ends} {σ : L2.St}
theorem RSQ.go {α : Type} {r : R α} {f : α → Env → RS} (h : RSQ G W cls H fp (r.go f) D) : RQ G W cls σ H fp r fun a env' => RSQ G W cls H fp (f a env') D := by
  cases r with
  | ok a e => exact h
  | ex c e => exact fun H' fp' se st => h σ H' fp' se st
  | st => exact h
theorem RSQ.later {r : RS} (h : RSQ G W cls H fp r D) (s : Stp (In fp) H (In fp1) H1) : RSQ G W cls H1 fp1 r D := by
  cases r with
  | nx e => exact fun σ' H' fp' se st => h σ' H' fp' se (s.trans st)
  | rt d e => exact fun v σ' H' fp' fd se rd nd ap st => h v σ' H' fp' fd se rd nd ap (s.trans st)
  | ex c e => exact fun σ' H' fp' se st => h σ' H' fp' se (s.trans st)
  | st => exact h
theorem RSQ.then {r : RS} {f : Env → RS} (h : RSQ G W cls H fp (r.then f) D) : RSQ G W cls H fp r { D with nx := rdX G W cls f D } := by
  cases r with
  | nx e => exact fun σ' H' fp' se st => ⟨e, fp', se, RSQ.later h st⟩
  | rt d e => exact h
  | ex c e => exact h
  | st => exact h
/-- what is wanted, from what is wanted -/
theorem RSQ.imp {r : RS} (h : RSQ G W cls H fp r D) (n : ∀ env' σ' H' fp', r = .nx env' → SE G H' σ' env' fp' → Stp (In fp) H (In fp') H' → D.nx σ' H' → D'.nx σ' H') (hr : ∀ v H', D.rt v H' → D'.rt v H') : RSQ G W cls H fp r D' := by
  cases r with
  | nx e => exact fun σ' H' fp' se st => n e σ' H' fp' rfl se st (h σ' H' fp' se st)
  | rt d e => exact fun v σ' H' fp' fd se rd nd ap st => hr v H' (h v σ' H' fp' fd se rd nd ap st)
  | ex c e => exact h
  | st => exact h

/-! ### statements, one by one -/
theorem ds_skip {f : Env → RS} (hf : f = fun env => .nx env) : PSs X [] (rdX G W cls f) := PSs_imp pss_nil fun D σ H ⟨env, fp, se, T⟩ => by
  subst hf
  exact T σ H fp se Stp.refl
theorem ds_pass {st : Stmt} (h : PS X st tNext) : PS X st (rdX G W cls fun env => .nx env) := PS_imp h fun D σ H ⟨env, fp, se, T⟩ => T σ H fp se Stp.refl
theorem ds_seq {st : Stmt} {rest : List Stmt} {f g : Env → RS} (h1 : PS X st (rdX G W cls f)) (h2 : PSs X rest (rdX G W cls g)) : PSs X (st :: rest) (rdX G W cls fun env => (f env).then g) :=
  PSs_imp (pss_cons h1 h2) fun D σ H ⟨env, fp, se, T⟩ => ⟨env, fp, se, T.then⟩
theorem ds_gh {b : List Stmt} {i : Nat} {g : Env → RS} (h : PSs X b (rdX G W cls g)) : PSs X b (rdX G W cls fun env => (exec C (.gh i) env).then g) := by
  refine ⟨fun pins s σ H D I ⟨env, fp, se, T⟩ => ?_⟩
  simp only [exec] at T
  split at T
  · rename_i d hx
    split at T
    · rename_i x hf
      obtain ⟨v, h1, h2⟩ := se.ow hx
      rcases frz_rp h2 hf with ⟨r, e0⟩ | ⟨a, u, rfl, ha, mu, e0, r⟩
      · have se' := se.put (i := i) (s := .ow (.p x)) (o := some v) (f := []) (ow_lt hx) ⟨fun _ _ h => h, fun _ _ _ h => h⟩ (fun _ _ _ h => h) ⟨v, rfl, r, rfl⟩ .nil (fun _ z => nomatch z)
        rw [σ_set h1] at se'
        refine h.run pins s σ H D I ⟨_, _, se', RSQ.later T ⟨fun _ _ h _ => h, fun a ha => .inl ?_⟩⟩
        obtain ⟨j, hj⟩ := ha
        by_cases e : j = i
        · simp only [if_pos e] at hj; cases hj
        · simp only [if_neg e] at hj; exact ⟨j, hj⟩
      · refine (pss_frz h).run pins s σ H D I ⟨a, u, ha, mu, fun o => ?_⟩
        have hin : a ∈ fp i := by rw [e0]; simp
        have im : Imm H (upd H a (.frz o u)) := imm_upd ha mu
        have se' := se.put (i := i) (s := .ow (.p x)) (o := some (.ref a)) (f := []) (ow_lt hx) im (fun b hb ob e => by
          rw [upd_ne (fun z => ?_)]; exact e
          subst z
          rcases hb with ⟨j, hj, hm⟩ | hz
          · exact hj (se.dj j i b hm hin)
          · exact (se.zz b hz).1 ⟨i, hin⟩) ⟨_, rfl, r o, rfl⟩ .nil (fun _ z => nomatch z)
        rw [σ_set h1] at se'
        refine ⟨_, _, se', RSQ.later T ⟨fun b ob e hb => ?_, fun b hb => .inl ?_⟩⟩
        · rw [upd_ne (fun z => hb (by rw [z]; exact ⟨i, hin⟩))]; exact e
        · obtain ⟨j, hj⟩ := hb
          by_cases e : j = i
          · simp only [if_pos e] at hj; cases hj
          · simp only [if_neg e] at hj; exact ⟨j, hj⟩
    · exact T.elim
  · exact T.elim
theorem bindS_of {env env' : Env} {i : Nat} {d : DL.D} (h : bindS env i d = some env') : i < env.length ∧ env' = env.set i (.ow d) := by
  unfold bindS at h
  split at h <;> first
    | (cases h; done)
    | (split at h
       · rename_i hl; cases h; exact ⟨hl, rfl⟩
       · cases h)
/-- a value is bound to a slot -/
theorem bind_se {env env' : Env} {i : Nat} {d : DL.D} {v : V} {fd : List Addr} (se : SE G H σ env fp) (hb : bindS env i d = some env') (rd : RD G.K G.Cl H d v fd) (nd : fd.Nodup) (ap : ∀ a ∈ fd, ¬ In fp a ∧ ¬ G.Z a) :
    ∃ fp', SE G H (σ.set i (some v)) env' fp' ∧ ∀ {F : Fp} {H0 : Hp}, Stp F H0 (fun a => In fp a ∨ a ∈ fd) H → Stp F H0 (In fp') H := by
  obtain ⟨hl, rfl⟩ := bindS_of hb
  have se' := se.put (i := i) (s := .ow d) (o := some v) (f := fd) hl ⟨fun _ _ h => h, fun _ _ _ h => h⟩ (fun _ _ _ h => h) ⟨v, rfl, rd⟩ nd fun a ha => ⟨fun j _ hj => (ap a ha).1 ⟨j, hj⟩, (ap a ha).2⟩
  refine ⟨_, se', fun {F H0} st => st.less fun a ⟨j, hj⟩ => ?_⟩
  by_cases e : j = i
  · simp only [if_pos e] at hj; exact .inr hj
  · simp only [if_neg e] at hj; exact .inl ⟨j, hj⟩
theorem bindR_of {env : Env} {i : Nat} {d : DL.D} (h : RSQ G W cls H fp (bindR env i d) D) : ∃ env', bindS env i d = some env' ∧ RSQ G W cls H fp (.nx env') D := by
  unfold bindR at h
  split at h
  · rename_i e he; exact ⟨e, he, h⟩
  · exact h.elim
theorem set_imp {i : Nat} {te : Env → R DL.D} (h : rdX G W cls (fun env => (te env).go fun d env => bindR env i d) D σ H) : rdV G W cls false te σ H fun x H1 => D.nx (σ.set i (some x)) H1 := by
  obtain ⟨env, fp, se, T⟩ := h
  exact ⟨env, fp, se, T.go.imp fun d env1 T v H1 fp1 fd se1 rd nd ap st _ => by
    obtain ⟨env2, hb, T⟩ := bindR_of T
    obtain ⟨fp2, se2, st2⟩ := bind_se se1 hb rd nd ap
    exact T _ H1 fp2 se2 (st2 st)⟩
theorem ds_set {i : Nat} {x : Str} {e : Expr} {te : Env → R DL.D} {q : Bool} {p pos : Pos} (cx : CtxS cf X G C W cls) (hi : X.N[i]? = some x) (hx : Loc X.env.scope x) (he : PE X e (rdV G W cls q te)) (hs : swapsWith e (some (.Name x p)) pos.line X.env = pure false) :
    PS X (.Assign [.Name x p] e pos) (rdX G W cls fun env => (te env).go fun d env => bindR env i d) := PS_imp (ps_set cx.nd hi hx (de_weak he) hs (.inl (cx.fn x))) fun D σ H h => set_imp h
/-! what changes an item -/
def rSetN (w : World) : V → V → V → Hp → (Hp → Prop) → Prop := fun ov iv v H Q => ∃ (a b : Addr) (kvs : List (P × P)) (xs : List (NestedKey × Addr × V)) (k d : P) (nk : NestedKey), ov = .ref a ∧ iv = .ref b ∧ H a = some (.ext (rawN w a xs)) ∧ RN H kvs xs ∧ xs.length < sizeLine ∧
  keyT k = some nk ∧ RP H k (.ref b) ∧ RP H d v ∧ ∀ xs', RN H (dput kvs k d) xs' → Q (upd H a (.ext (rawN w a xs')))
theorem set_nest (hu : X.A.units + 66 < cLine) : PSet X (rSetN X.w) := by
  intro pins s σ H o i v ov iv u Q I r1 r2 r3 h
  obtain ⟨a, b, kvs, xs, k, d, nk, rfl, rfl, e, rn, hl, hk, rk, rd, q⟩ := h
  cases r1
  cases r2
  exact n_set hu I e rn hl hk rk rd r3 fun xs' s' r1 I1 => ⟨_, I1, q xs' r1⟩
theorem RD1s.setP {H : Hp} {a y : P} {xv : V} (rx : RP H a xv) : ∀ {ds : List D1} {vs : List V} {f : List Addr} {n : Nat}, RD1s H ds vs f → ds[n]? = some (.p y) → RD1s H (ds.set n (.p a)) (vs.set n xv) f
  | [], _, _, n, _, e => by simp at e
  | d :: ds, _, _, 0, h, e => by
    obtain ⟨v, r, f1, f2, rfl, q, z, rfl⟩ := h
    simp only [List.getElem?_cons_zero, Option.some.injEq] at e
    subst e
    obtain ⟨_, rfl⟩ := q
    exact ⟨xv, r, [], f2, rfl, ⟨rx, rfl⟩, z, rfl⟩
  | d :: ds, _, _, n + 1, h, e => by
    obtain ⟨v, r, f1, f2, rfl, q, z, rfl⟩ := h
    exact ⟨v, _, f1, f2, rfl, q, RD1s.setP rx z (by simpa using e), rfl⟩
theorem setAt_ok {w : World} (hw : G.Cl.w = w) {H : Hp} {v yv xv : V} {k a : P} {d res d' : DL.D} {fd : List Addr} {Q : Hp → Prop} (r1 : RD G.K G.Cl H d v fd) (ry : RP H k yv) (rx : RP H a xv) (nd : fd.Nodup) (e : setAt k a d = some (res, d')) (q : Chg G H v fd [] d' res fun _ H' => Q H') :
    (rSetL v yv xv H Q ∨ rSetD v yv xv H Q) ∨ rSetN w v yv xv H Q := by
  unfold setAt at e
  split at e
  · rename_i xs
    split at e
    · rename_i i
      obtain ⟨n, hn, e⟩ := Option.map_eq_some_iff.mp e
      cases e
      obtain ⟨b, vs, rfl, h1, s1, rfl⟩ := r1
      exact .inl (.inl ⟨b, vs, i, n, rfl, ry.int, h1, by rw [s1.length]; exact hn, q.ml h1 (s1.set n rx) ⟨.none, rfl, show RP H .none .non by rw [RP]⟩⟩)
    · cases e
  · rename_i kvs
    split at e
    · rename_i hk
      cases e
      obtain ⟨key, hkey⟩ := Option.isSome_iff_exists.mp hk.1
      obtain ⟨b, kw, rfl, h1, s1, rfl⟩ := r1
      have ey := keyP_kV ry hkey
      have im : Imm H (upd H b (.dK (putK kw key xv))) := imm_upd h1 trivial
      refine .inl (.inr ⟨b, _, rfl, .inl ⟨kw, key, h1, ey, by rw [s1.length]; exact hk.2, rfl⟩, ?_⟩)
      exact q _ .non [b] [] ⟨b, _, rfl, upd_same, (s1.put hkey rx).mono im _ _, rfl⟩ ⟨by rw [RP], rfl⟩ (by simp) (fun c hc => .inl (by simpa using hc)) (away_upd (by simp)) im
    · cases e
  · rename_i kvs
    split at e
    · rename_i hk
      cases e
      obtain ⟨nk, hkey⟩ := Option.isSome_iff_exists.mp hk.1
      obtain ⟨b, xs, rfl, h1, s1, rfl⟩ := r1
      obtain ⟨c, rfl⟩ := keyT_ref hkey ry
      refine .inr ⟨b, c, kvs, xs, k, a, nk, rfl, rfl, by rw [← hw]; exact h1, s1, by rw [s1.len]; exact hk.2, hkey, ry, rx, fun xs' rn' => ?_⟩
      have im : Imm H (upd H b (.ext (rawN w b xs'))) := imm_upd h1 trivial
      exact q _ .non [b] [] ⟨b, _, rfl, by rw [hw]; exact upd_same, rn'.mono im, rfl⟩ ⟨by rw [RP], rfl⟩ (by simp) (fun c hc => .inl (by simpa using hc)) (away_upd (by simp)) im
    · cases e
  · rename_i xs
    split at e
    · rename_i i
      split at e
      · rename_i n hn
        split at e
        · rename_i y hy
          cases e
          obtain ⟨b, vs, f, rfl, h1, s1, rfl⟩ := r1
          exact .inl (.inl ⟨b, vs, i, n, rfl, ry.int, h1, by rw [s1.length]; exact hn, q.ne (fr := []) h1 (s1.setP rx hy) (D1.toD (d := .p .none) ⟨by rw [RP], rfl⟩) (by simpa using nd) fun c hc => .inl (by simpa using hc)⟩)
        · cases e
      · cases e
    · cases e
  · cases e
theorem modS_of {o : E} {env : Env} {f : DL.D → Option (DL.D × DL.D)} (h : RSQ G W cls H fp (modS o env f) D) : ∃ r env', modP o env f = some (r, env') ∧ RSQ G W cls H fp (.nx env') D := by
  unfold modS at h
  split at h
  · rename_i r hr; exact ⟨r.1, r.2, hr, h⟩
  · exact h.elim
theorem ds_setI {i : Nat} {o k e : Expr} {te tk : Env → R DL.D} {q : Bool} {p pos : Pos} (cx : CtxS cf X G C W cls) (ho : PE X o (tVar i)) (hk : PE X k (rdV G W cls true tk)) (he : PE X e (rdV G W cls q te)) (hp : nsl k = true) (hw : swapsWith e (some (.Subscript o k p)) pos.line X.env = pure false) :
    PS X (.Assign [.Subscript o k p] e pos) (rdX G W cls fun env => (asP (te env)).go fun x env => if (brw (.v i) env).isSome = true then (asP (tk env)).go fun y env => modS (.v i) env (setAt y x) else .st) := by
  have hset : PSet X fun ov iv v H Q => (rSetL ov iv v H Q ∨ rSetD ov iv v H Q) ∨ rSetN X.w ov iv v H Q := fun pins s σ H o i v ov iv u Q I r1 r2 r3 h => h.elim (fun h => h.elim (set_list pins s σ H o i v ov iv u Q I r1 r2 r3) (set_dict (by have := cx.units; omega) pins s σ H o i v ov iv u Q I r1 r2 r3)) (set_nest cx.units pins s σ H o i v ov iv u Q I r1 r2 r3)
  have hsub : PG X (.Subscript o k p) (gSub (tVar i) (rdV G W cls true tk) fun ov iv v H Q => (rSetL ov iv v H Q ∨ rSetD ov iv v H Q) ∨ rSetN X.w ov iv v H Q) := pg_sub ho hk hset (by
    intro v
    cases k <;> first | rfl | (cases hp))
  refine PS_imp (ps_asg he hsub hw) fun D σ H ⟨env, fp, se, T⟩ => ?_
  refine rdV_p se (T.go.imp fun x env1 T v H1 fp1 se1 rv st1 sm1 => ?_)
  split at T
  · rename_i hbr
    obtain ⟨d0, hd0⟩ := Option.isSome_iff_exists.mp hbr
    have hd0 : (gt env1 i).rd = some d0 := hd0
    obtain ⟨w, f, hw1, _, _⟩ := se1.rd hd0
    have T2 : RQ G W cls σ H fp (asP (tk env1)) fun y env' => RSQ G W cls H fp (modS (.v i) env' (setAt y x)) D := RSQ.go T
    refine ⟨w, hw1, rdV_p se1 (T2.later st1 fun y env2 T3 y2 H2 fp2 se2 ry st2 sm2 => ?_)⟩
    obtain ⟨sm, rfl⟩ := sm2 rfl
    obtain ⟨res, env3, em, T4⟩ := modS_of T3
    obtain ⟨d, d', rd, ef, qq⟩ := se_chg (fa := []) (Q := fun _ H' => D.nx σ H') se2 hw1 (fun a ha => nomatch ha) em fun rv H' fp' fd s1 r1 n1 a1 st3 => T4 σ H' fp' s1 ((st1.trans st2).trans ⟨fun b o eo hb => st3.st b o eo fun h => h.elim hb (fun z => nomatch z), fun b hb => (st3.ow b (.inl hb)).imp (fun h => h.elim id fun z => nomatch z) id⟩)
    exact setAt_ok cx.wd rd ry (rv.mono (same_imm sm) _ _) (se2.nd _) ef qq
  · exact T.elim
theorem RFs.length {H : Hp} : ∀ {ds : List (Fld × D1)} {vs : List (Str × V)} {ff : List Addr}, RFs H ds vs ff → vs.length = ds.length
  | [], _, _, h => by rw [h.1]; rfl
  | (g, d) :: ds, _, _, h => by
    obtain ⟨v, r, f1, f2, rfl, q, z, rfl⟩ := h
    rw [List.length_cons, List.length_cons, RFs.length z]
/-- an attribute is stored -/
theorem ds_setF {f : Fld} {i : Nat} {o e : Expr} {te : Env → R DL.D} {q : Bool} {p pos : Pos} (cl : Cls X.K G.Cl.a ∧ ∀ g : Fld, NoAttr X.K G.Cl.a g.name) (ho : PE X o (tVar i)) (he : PE X e (rdV G W cls q te)) (hw : swapsWith e (some (.Attribute o f.name p)) pos.line X.env = pure false) :
    PS X (.Assign [.Attribute o f.name p] e pos) (rdX G W cls fun env => (te env).go fun d env => (R.of d.d1 env).go fun x env => modS (.v i) env (setFd f x)) := PS_imp (ps_fld ho he hw) fun D σ H ⟨env, fp, se, T⟩ => by
  refine ⟨env, fp, se, T.go.imp fun d env1 T y H1 fp1 fd1 se1 rd1 nd1 ap1 st1 sm1 => ?_⟩
  obtain ⟨x, hx, T⟩ := RQ.of (RSQ.go (σ := σ) T)
  obtain ⟨res, env2, em, T⟩ := modS_of T
  obtain ⟨d0, hd0⟩ := modP_brw (o := .v i) rfl em
  obtain ⟨v, f0, hv, _, _⟩ := se1.rd (show (gt env1 i).rd = some d0 from hd0)
  obtain ⟨d1, dd, r0, ef, qq⟩ := se_chg (fa := fd1) (Q := fun _ H' => D.nx σ H') se1 hv ap1 em fun rv H' fp' fd s1 r1 n1 a1 st2 => T σ H' fp' s1 (st1.trans st2).drop
  unfold setFd at ef
  split at ef
  · rename_i fs
    split at ef
    · rename_i hlen
      cases ef
      have nd := se1.nd i
      have hin : ∀ b ∈ fp1 i, In fp1 b := fun b hb => ⟨i, hb⟩
      obtain ⟨a, dx, fs', ff, rfl, h2, h3, efp⟩ := r0
      rw [efp] at nd qq
      obtain ⟨na, nf⟩ := List.nodup_cons.mp nd
      have hin2 : ∀ b ∈ a :: ff, In fp1 b := fun b hb => hin b (by rw [efp]; exact hb)
      obtain ⟨ff2, k1, k2, k3⟩ := RFs.put (f := f) (DL.D.toD1 rd1 hx) h3 (List.nodup_append.mpr ⟨nf, nd1, fun b hb c hc e => (ap1 c hc).1 (hin2 c (by rw [← e]; exact List.mem_cons_of_mem _ hb))⟩)
      have na2 : a ∉ ff2 := fun h => (k3 a h).elim na fun h => (ap1 a h).1 (hin2 a (by simp))
      have im : Imm H1 (upd H1 a (.ins G.Cl.a dx (putF f.name y fs'))) := imm_upd h2 trivial
      refine ⟨.ref a, hv, a, G.Cl.a, dx, fs', rfl, h2, cl.1, cl.2 f, by rw [h3.length]; omega, ?_⟩
      refine qq _ .non (a :: ff2) [] ⟨a, dx, _, ff2, rfl, upd_same, k1.keep ⟨im, fun b hb o eb => by rw [upd_ne (fun z => na2 (by rw [← z]; exact hb))]; exact eb⟩, rfl⟩ ⟨by rw [RP], rfl⟩ (by rw [List.append_nil]; exact List.nodup_cons.mpr ⟨na2, k2⟩) (fun b hb => ?_) (away_upd (by simp)) im
      rw [List.append_nil] at hb
      rcases List.mem_cons.mp hb with rfl | hb
      · exact .inl (by simp)
      · exact (k3 b hb).imp (List.mem_cons_of_mem _) id
    · cases ef
  · cases ef
theorem ds_ex {e : Expr} {te : Env → R DL.D} {q : Bool} {pos : Pos} (he : PE X e (rdV G W cls q te)) (hs : swapsWith e none pos.line X.env = pure false) :
    PS X (.Expr e pos) (rdX G W cls fun env => (te env).go fun _ env => .nx env) := PS_imp (ps_expr he hs) fun D σ H ⟨env, fp, se, T⟩ =>
  ⟨env, fp, se, T.go.imp fun d env1 T v H1 fp1 fd se1 rd nd ap st _ => T σ H1 fp1 se1 st.drop⟩
theorem ds_ret {e : Expr} {te : Env → R DL.D} {q : Bool} {pos : Pos} (he : PE X e (rdV G W cls q te)) :
    PS X (.Return (some e) pos) (rdX G W cls fun env => (te env).go fun d env => .rt d env) := PS_imp (ps_ret he) fun D σ H ⟨env, fp, se, T⟩ =>
  ⟨env, fp, se, T.go.imp fun d env1 T v H1 fp1 fd se1 rd nd ap st _ => T v σ H1 fp1 fd se1 rd nd ap st⟩
theorem ds_retN {pos : Pos} : PS X (.Return none pos) (rdX G W cls fun env => .rt nonD env) := PS_imp ps_retN fun D σ H ⟨env, fp, se, T⟩ =>
  T .non σ H fp [] se ⟨by rw [RP], rfl⟩ .nil (fun _ z => nomatch z) Stp.refl.nil
theorem ds_ite {c : Expr} {a b : List Stmt} {tc : Env → R Bool} {f g : Env → RS} {pos : Pos} (hc : PT X c (rdT G W cls tc)) (ha : PSs X a (rdX G W cls f)) (hb : PSs X b (rdX G W cls g)) :
    PS X (.If c a b pos) (rdX G W cls fun env => (tc env).go fun k env => if k = true then f env else g env) := PS_imp (ps_if hc ha hb) fun D σ H ⟨env, fp, se, T⟩ =>
  ⟨env, fp, se, T.go.imp fun k env1 T H1 fp1 se1 st => by
    cases k with
    | true => exact ⟨env1, fp1, se1, RSQ.later T st⟩
    | false => exact ⟨env1, fp1, se1, RSQ.later T st⟩⟩

/-! ### loops -/
theorem while_in {tc : Env → R Bool} {f : Env → RS} : ∀ (n : Nat) (σ : L2.St) (H : Hp) (env : Env) (fp : Nat → List Addr), SE G H σ env fp → RSQ G W cls H fp (whL tc f n env) D →
    rdT G W cls tc σ H fun b H1 => if b = true then rdX G W cls f { D with nx := fun σ' H' => ∃ m, m < n ∧ ∃ env' fp', SE G H' σ' env' fp' ∧ RSQ G W cls H' fp' (whL tc f m env') D } σ H1 else D.nx σ H1
  | 0, σ, H, env, fp, se, T => T.elim
  | n + 1, σ, H, env, fp, se, T => by
    refine ⟨env, fp, se, (RSQ.go T).imp fun k env1 T H1 fp1 se1 st => ?_⟩
    cases k with
    | false => exact RSQ.later T st σ H1 fp1 se1 Stp.refl
    | true =>
      refine ⟨env1, fp1, se1, RSQ.later ((RSQ.then T).imp (fun env' σ' H' fp' _ _ _ h => ?_) (fun _ _ h => h)) st⟩
      obtain ⟨env2, fp2, se2, T2⟩ := h
      exact ⟨n, Nat.lt_succ_self n, env2, fp2, se2, T2⟩
theorem ds_whl {c : Expr} {b : List Stmt} {tc : Env → R Bool} {f : Env → RS} {n : Nat} {pos : Pos} (cx : CtxS cf X G C W cls) (hc : PT X c (rdT G W cls tc)) (hb : PSs X b (rdX G W cls f)) :
    PS X (.While c b [] pos) (rdX G W cls fun env => whL tc f n env) := PS_imp (ps_while cx.po hc hb) fun D σ H ⟨env, fp, se, T⟩ => by
  refine ⟨fun m σ H => ∃ env fp, SE G H σ env fp ∧ RSQ G W cls H fp (whL tc f m env) D, ⟨n, env, fp, se, T⟩, fun m σ1 H1 ⟨env1, fp1, se1, T1⟩ => ?_⟩
  obtain ⟨env1', fp1', se1', T1'⟩ := while_in (D := D) m σ1 H1 env1 fp1 se1 T1
  refine ⟨env1', fp1', se1', T1'.imp fun k env2 T2 H2 fp2 se2 st2 => ?_⟩
  have q := T2 H2 fp2 se2 st2
  cases k with
  | false => exact q
  | true =>
    show ∃ N : L2.St → Hp → Prop, _ ∧ _
    refine ⟨fun σ' H' => ∃ m', m' < m ∧ ∃ env' fp', SE G H' σ' env' fp' ∧ RSQ G W cls H' fp' (whL tc f m' env') D, fun σ' H' ⟨m', hm, h⟩ => ⟨m', hm, h⟩, ?_⟩
    obtain ⟨env3, fp3, se3, T3⟩ := q
    exact ⟨env3, fp3, se3, T3.imp (fun _ _ _ _ _ _ _ h => h) fun _ _ h => h⟩
/-- an item leaves what stands as it is -/
theorem Item.same {t : Bool} {p : P} {x : V} {H1 H1' : Hp} (h : Item t p x H1 H1') : L2.Same H1 H1' := by
  rcases h with ⟨rfl, _⟩ | ⟨T, u, w, a, b, _, _, _, hn, rfl, _⟩
  · exact L2.Same.refl _
  · exact same_upd hn
theorem Imm.trans {A B Cc : Hp} (a : Imm A B) (b : Imm B Cc) : Imm A Cc := ⟨fun x o h => b.1 x o (a.1 x o h), fun x o t h => b.2 x o t (a.2 x o t h)⟩
/-- a for over data, whatever the body does with the item: from a turn's step -/
theorem for_core {tg iter : Expr} {b : List Stmt} {ti : Env → R (List P)} {F : P → Env → RS} {g : TG} {tb : TS} {pos : Pos} {tt : Bool} (cx : CtxS cf X G C W cls) (hc : X.calm = true) (hi : PI X tg iter (rdI G W cls tt ti)) (hg : PG X tg g) (hb : PSs X b tb)
    (hs : ∀ x, foldedSetIterable iter X.env x = pure x)
    (step : ∀ (p : P) (x : V) (σ : L2.St) (H H' : Hp) (env : Env) (fp : Nat → List Addr) (Dd : Ends), SE G H σ env fp → Item tt p x H H' → RSQ G W cls H fp (F p env) Dd → g x σ H' fun σ2 H2 => tb Dd σ2 H2) :
    PS X (.For tg iter b [] pos) (rdX G W cls fun env => (ti env).go fun xs env => forL F xs env) := PS_imp (ps_for cx.po hc hi hg hb hs) fun D σ H ⟨env, fp, se, T⟩ => by
  refine ⟨env, fp, se, T.go.imp fun ds env1 T J H1 fp1 Gd Y se1 st1 wk gd items => ?_⟩
  refine for_it wk (fun k σ H2 => ∃ env fp, SE G H2 σ env fp ∧ Imm H1 H2 ∧ RSQ G W cls H2 fp (forL F (ds.drop k) env) D) ⟨env1, fp1, se1, ⟨fun _ _ h => h, fun _ _ _ h => h⟩, by rw [List.drop_zero]; exact RSQ.later T st1⟩ (fun i σ H2 _ ⟨_, _, _, im, _⟩ => gd H2 im) ?_ ?_
  · rintro k x σ2 H2 H3 hk ⟨env2, fp2, se2, im, T2⟩ y
    obtain ⟨p, hp, it⟩ := items k H2 x H3 hk im y
    have hd : ds.drop k = p :: ds.drop (k + 1) := by
      rw [List.drop_eq_getElem_cons hk]
      rw [List.getElem?_eq_getElem hk] at hp
      cases hp
      rfl
    rw [hd] at T2
    have T3 : RSQ G W cls H2 fp2 ((F p env2).then fun env => forL F (ds.drop (k + 1)) env) D := T2
    refine step p x σ2 H2 H3 env2 fp2 _ se2 it ((RSQ.then T3).imp (fun env' σ' H' fp' _ se' st' h => ?_) fun _ _ h => h)
    obtain ⟨env3, fp3, se3, T4⟩ := h
    exact ⟨env3, fp3, se3, im.trans (st'.imm se2.owned), T4⟩
  · rintro σ2 H2 ⟨env2, fp2, se2, im, T2⟩
    have hl : ds.drop ds.length = [] := List.drop_length
    rw [hl] at T2
    exact T2 σ2 H2 fp2 se2 Stp.refl
theorem ds_for1 {i : Nat} {x : Str} {iter : Expr} {b : List Stmt} {ti : Env → R (List P)} {f : Env → RS} {p pos : Pos} (cx : CtxS cf X G C W cls) (hc : X.calm = true) (hn : X.N[i]? = some x) (hx : Loc X.env.scope x) (hi : PI X (.Name x p) iter (rdI G W cls false ti)) (hb : PSs X b (rdX G W cls f))
    (hs : ∀ x, foldedSetIterable iter X.env x = pure x) :
    PS X (.For (.Name x p) iter b [] pos) (rdX G W cls fun env => (ti env).go fun xs env => forL (fun x env => (bindR env i (.p x)).then f) xs env) :=
  for_core cx hc hi (pg_name cx.nd hn hx (.inl (cx.fn x))) hb hs fun p x σ H H' env fp Dd se it T => by
    rcases it with ⟨rfl, r⟩ | ⟨_, _, _, _, _, z, _⟩
    · obtain ⟨env2, hb2, T⟩ := bindR_of (RSQ.then T)
      obtain ⟨fp2, se2, st2⟩ := bind_se (fd := []) se hb2 ⟨r, rfl⟩ .nil (fun _ z => nomatch z)
      exact T _ _ fp2 se2 (st2 Stp.refl.nil)
    · cases z
theorem ds_for2 {i j : Nat} {x y : Str} {iter : Expr} {b : List Stmt} {ti : Env → R (List P)} {f : Env → RS} {p p2 tp pos : Pos} {kk : Nat} (cx : CtxS cf X G C W cls) (hK : X.K = G.K) (hc : X.calm = true) (hn : X.N[i]? = some x) (hx : Loc X.env.scope x) (hn2 : X.N[j]? = some y) (hx2 : Loc X.env.scope y)
    (hi : PI X (.Tuple [.Name x p, .Name y p2] kk tp) iter (rdI G W cls true ti)) (hb : PSs X b (rdX G W cls f)) (hs : ∀ x, foldedSetIterable iter X.env x = pure x) :
    PS X (.For (.Tuple [.Name x p, .Name y p2] kk tp) iter b [] pos) (rdX G W cls fun env => (ti env).go fun xs env => forL (fun x env => (R.of (tup2 x) env).go fun u env => (bindR env i (.p u.1)).then fun env => (bindR env j (.p u.2)).then f) xs env) :=
  for_core cx hc hi (pg_tup hc (pgs_cons (pg_name cx.nd hn hx (.inl (cx.fn x))) (pgs_cons (pg_name cx.nd hn2 hx2 (.inl (cx.fn y))) pgs_nil))) hb hs fun p v σ H H' env fp Dd se it T => by
    cases ht : tup2 p with
    | none => rw [ht] at T; exact T.elim
    | some u =>
      rw [ht] at T
      have sm := it.same
      have se0 := se.same sm
      obtain ⟨a, q, vs, hv, ha, hr1, hr2⟩ : ∃ a q vs, v = .ref a ∧ SqT X.K H' a vs ∧ (∃ w, vs = [q, w] ∧ RP H' u.2 w) ∧ RP H' u.1 q := by
        rcases it with ⟨rfl, r⟩ | ⟨T0, u1, w1, a1, b1, _, rfl, rfl, hn0, rfl, ra, rb⟩
        · unfold tup2 at ht
          split at ht
          · cases ht
            obtain ⟨a, vs, rfl, h1, h2⟩ := r.tuple
            rw [RPs] at h2
            obtain ⟨q, r1, rfl, k1, h2⟩ := h2
            rw [RPs] at h2
            obtain ⟨w, r2, rfl, k2, h2⟩ := h2
            rw [RPs] at h2
            subst h2
            exact ⟨a, q, _, rfl, h1.sq, ⟨w, rfl, k2⟩, k1⟩
          · cases ht
        · cases ht
          exact ⟨T0, u1, _, rfl, .inl (.inl upd_same), ⟨w1, rfl, rb.mono (same_imm (same_upd hn0)) _ _⟩, ra.mono (same_imm (same_upd hn0)) _ _⟩
      obtain ⟨w, rfl, hr1⟩ := hr1
      refine ⟨a, _, hv, ha, rfl, q, _, rfl, w, _, rfl, rfl, ?_⟩
      have T1 : RSQ G W cls H fp ((bindR env i (.p u.1)).then fun env => (bindR env j (.p u.2)).then f) Dd := T
      have st0 : Stp (In fp) H (In fp) H' := same_stp sm
      obtain ⟨env2, hb2, T2⟩ := bindR_of (RSQ.then (RSQ.later T1 st0))
      obtain ⟨fp2, se2, st2⟩ := bind_se (fd := []) se0 hb2 ⟨hr2, rfl⟩ .nil (fun _ z => nomatch z)
      obtain ⟨env3, fp3, se3, T3⟩ := T2 _ _ fp2 se2 (st2 Stp.refl.nil)
      obtain ⟨env4, hb4, T4⟩ := bindR_of (RSQ.then T3)
      obtain ⟨fp4, se4, st4⟩ := bind_se (fd := []) se3 hb4 ⟨hr1, rfl⟩ .nil (fun _ z => nomatch z)
      exact T4 _ _ fp4 se4 (st4 Stp.refl.nil)
/-! ### try -/
theorem SE.toX (se : SE G H σ env fp) (h : G.xa = none) (x : Option (Addr × String)) : SE { G with xa := x } H σ env fp :=
  ⟨se.len, fun i hi => by
    obtain ⟨o, e1, r⟩ := se.sl i hi
    refine ⟨o, e1, ?_⟩
    cases q : gt env i with
    | xc c =>
      rw [q] at r
      obtain ⟨_, a, _, z⟩ := r
      rw [h] at z
      cases z
    | no => rw [q] at r; exact r
    | ow d => rw [q] at r; exact r
    | bo d => rw [q] at r; exact r
    | ro d => rw [q] at r; exact r, se.off, se.nd, se.dj, se.zz⟩
theorem noXc_of {env : Env} (h : noXc env = true) (i : Nat) (c : String) : gt env i ≠ .xc c := by
  induction env generalizing i with
  | nil => intro z; cases z
  | cons s r ih =>
    simp only [noXc, List.all_cons, Bool.and_eq_true] at h
    cases i with
    | zero =>
      intro z
      have z' : s = .xc c := z
      subst z'
      cases h.1
    | succ i => exact ih h.2 i
theorem SE.ofX {x : Option (Addr × String)} (se : SE { G with xa := x } H σ env fp) (h : noXc env = true) : SE G H σ env fp :=
  ⟨se.len, fun i hi => by
    obtain ⟨o, e1, r⟩ := se.sl i hi
    refine ⟨o, e1, ?_⟩
    cases q : gt env i with
    | xc c => exact absurd q (noXc_of h i c)
    | no => rw [q] at r; exact r
    | ow d => rw [q] at r; exact r
    | bo d => rw [q] at r; exact r
    | ro d => rw [q] at r; exact r, se.off, se.nd, se.dj, se.zz⟩
abbrev hotcf (cf : Cf) : Cf := { cf with hot := true }
theorem CtxS.tr (cx : CtxS cf X G C W cls) (hh : cf.hot = false) {pn : List (Addr × Obj)} {xe : Value → Shared → Prop} {W' : WX} (tk : Takes (X.tr pn xe) W') (po : PassesOwn (model X.prog X.w) X.A X.env xe) : CtxS cf (X.tr pn xe) G C W' cls :=
  { N := cx.N, K := cx.K, wd := cx.wd, nd := cx.nd, units := cx.units, calm := cx.calm, takes := tk, blt := cx.blt, cst := cx.cst, cal := fun f hf hh => ⟨(cx.cal f hf hh).ex⟩, cl := cx.cl, xa0 := cx.xa0, hx := fun a c e => (by rw [cx.xa0 hh] at e; cases e), met := fun f hf hh => ⟨(cx.met f hf hh).ex⟩, ini := fun hm hh => ⟨(cx.ini hm hh).ex⟩, fn := cx.fn, po := po, xs := cx.xs, xf := cx.xf, rai := fun c hc => ⟨(cx.rai c hc).ex⟩, xm := cx.xm, xk := cx.xk }
theorem CtxS.suite (cx : CtxS cf X G C W cls) {a : Addr} {oe : Obj} {pn : List (Addr × Obj)} {c : String} (hc : c ∈ cf.xhs) (hz : Zc (.ref (cls c)) none oe) (hf : ∃ vs, oe.data = .fields vs) : CtxS (hotcf cf) (X.suite a ((a, oe) :: pn)) { G with xa := some (a, c) } noCalls W0 cls :=
  { N := cx.N, K := cx.K, wd := cx.wd, nd := cx.nd, units := cx.units, calm := fun z => (by cases z), takes := takes0, blt := cx.blt, cst := cx.cst, cal := fun f _ z => (by cases z), cl := cx.cl, met := fun f _ z => (by cases z), ini := fun _ z => (by cases z), xa0 := fun z => (by cases z),
    hx := fun a' c' e => (by
      cases e
      exact ⟨⟨X, oe, pn, rfl, hz, hf⟩, (cx.xk c hc).1, (cx.xk c hc).2, fun d hd => by
        obtain ⟨_, _, _, _, _, _, k, _⟩ := (cx.rai d hd).ex
        exact k⟩),
    fn := cx.fn, po := PassesOwn.never, xs := cx.xs, xf := cx.xf, rai := fun c hc => ⟨(cx.rai c hc).ex⟩, xm := cx.xm, xk := cx.xk }
theorem ds_try {b h : S} {xs : List String} {c : String} {i : Nat} {n : Str} {e : Expr} {body suite : List Stmt} {b₀ : Stmt} {pos pos' : Pos} (cx : CtxS cf X G C W cls) (hh : cf.hot = false) (hi : X.N[i]? = some n) (hln : X.env.scope.names.lookup n = some .local)
    (hg : glName X.env.scope c e = true) (hc : c ∈ cf.xcs) (hxs : ∀ d ∈ xs, d ∈ cf.xhs)
    (hb : ∀ (W' : WX) (pn : List (Addr × Obj)) (xe : Value → Shared → Prop), CtxS cf (X.tr pn xe) G C W' cls → PSs (X.tr pn xe) body (rdX G W' cls (exec C b)))
    (hsu : ∀ (a : Addr) (oe : Obj) (pn : List (Addr × Obj)) (c' : String), CtxS (hotcf cf) (X.suite a ((a, oe) :: pn)) { G with xa := some (a, c') } noCalls W0 cls → PSs (X.suite a ((a, oe) :: pn)) (b₀ :: suite) (rdX { G with xa := some (a, c') } W0 cls (exec noCalls h))) :
    PS X (.Try body [.ExceptHandler (some e) (some n) (b₀ :: suite) pos'] [] [] pos) (rdX G W cls (exec C (.tryE b xs c i h))) := by
  obtain ⟨p, rfl, hgl, hd, hn⟩ := gl_of hg
  obtain ⟨_, _, _, _, _, _, mc, _⟩ := (cx.rai c hc).ex
  refine PS_imp (ps_try_as (ts := fun a clsv d D σ H => ∃ c' ∈ cf.xhs, clsv = .ref (cls c') ∧ d = none ∧ rdX { G with xa := some (a, c') } W0 cls (exec noCalls h) D σ H) (tb := fun W' => rdX G W' cls (exec C b)) cx.xs cx.xf cx.nd hi hln ⟨hgl, hd, .inl mc⟩ cx.takes
    (fun W' pn xe tk po => hb W' pn xe (cx.tr hh tk po)) fun a oe clsv d pn hz hf => ⟨fun pins s σ H D I ⟨c', hc', e1, e2, hr⟩ => ?_⟩) fun D σ H ⟨env, fp, se, T⟩ => ?_
  · subst e1 e2
    exact (hsu a oe pn c' (cx.suite hc' hz hf)).run pins s σ H D I hr
  · refine ⟨env, fp, se, ?_⟩
    have T : RSQ G W cls H fp (exec C (.tryE b xs c i h) env) D := T
    simp only [exec] at T
    cases hr : exec C b env with
    | nx e => rw [hr] at T; exact T
    | rt d e => rw [hr] at T; exact T
    | st => rw [hr] at T; exact T
    | ex c' env' =>
      rw [hr] at T
      simp only at T
      intro σ' H' fp' se' st
      split at T
      · rename_i hx
        refine ⟨isXc c' (.xc c), cx.xm c' (hxs c' hx) c hc, fun hb1 a ha => ?_, fun hb1 => ?_⟩
        · rw [if_pos hb1] at T
          split at T
          · rename_i hgate
            refine ⟨c', hxs c' hx, rfl, rfl, ?_⟩
            have se0 := SE.toX se' (cx.xa0 hh) (some (a, c'))
            have se1 := se0.put (i := i) (s := .xc c') (o := some (.ref a)) (f := []) hgate.2 ⟨fun _ _ h => h, fun _ _ _ h => h⟩ (fun _ _ _ h => h) ⟨rfl, a, rfl, rfl⟩ .nil (fun _ z => nomatch z)
            have sub : ∀ x, In (fun j => if j = i then [] else fp' j) x → In fp' x := fun x ⟨j, hj⟩ => by
              by_cases e : j = i
              · simp only [if_pos e] at hj; cases hj
              · simp only [if_neg e] at hj; exact ⟨j, hj⟩
            refine ⟨_, _, se1, ?_⟩
            generalize exec noCalls h (env'.set i (.xc c')) = r at T ⊢
            cases r with
            | nx e =>
              simp only [xEnd] at T
              split at T
              · rename_i hq
                intro σ2 H2 fp2 se2 st2
                have se3 := se2.put (i := i) (s := .no) (o := none) (f := []) hq.2 ⟨fun _ _ h => h, fun _ _ _ h => h⟩ (fun _ _ _ h => h) rfl .nil (fun _ z => nomatch z)
                refine T (σ2.set i none) H2 _ (SE.ofX se3 hq.1) ((st.less sub).trans (st2.less fun x ⟨j, hj⟩ => ?_))
                by_cases e : j = i
                · simp only [if_pos e] at hj; cases hj
                · simp only [if_neg e] at hj; exact ⟨j, hj⟩
              · exact T.elim
            | rt d e => exact T.elim
            | ex c e => exact T.elim
            | st => exact T.elim
          · exact T.elim
        · rw [if_neg (by rw [hb1]; exact Bool.false_ne_true)] at T
          exact T σ' H' fp' se' st
      · exact T.elim
theorem ds_tryO {b h : S} {xs : List String} {c : String} {e : Expr} {body suite : List Stmt} {b₀ : Stmt} {pos pos' : Pos} (cx : CtxS cf X G C W cls) (hh : cf.hot = false)
    (hg : glName X.env.scope c e = true) (hc : c ∈ cf.xcs) (hxs : ∀ d ∈ xs, d ∈ cf.xhs)
    (hb : ∀ (W' : WX) (pn : List (Addr × Obj)) (xe : Value → Shared → Prop), CtxS cf (X.tr pn xe) G C W' cls → PSs (X.tr pn xe) body (rdX G W' cls (exec C b)))
    (hsu : ∀ (a : Addr) (oe : Obj) (pn : List (Addr × Obj)) (c' : String), CtxS (hotcf cf) (X.suite a ((a, oe) :: pn)) { G with xa := some (a, c') } noCalls W0 cls → PSs (X.suite a ((a, oe) :: pn)) (b₀ :: suite) (rdX { G with xa := some (a, c') } W0 cls (exec noCalls h))) :
    PS X (.Try body [.ExceptHandler (some e) none (b₀ :: suite) pos'] [] [] pos) (rdX G W cls (exec C (.tryO b xs c h))) := by
  obtain ⟨p, rfl, hgl, hd, hn⟩ := gl_of hg
  obtain ⟨_, _, _, _, _, _, mc, _⟩ := (cx.rai c hc).ex
  refine PS_imp (ps_try_only (ts := fun a clsv d D σ H => ∃ c' ∈ cf.xhs, clsv = .ref (cls c') ∧ d = none ∧ rdX { G with xa := some (a, c') } W0 cls (exec noCalls h) D σ H) (tb := fun W' => rdX G W' cls (exec C b)) cx.xs cx.xf ⟨hgl, hd, .inl mc⟩ cx.takes
    (fun W' pn xe tk po => hb W' pn xe (cx.tr hh tk po)) fun a oe clsv d pn hz hf => ⟨fun pins s σ H D I ⟨c', hc', e1, e2, hr⟩ => ?_⟩) fun D σ H ⟨env, fp, se, T⟩ => ?_
  · subst e1 e2
    exact (hsu a oe pn c' (cx.suite hc' hz hf)).run pins s σ H D I hr
  · refine ⟨env, fp, se, ?_⟩
    have T : RSQ G W cls H fp (exec C (.tryO b xs c h) env) D := T
    simp only [exec] at T
    cases hr : exec C b env with
    | nx e => rw [hr] at T; exact T
    | rt d e => rw [hr] at T; exact T
    | st => rw [hr] at T; exact T
    | ex c' env' =>
      rw [hr] at T
      simp only at T
      intro σ' H' fp' se' st
      split at T
      · rename_i hx
        refine ⟨isXc c' (.xc c), cx.xm c' (hxs c' hx) c hc, fun hb1 a ha => ?_, fun hb1 => ?_⟩
        · rw [if_pos hb1] at T
          refine ⟨c', hxs c' hx, rfl, rfl, ?_⟩
          have se0 := SE.toX se' (cx.xa0 hh) (some (a, c'))
          refine ⟨_, _, se0, ?_⟩
          generalize exec noCalls h env' = r at T ⊢
          cases r with
          | nx e =>
            simp only [xEndO] at T
            split at T
            · rename_i hq
              intro σ2 H2 fp2 se2 st2
              exact T σ2 H2 _ (SE.ofX se2 hq) (st.trans st2)
            · exact T.elim
          | rt d e => exact T.elim
          | ex c e => exact T.elim
          | st => exact T.elim
        · rw [if_neg (by rw [hb1]; exact Bool.false_ne_true)] at T
          exact T σ' H' fp' se' st
      · exact T.elim
/-- an except suite as it is run -/
theorem xrun_ok {h : S} {i : Nat} {c' : String} {env' : Env} {σ : L2.St} {H H' : Hp} {fp fp' : Nat → List Addr} {D : Ends} (cx : CtxS cf X G C W cls) (hh : cf.hot = false) (hx : c' ∈ cf.xhs) (se' : SE G H' σ env' fp') (st : Stp (In fp) H (In fp') H')
    (T : RSQ G W cls H fp (xRun i c' (exec noCalls h) env') D) (a : Addr) :
    ∃ c'' ∈ cf.xhs, Value.ref (cls c') = .ref (cls c'') ∧ (none : Option Addr) = none ∧ rdX { G with xa := some (a, c'') } W0 cls (exec noCalls h) (endD i D) (σ.set i (some (.ref a))) H' := by
  refine ⟨c', hx, rfl, rfl, ?_⟩
  unfold xRun at T
  split at T
  · rename_i hgate
    have se0 := SE.toX se' (cx.xa0 hh) (some (a, c'))
    have se1 := se0.put (i := i) (s := .xc c') (o := some (.ref a)) (f := []) hgate.2 ⟨fun _ _ h => h, fun _ _ _ h => h⟩ (fun _ _ _ h => h) ⟨rfl, a, rfl, rfl⟩ .nil (fun _ z => nomatch z)
    have sub : ∀ x, In (fun j => if j = i then [] else fp' j) x → In fp' x := fun x ⟨j, hj⟩ => by
      by_cases e : j = i
      · simp only [if_pos e] at hj; cases hj
      · simp only [if_neg e] at hj; exact ⟨j, hj⟩
    refine ⟨_, _, se1, ?_⟩
    generalize exec noCalls h (env'.set i (.xc c')) = r at T ⊢
    cases r with
    | nx e =>
      simp only [xEnd] at T
      split at T
      · rename_i hq
        intro σ2 H2 fp2 se2 st2
        have se3 := se2.put (i := i) (s := .no) (o := none) (f := []) hq.2 ⟨fun _ _ h => h, fun _ _ _ h => h⟩ (fun _ _ _ h => h) rfl .nil (fun _ z => nomatch z)
        refine T (σ2.set i none) H2 _ (SE.ofX se3 hq.1) ((st.less sub).trans (st2.less fun x ⟨j, hj⟩ => ?_))
        by_cases e : j = i
        · simp only [if_pos e] at hj; cases hj
        · simp only [if_neg e] at hj; exact ⟨j, hj⟩
      · exact T.elim
    | rt d e => exact T.elim
    | ex c e => exact T.elim
    | st => exact T.elim
  · exact T.elim
/-- one clause as it is checked -/
structure ClOk (cf : Cf) (X : Cx) (G : Gh) (cls : String → Addr) (c : String) (h : S) (e : Expr) (s0 : Stmt) (su : List Stmt) : Prop where
  g : glName X.env.scope c e = true
  m : c ∈ cf.xcs
  s : ∀ (a : Addr) (oe : Obj) (pn : List (Addr × Obj)) (c' : String), CtxS (hotcf cf) (X.suite a ((a, oe) :: pn)) { G with xa := some (a, c') } noCalls W0 cls → PSs (X.suite a ((a, oe) :: pn)) (s0 :: su) (rdX { G with xa := some (a, c') } W0 cls (exec noCalls h))
theorem ds_try3 {b h1 h2 h3 : S} {xs : List String} {c1 c2 c3 : String} {i : Nat} {n : Str} {e1 e2 e3 : Expr} {body u1 u2 u3 : List Stmt} {b1 b2 b3 : Stmt} {pos p1 p2 p3 : Pos} (cx : CtxS cf X G C W cls) (hh : cf.hot = false) (hi : X.N[i]? = some n) (hln : X.env.scope.names.lookup n = some .local)
    (k1 : ClOk cf X G cls c1 h1 e1 b1 u1) (k2 : ClOk cf X G cls c2 h2 e2 b2 u2) (k3 : ClOk cf X G cls c3 h3 e3 b3 u3) (hxs : ∀ d ∈ xs, d ∈ cf.xhs)
    (hb : ∀ (W' : WX) (pn : List (Addr × Obj)) (xe : Value → Shared → Prop), CtxS cf (X.tr pn xe) G C W' cls → PSs (X.tr pn xe) body (rdX G W' cls (exec C b))) :
    PS X (.Try body [.ExceptHandler (some e1) (some n) (b1 :: u1) p1, .ExceptHandler (some e2) (some n) (b2 :: u2) p2, .ExceptHandler (some e3) (some n) (b3 :: u3) p3] [] [] pos) (rdX G W cls (exec C (.try3 b xs i c1 c2 c3 h1 h2 h3))) := by
  obtain ⟨q1, rfl, g1, d1, _⟩ := gl_of k1.g
  obtain ⟨q2, rfl, g2, d2, _⟩ := gl_of k2.g
  obtain ⟨q3, rfl, g3, d3, _⟩ := gl_of k3.g
  obtain ⟨_, _, _, _, _, _, m1, _⟩ := (cx.rai c1 k1.m).ex
  obtain ⟨_, _, _, _, _, _, m2, _⟩ := (cx.rai c2 k2.m).ex
  obtain ⟨_, _, _, _, _, _, m3, _⟩ := (cx.rai c3 k3.m).ex
  let ts : S → Addr → Value → Option Addr → TS := fun h a clsv d D σ H => ∃ c' ∈ cf.xhs, clsv = .ref (cls c') ∧ d = none ∧ rdX { G with xa := some (a, c') } W0 cls (exec noCalls h) D σ H
  let l1 : Cl1 := ⟨c1, q1, .ref (cls c1), b1, u1, p1, ts h1⟩
  let l2 : Cl1 := ⟨c2, q2, .ref (cls c2), b2, u2, p2, ts h2⟩
  let l3 : Cl1 := ⟨c3, q3, .ref (cls c3), b3, u3, p3, ts h3⟩
  have su : ∀ (c : String) (h : S) (e : Expr) (s0 : Stmt) (su : List Stmt), ClOk cf X G cls c h e s0 su → ∀ (a : Addr) (w : Obj) (k : Value) (d : Option Addr) (pn : List (Addr × Obj)), Zc k d w → (∃ fs, w.data = .fields fs) → PSs (X.suite a ((a, w) :: pn)) (s0 :: su) (ts h a k d) :=
    fun c h e s0 su ko a w k d pn hz hf => ⟨fun pins s σ H D I ⟨c', hc', e1, e2, hr⟩ => by
      subst e1 e2
      exact (ko.s a w pn c' (cx.suite hc' hz hf)).run pins s σ H D I hr⟩
  have base := ps_try_ls (n := n) (i := i) (pos := pos) (body := body) (tb := fun W' => rdX G W' cls (exec C b)) cx.xs cx.xf cx.nd hi hln cx.takes l1 [l2, l3] (fun q hq => by
      simp only [List.mem_cons, List.not_mem_nil, or_false] at hq
      rcases hq with rfl | rfl | rfl
      · exact ⟨g1, d1, .inl m1⟩
      · exact ⟨g2, d2, .inl m2⟩
      · exact ⟨g3, d3, .inl m3⟩) (fun W' pn xe tk po => hb W' pn xe (cx.tr hh tk po)) (fun q hq => by
      simp only [List.mem_cons, List.not_mem_nil, or_false] at hq
      rcases hq with rfl | rfl | rfl
      · exact su _ _ _ _ _ k1
      · exact su _ _ _ _ _ k2
      · exact su _ _ _ _ _ k3)
  refine PS_imp base fun D σ H ⟨env, fp, se, T⟩ => ?_
  refine ⟨env, fp, se, ?_⟩
  have T : RSQ G W cls H fp (exec C (.try3 b xs i c1 c2 c3 h1 h2 h3) env) D := T
  simp only [exec] at T
  cases hr : exec C b env with
  | nx e => rw [hr] at T; exact T
  | rt d e => rw [hr] at T; exact T
  | st => rw [hr] at T; exact T
  | ex c' env' =>
    rw [hr] at T
    simp only at T
    intro σ' H' fp' se' st
    split at T
    · rename_i hx
      have hm := hxs c' hx
      refine ⟨isXc c' (.xc c1), cx.xm c' hm c1 k1.m, fun y1 a ha => ?_, fun n1 => ⟨isXc c' (.xc c2), cx.xm c' hm c2 k2.m, fun y2 a ha => ?_, fun n2 => ⟨isXc c' (.xc c3), cx.xm c' hm c3 k3.m, fun y3 a ha => ?_, fun n3 => ?_⟩⟩⟩
      · rw [if_pos y1] at T
        exact xrun_ok cx hh hm se' st T a
      · rw [if_neg (by rw [n1]; exact Bool.false_ne_true), if_pos y2] at T
        exact xrun_ok cx hh hm se' st T a
      · rw [if_neg (by rw [n1]; exact Bool.false_ne_true), if_neg (by rw [n2]; exact Bool.false_ne_true), if_pos y3] at T
        exact xrun_ok cx hh hm se' st T a
      · rw [if_neg (by rw [n1]; exact Bool.false_ne_true), if_neg (by rw [n2]; exact Bool.false_ne_true), if_neg (by rw [n3]; exact Bool.false_ne_true)] at T
        exact T σ' H' fp' se' st
    · exact T.elim
end
end DL

/-! DL16: the check of statements; their readings. -/
namespace DL
open PySem PySem.Spec PyProof.Rows L2

structure ChkS where
  b : List Stmt → Bool
  s : Stmt → Bool
def onS (f : Stmt → Bool) : ChkS := ⟨fun _ => false, f⟩
def noS : ChkS := onS fun _ => false
/-- not a comprehension -/
def nlc : Expr → Bool
  | .ListComp _ _ _ _ => false
  | .SetComp _ _ _ _ => false
  | .DictComp _ _ _ _ _ => false
  | _ => true
def locB (sc : Scope) (x : Str) : Bool := match sc.names.lookup x with
  | some .local => true
  | some .cell => true
  | _ => false
def tgB (cf : Cf) (sc : Scope) (i : Nat) (e : Expr) : Bool := match e with
  | .Name x _ => decide (cf.N[i]? = some x) && locB sc x
  | _ => false
def ghost : S → Bool
  | .gh _ => true
  | _ => false
def celB (sc : Scope) (e : Expr) : Bool := match e with
  | .Name x _ => decide (sc.names.lookup x = some .cell)
  | _ => false
def setB (sc : Scope) (tg e : Expr → Bool) (st : Stmt) : Bool := match st with
  | .Assign [x] v _ => tg x && e v && (nlc v || celB sc x)
  | _ => false
def setIB (v qk : Bool) (o k e : Expr → Bool) (st : Stmt) : Bool := match st with
  | .Assign [.Subscript x y _] w _ => v && qk && o x && k y && nsl y && e w && nlc w
  | _ => false
def setCB (cf : Cf) (sc : Scope) (tg : Expr → Bool) (j : Nat) (it : Expr → Expr → Bool) (elt : Scope → Expr → Bool) (nc : Bool) (c : Scope → Expr → Bool) (st : Stmt) : Bool := match st with
  | .Assign [.Name y py] (.ListComp x gs scope pos) _ => tg (.Name y py) && lcB cf sc j it elt nc c (.ListComp x gs scope pos) && decide (sc.names.lookup y = some .local) && decide (sc.kind = .function) && (py.line == pos.line) &&
      !(scope.names.any fun (n, k) => n == y && (k == .local || k == .cell))
  | _ => false
def exB (e : Expr → Bool) (st : Stmt) : Bool := match st with
  | .Expr v _ => e v && nlc v
  | _ => false
def retB (e : Expr → Bool) (st : Stmt) : Bool := match st with
  | .Return (some v) _ => e v
  | _ => false
def retNB (st : Stmt) : Bool := match st with
  | .Return none _ => true
  | _ => false
def iteB (c : Expr → Bool) (a b : List Stmt → Bool) (st : Stmt) : Bool := match st with
  | .If x p q _ => c x && a p && b q
  | _ => false
def for1B (tg : Expr → Bool) (i : Expr → Expr → Bool) (b : List Stmt → Bool) (st : Stmt) : Bool := match st with
  | .For x it p [] _ => tg x && i x it && noSet it && b p
  | _ => false
def for2B (t1 t2 : Expr → Bool) (i : Expr → Expr → Bool) (b : List Stmt → Bool) (st : Stmt) : Bool := match st with
  | .For (.Tuple [x, y] k tp) it p [] _ => t1 x && t2 y && i (.Tuple [x, y] k tp) it && noSet it && b p
  | _ => false
def whlB (c : Expr → Bool) (b : List Stmt → Bool) (st : Stmt) : Bool := match st with
  | .While x p [] _ => c x && b p
  | _ => false
def raiB (sc : Scope) (c m : String) (st : Stmt) : Bool := match st with
  | .Raise (some (.Call x [.Constant (.str z) _ _] [] _)) none _ => glName sc c x && decide (z = m)
  | _ => false
def passB (st : Stmt) : Bool := match st with
  | .Pass _ => true
  | .Expr (.Constant (.str _) _ _) _ => true
  | _ => false
def seqB (g : Bool) (a : Stmt → Bool) (b : List Stmt → Bool) (l : List Stmt) : Bool := match g with
  | true => b l
  | false => (match l with
    | st :: r => a st && b r
    | [] => false)
def tryB (cf : Cf) (sc : Scope) (c : String) (i : Nat) (b h : List Stmt → Bool) (st : Stmt) : Bool := match st with
  | .Try body [.ExceptHandler (some x) (some n) (b0 :: su) _] [] [] _ => glName sc c x && decide (cf.N[i]? = some n) && decide (sc.names.lookup n = some .local) && b body && h (b0 :: su)
  | _ => false
def tryOB (sc : Scope) (c : String) (b h : List Stmt → Bool) (st : Stmt) : Bool := match st with
  | .Try body [.ExceptHandler (some x) none (b0 :: su) _] [] [] _ => glName sc c x && b body && h (b0 :: su)
  | _ => false
def try3B (cf : Cf) (sc : Scope) (i : Nat) (c1 c2 c3 : String) (b h1 h2 h3 : List Stmt → Bool) (st : Stmt) : Bool := match st with
  | .Try body [.ExceptHandler (some x1) (some n) (b1 :: u1) _, .ExceptHandler (some x2) (some n2) (b2 :: u2) _, .ExceptHandler (some x3) (some n3) (b3 :: u3) _] [] [] _ =>
    glName sc c1 x1 && glName sc c2 x2 && glName sc c3 x3 && decide (n2 = n) && decide (n3 = n) && decide (cf.N[i]? = some n) && decide (sc.names.lookup n = some .local) && b body && h1 (b1 :: u1) && h2 (b2 :: u2) && h3 (b3 :: u3)
  | _ => false
def setFB (n : Str) (o e : Expr → Bool) (st : Stmt) : Bool := match st with
  | .Assign [.Attribute x m _] v _ => decide (m = n) && o x && e v && nlc v
  | _ => false
def chkS' : S → Cf → Scope → ChkS
  | .skip, _, _ => ⟨fun l => l.isEmpty, fun _ => false⟩
  | .seq a b, cf, sc => ⟨seqB (ghost a) (chkS' a cf sc).s (chkS' b cf sc).b, fun _ => false⟩
  | .gh _, _, _ => noS
  | .set i e, cf, sc => onS (setB sc (tgB cf sc i) (chk cf e sc).e)
  | .setI o k e, cf, sc => onS (setIB (isVar o).isSome (quiet k) (chk cf o sc).e (chk cf k sc).e (chk cf e sc).e)
  | .setC i elt j it c, cf, sc => onS fun st => setCB cf sc (tgB cf sc i) j (chk cf it sc).i (fun s => (chk cf elt s).e) (noC c) (fun s => (chk cf c s).e) st && !cf.hot
  | .setF i f e, cf, sc => onS fun st => setFB f.name (slotB cf sc i) (chk cf e sc).e st && cf.mach
  | .ex e, cf, sc => onS (exB (chk cf e sc).e)
  | .ret e, cf, sc => onS (retB (chk cf e sc).e)
  | .retN, _, _ => onS retNB
  | .ite c a b, cf, sc => onS (iteB (chk cf c sc).e (chkS' a cf sc).b (chkS' b cf sc).b)
  | .for1 i it b, cf, sc => onS fun st => for1B (tgB cf sc i) (chk cf it sc).i (chkS' b cf sc).b st && !cf.hot
  | .for2 i j it b, cf, sc => onS fun st => for2B (tgB cf sc i) (tgB cf sc j) (chk cf it sc).i (chkS' b cf sc).b st && !cf.hot
  | .whl c b, cf, sc => onS (whlB (chk cf c sc).e (chkS' b cf sc).b)
  | .rai c m, cf, sc => onS fun st => raiB sc c m st && decide (c ∈ cf.xcs) && !cf.hot
  | .tryE b xs c i h, cf, sc => onS fun st => tryB cf sc c i (chkS' b cf sc).b (chkS' h (hotcf cf) sc).b st && xs.all (fun d => decide (d ∈ cf.xhs)) && decide (c ∈ cf.xcs) && !cf.hot
  | .tryO b xs c h, cf, sc => onS fun st => tryOB sc c (chkS' b cf sc).b (chkS' h (hotcf cf) sc).b st && xs.all (fun d => decide (d ∈ cf.xhs)) && decide (c ∈ cf.xcs) && !cf.hot
  | .try3 b xs i c1 c2 c3 h1 h2 h3, cf, sc => onS fun st => try3B cf sc i c1 c2 c3 (chkS' b cf sc).b (chkS' h1 (hotcf cf) sc).b (chkS' h2 (hotcf cf) sc).b (chkS' h3 (hotcf cf) sc).b st && xs.all (fun d => decide (d ∈ cf.xhs)) && decide (c1 ∈ cf.xcs) && decide (c2 ∈ cf.xcs) && decide (c3 ∈ cf.xcs) && !cf.hot
  | .pass, _, _ => onS passB
  | .dead, _, _ => ⟨fun _ => true, fun _ => true⟩
abbrev chkS (cf : Cf) (s : S) (sc : Scope) : ChkS := chkS' s cf sc

theorem nlc_sw {e : Expr} {o : Option Expr} {l : Nat} {env : PySem.Env} (h : nlc e = true) : swapsWith e o l env = pure false := by
  cases e <;> first | rfl | (cases h)
theorem sw_cell {v : Expr} {y : Str} {py : Pos} {l : Nat} {env : PySem.Env} (h : env.scope.names.lookup y = some .cell) : swapsWith v (some (.Name y py)) l env = pure false := by
  have ky : env.kindOf y = some .cell := h
  have e : (env.kindOf y == some NameKind.local) = false := by rw [ky]; rfl
  unfold swapsWith
  cases v <;> first
    | rfl
    | (simp only [e, Bool.and_false, Bool.false_and])
theorem locB_of {sc : Scope} {x : Str} (h : locB sc x = true) : Loc sc x := by
  unfold locB at h
  split at h
  · exact .inl (by assumption)
  · exact .inr (by assumption)
  · cases h
theorem tgB_of {cf : Cf} {sc : Scope} {i : Nat} {e : Expr} (h : tgB cf sc i e = true) : ∃ x p, e = .Name x p ∧ cf.N[i]? = some x ∧ Loc sc x := by
  unfold tgB at h
  split at h
  · simp only [Bool.and_eq_true, decide_eq_true_eq] at h; exact ⟨_, _, rfl, h.1, locB_of h.2⟩
  · cases h
/-- a statement's readings, as one and as a block -/
structure SndS (C : Calls) (s : S) : Prop where
  b : ∀ {cf : Cf} {X : Cx} {G : Gh} {W : WX} {cls : String → Addr}, CtxS cf X G C W cls → ∀ l, (chkS cf s X.env.scope).b l = true → PSs X l (rdX G W cls (exec C s))
  s : ∀ {cf : Cf} {X : Cx} {G : Gh} {W : WX} {cls : String → Addr}, CtxS cf X G C W cls → ∀ st, (chkS cf s X.env.scope).s st = true → PS X st (rdX G W cls (exec C s))
section
variable {C : Calls}
theorem SndS.one {s : S} {f : Cf → Scope → Stmt → Bool} (hc : ∀ cf sc, chkS cf s sc = onS (f cf sc))
    (h : ∀ {cf : Cf} {X : Cx} {G : Gh} {W : WX} {cls : String → Addr}, CtxS cf X G C W cls → ∀ st, f cf X.env.scope st = true → PS X st (rdX G W cls (exec C s))) : SndS C s where
  b := fun cx l q => by rw [hc] at q; cases q
  s := fun cx st q => by rw [hc] at q; exact h cx st q
theorem SndS.none {s : S} (hc : ∀ cf sc, chkS cf s sc = noS) : SndS C s where
  b := fun cx l q => by rw [hc] at q; cases q
  s := fun cx st q => by rw [hc] at q; cases q
theorem snds_set (i : Nat) (e : E) : SndS C (.set i e) := SndS.one (f := fun cf sc => setB sc (tgB cf sc i) (chk cf e sc).e) (fun _ _ => rfl) fun cx st h => by
  unfold setB at h
  split at h
  · simp only [Bool.and_eq_true] at h
    obtain ⟨⟨h1, h2⟩, h3⟩ := h
    obtain ⟨x, p, rfl, h4, h5⟩ := tgB_of h1
    refine ds_set cx (by rw [cx.N]; exact h4) h5 ((snd C e).v cx.toCtx _ h2) ?_
    rcases (Bool.or_eq_true _ _ |>.mp h3) with h3 | h3
    · exact nlc_sw h3
    · exact sw_cell (of_decide_eq_true h3)
  · cases h
theorem snds_setI (o k e : E) : SndS C (.setI o k e) := SndS.one (f := fun cf sc => setIB (isVar o).isSome (quiet k) (chk cf o sc).e (chk cf k sc).e (chk cf e sc).e) (fun _ _ => rfl) fun {cf X G W cls} cx st h => by
  unfold setIB at h
  split at h
  · simp only [Bool.and_eq_true] at h
    obtain ⟨⟨⟨⟨⟨⟨h1, h2⟩, h3⟩, h4⟩, h5⟩, h6⟩, h7⟩ := h
    obtain ⟨i, rfl⟩ := isVar_of h1
    have hk := (snd C k).v cx.toCtx _ h4
    rw [h2] at hk
    refine PS_imp (ds_setI cx (slot_pe cx.toCtx h3) hk ((snd C e).v cx.toCtx _ h6) h5 (nlc_sw h7)) fun D σ H ⟨env, fp, se, T⟩ => ⟨env, fp, se, ?_⟩
    have T' : RSQ G W cls H fp ((asP (ev C e env)).go fun x env => if quiet k = true ∧ (brw (.v i) env).isSome = true then (asP (ev C k env)).go fun y env => modS (.v i) env (setAt y x) else .st) D := T
    simp only [h2, true_and] at T'
    exact T'
  · cases h
theorem snds_setF (i : Nat) (f : Fld) (e : E) : SndS C (.setF i f e) := SndS.one (f := fun cf sc st => setFB f.name (slotB cf sc i) (chk cf e sc).e st && cf.mach) (fun _ _ => rfl) fun {cf X G W cls} cx st h => by
  rw [Bool.and_eq_true] at h
  obtain ⟨h, hm⟩ := h
  unfold setFB at h
  split at h
  · simp only [Bool.and_eq_true, decide_eq_true_eq] at h
    obtain ⟨⟨⟨rfl, h1⟩, h2⟩, h3⟩ := h
    exact ds_setF (cx.cl hm) (slot_pe cx.toCtx h1) ((snd C e).v cx.toCtx _ h2) (nlc_sw h3)
  · cases h
theorem setCB_of {cf : Cf} {sc : Scope} {tg : Expr → Bool} {j : Nat} {it : Expr → Expr → Bool} {elt c : Scope → Expr → Bool} {nc : Bool} {st : Stmt} (h : setCB cf sc tg j it elt nc c st = true) : ∃ y py x gs scope pos sp, st = .Assign [.Name y py] (.ListComp x gs scope pos) sp ∧
    tg (.Name y py) = true ∧ lcB cf sc j it elt nc c (.ListComp x gs scope pos) = true ∧
    sc.names.lookup y = some .local ∧ sc.kind = .function ∧ (py.line == pos.line) = true ∧ (scope.names.any fun (n, k) => n == y && (k == .local || k == .cell)) = false := by
  unfold setCB at h
  split at h
  · simp only [Bool.and_eq_true, decide_eq_true_eq, Bool.not_eq_true'] at h
    obtain ⟨⟨⟨⟨⟨h1, h2⟩, h3⟩, h4⟩, h5⟩, h6⟩ := h
    exact ⟨_, _, _, _, _, _, _, rfl, h1, h2, h3, h4, h5, h6⟩
  · cases h
theorem snds_setC (i : Nat) (elt : E) (j : Nat) (it c : E) : SndS C (.setC i elt j it c) := SndS.one (f := fun cf sc st => setCB cf sc (tgB cf sc i) j (chk cf it sc).i (fun s => (chk cf elt s).e) (noC c) (fun s => (chk cf c s).e) st && !cf.hot) (fun _ _ => rfl) fun {cf X G W cls} cx st h => by
  simp only [Bool.and_eq_true, Bool.not_eq_true'] at h
  obtain ⟨h, hh⟩ := h
  obtain ⟨y, py, x, gs, scope, pos, sp, rfl, h1, k, h3, h4, h5, h6⟩ := setCB_of h
  obtain ⟨y', py', e, h7, h8⟩ := tgB_of h1
  cases e
  cases hc : noC c with
  | true =>
    rw [hc] at k
    obtain ⟨x, t, p, iter, scope, pos, e, k1, k2, k3, k4, k5, k6⟩ := lcB_of k
    cases e
    refine PS_imp (ps_lc cx.toCtx hh (by rw [cx.N]; exact k1) k2 (by rw [cx.N]; exact k3) (by rw [cx.N]; exact h7) h3 h4 h5 h6 ((snd C it).i cx.toCtx _ _ k5) (noSet_f k4) (fun s H Cc cl fp => (snd C elt).v (cx.toCtx.blk hh s H scope (compEnvC scope cl Cc X.env) fp) x k6)) fun D σ H h => ?_
    have h' : rdX G W cls (fun env => (ev C (.lc elt j it c) env).go fun d env => bindR env i d) D σ H := h
    obtain ⟨env, fp, se, T⟩ := set_imp h'
    refine ⟨env, fp, se, ?_⟩
    have T' : RQ G W cls σ H fp ((den C (.lc elt j it c)).v env) _ := T
    simp only [den, dflt, hc, if_true] at T'
    exact T'
  | false =>
    rw [hc] at k
    obtain ⟨x, t, p, iter, z, scope, pos, e, k1, k2, k3, k4, k5, k6, k7⟩ := lcB_ofIf k
    cases e
    refine PS_imp (ps_lcIf cx.toCtx hh (by rw [cx.N]; exact k1) k2 (by rw [cx.N]; exact k3) (by rw [cx.N]; exact h7) h3 h4 h5 h6 ((snd C it).i cx.toCtx _ _ k5) (noSet_f k4) (fun s H Cc cl fp => (snd C c).t (cx.toCtx.blk hh s H scope (compEnvC scope cl Cc X.env) fp) z k7) (fun s H Cc cl fp => (snd C elt).v (cx.toCtx.blk hh s H scope (compEnvC scope cl Cc X.env) fp) x k6)) fun D σ H h => ?_
    have h' : rdX G W cls (fun env => (ev C (.lc elt j it c) env).go fun d env => bindR env i d) D σ H := h
    obtain ⟨env, fp, se, T⟩ := set_imp h'
    refine ⟨env, fp, se, ?_⟩
    have e2 : (den C (.lc elt j it c)).v env = (((den C it).i env).bind fun xs env1 => if lcG j env1 = true then (lcIf (fun x env => (den C c).t (env.set j (.ow (.p x)))) (lcE j (den C elt).v) j xs [] (env1.set j .no)).bind fun ys env2 => .ok (.ml ys) (env2.set j (gt env1 j)) else .st) := by
      simp only [den, dflt, hc, Bool.false_eq_true, if_false]
    have T' : RQ G W cls σ H fp ((den C (.lc elt j it c)).v env) _ := T
    rw [e2] at T'
    exact T'
theorem snds_ex (e : E) : SndS C (.ex e) := SndS.one (f := fun cf sc => exB (chk cf e sc).e) (fun _ _ => rfl) fun cx st h => by
  unfold exB at h
  split at h
  · simp only [Bool.and_eq_true] at h
    exact ds_ex ((snd C e).v cx.toCtx _ h.1) (nlc_sw h.2)
  · cases h
theorem snds_ret (e : E) : SndS C (.ret e) := SndS.one (f := fun cf sc => retB (chk cf e sc).e) (fun _ _ => rfl) fun cx st h => by
  unfold retB at h
  split at h
  · exact ds_ret ((snd C e).v cx.toCtx _ h)
  · cases h
theorem snds_retN : SndS C .retN := SndS.one (f := fun _ _ => retNB) (fun _ _ => rfl) fun cx st h => by
  unfold retNB at h
  split at h
  · exact ds_retN
  · cases h
theorem snds_pass : SndS C .pass := SndS.one (f := fun _ _ => passB) (fun _ _ => rfl) fun cx st h => by
  unfold passB at h
  split at h
  · exact ds_pass ps_pass
  · exact ds_pass ps_doc
  · cases h
theorem snds_ite (c : E) {a b : S} (ha : SndS C a) (hb : SndS C b) : SndS C (.ite c a b) := SndS.one (f := fun cf sc => iteB (chk cf c sc).e (chkS cf a sc).b (chkS cf b sc).b) (fun _ _ => rfl) fun cx st h => by
  unfold iteB at h
  split at h
  · simp only [Bool.and_eq_true] at h
    exact ds_ite ((snd C c).t cx.toCtx _ h.1.1) (ha.b cx _ h.1.2) (hb.b cx _ h.2)
  · cases h
theorem snds_whl (c : E) {b : S} (hb : SndS C b) : SndS C (.whl c b) := SndS.one (f := fun cf sc => whlB (chk cf c sc).e (chkS cf b sc).b) (fun _ _ => rfl) fun cx st h => by
  unfold whlB at h
  split at h
  · simp only [Bool.and_eq_true] at h
    exact ds_whl cx ((snd C c).t cx.toCtx _ h.1) (hb.b cx _ h.2)
  · cases h
theorem snds_for1 (i : Nat) (it : E) {b : S} (hb : SndS C b) : SndS C (.for1 i it b) := SndS.one (f := fun cf sc st => for1B (tgB cf sc i) (chk cf it sc).i (chkS cf b sc).b st && !cf.hot) (fun _ _ => rfl) fun cx st h => by
  simp only [Bool.and_eq_true, Bool.not_eq_true'] at h
  obtain ⟨h, hh⟩ := h
  unfold for1B at h
  split at h
  · simp only [Bool.and_eq_true] at h
    obtain ⟨⟨⟨h1, h2⟩, h3⟩, h4⟩ := h
    obtain ⟨x, p, rfl, h5, h6⟩ := tgB_of h1
    exact ds_for1 cx (cx.calm hh) (by rw [cx.N]; exact h5) h6 ((snd C it).i cx.toCtx _ _ h2) (hb.b cx _ h4) (noSet_f h3)
  · cases h
theorem snds_for2 (i j : Nat) (it : E) {b : S} (hb : SndS C b) : SndS C (.for2 i j it b) := SndS.one (f := fun cf sc st => for2B (tgB cf sc i) (tgB cf sc j) (chk cf it sc).i (chkS cf b sc).b st && !cf.hot) (fun _ _ => rfl) fun cx st h => by
  simp only [Bool.and_eq_true, Bool.not_eq_true'] at h
  obtain ⟨h, hh⟩ := h
  unfold for2B at h
  split at h
  · simp only [Bool.and_eq_true] at h
    obtain ⟨⟨⟨⟨h1, h2⟩, h3⟩, h4⟩, h5⟩ := h
    obtain ⟨x, p, rfl, h6, h7⟩ := tgB_of h1
    obtain ⟨y, p2, rfl, h8, h9⟩ := tgB_of h2
    exact ds_for2 cx cx.K (cx.calm hh) (by rw [cx.N]; exact h6) h7 (by rw [cx.N]; exact h8) h9 ((snd C it).i cx.toCtx _ _ h3) (hb.b cx _ h5) (noSet_f h4)
  · cases h
theorem snds_rai (c m : String) : SndS C (.rai c m) := SndS.one (f := fun cf sc st => raiB sc c m st && decide (c ∈ cf.xcs) && !cf.hot) (fun _ _ => rfl) fun {cf X G W cls} cx st h => by
  simp only [Bool.and_eq_true, Bool.not_eq_true', decide_eq_true_eq] at h
  obtain ⟨⟨h, hx⟩, hh⟩ := h
  obtain ⟨B, newId, initId, bmB, F, q, gC, kC, r⟩ := (cx.rai c hx).ex
  unfold raiB at h
  split at h
  · simp only [Bool.and_eq_true, decide_eq_true_eq] at h
    obtain ⟨h1, rfl⟩ := h
    obtain ⟨p, rfl, hgl, hd, hn⟩ := gl_of h1
    refine PS_imp (ps_raise (cx.calm hh) cx.takes (pmk_own F q gC kC r hgl hd)) fun D σ H ⟨env, fp, se, T⟩ => ?_
    exact T σ H fp se Stp.refl
  · cases h
theorem tryB_of {cf : Cf} {sc : Scope} {c : String} {i : Nat} {b h : List Stmt → Bool} {st : Stmt} (q : tryB cf sc c i b h st = true) : ∃ body x n b0 su pos' pos, st = .Try body [.ExceptHandler (some x) (some n) (b0 :: su) pos'] [] [] pos ∧
    glName sc c x = true ∧ cf.N[i]? = some n ∧ sc.names.lookup n = some .local ∧ b body = true ∧ h (b0 :: su) = true := by
  unfold tryB at q
  split at q
  · simp only [Bool.and_eq_true, decide_eq_true_eq] at q
    obtain ⟨⟨⟨⟨h1, h2⟩, h3⟩, h4⟩, h5⟩ := q
    exact ⟨_, _, _, _, _, _, _, rfl, h1, h2, h3, h4, h5⟩
  · cases q
theorem snds_tryE {b h : S} (xs : List String) (c : String) (i : Nat) (hb : ∀ C, SndS C b) (hs : ∀ C, SndS C h) : SndS C (.tryE b xs c i h) := SndS.one (f := fun cf sc st => tryB cf sc c i (chkS cf b sc).b (chkS (hotcf cf) h sc).b st && xs.all (fun d => decide (d ∈ cf.xhs)) && decide (c ∈ cf.xcs) && !cf.hot) (fun _ _ => rfl) fun {cf X G W cls} cx st q => by
  simp only [Bool.and_eq_true, Bool.not_eq_true', decide_eq_true_eq, List.all_eq_true] at q
  obtain ⟨⟨⟨q, hxs⟩, hc⟩, hh⟩ := q
  obtain ⟨body, x, n, b0, su, pos', pos, rfl, h1, h2, h3, h4, h5⟩ := tryB_of q
  exact ds_try cx hh (by rw [cx.N]; exact h2) h3 h1 hc hxs (fun W' pn xe cx' => (hb C).b cx' body h4) fun a oe pn c' cx' => (hs noCalls).b cx' (b0 :: su) h5
theorem tryOB_of {sc : Scope} {c : String} {b h : List Stmt → Bool} {st : Stmt} (q : tryOB sc c b h st = true) : ∃ body x b0 su pos' pos, st = .Try body [.ExceptHandler (some x) none (b0 :: su) pos'] [] [] pos ∧
    glName sc c x = true ∧ b body = true ∧ h (b0 :: su) = true := by
  unfold tryOB at q
  split at q
  · simp only [Bool.and_eq_true] at q
    obtain ⟨⟨h1, h4⟩, h5⟩ := q
    exact ⟨_, _, _, _, _, _, rfl, h1, h4, h5⟩
  · cases q
theorem snds_tryO {b h : S} (xs : List String) (c : String) (hb : ∀ C, SndS C b) (hs : ∀ C, SndS C h) : SndS C (.tryO b xs c h) := SndS.one (f := fun cf sc st => tryOB sc c (chkS cf b sc).b (chkS (hotcf cf) h sc).b st && xs.all (fun d => decide (d ∈ cf.xhs)) && decide (c ∈ cf.xcs) && !cf.hot) (fun _ _ => rfl) fun {cf X G W cls} cx st q => by
  simp only [Bool.and_eq_true, Bool.not_eq_true', decide_eq_true_eq, List.all_eq_true] at q
  obtain ⟨⟨⟨q, hxs⟩, hc⟩, hh⟩ := q
  obtain ⟨body, x, b0, su, pos', pos, rfl, h1, h4, h5⟩ := tryOB_of q
  exact ds_tryO cx hh h1 hc hxs (fun W' pn xe cx' => (hb C).b cx' body h4) fun a oe pn c' cx' => (hs noCalls).b cx' (b0 :: su) h5
theorem try3B_of {cf : Cf} {sc : Scope} {i : Nat} {c1 c2 c3 : String} {b h1 h2 h3 : List Stmt → Bool} {st : Stmt} (q : try3B cf sc i c1 c2 c3 b h1 h2 h3 st = true) : ∃ body x1 x2 x3 n b1 b2 b3 u1 u2 u3 p1 p2 p3 pos,
    st = .Try body [.ExceptHandler (some x1) (some n) (b1 :: u1) p1, .ExceptHandler (some x2) (some n) (b2 :: u2) p2, .ExceptHandler (some x3) (some n) (b3 :: u3) p3] [] [] pos ∧
    glName sc c1 x1 = true ∧ glName sc c2 x2 = true ∧ glName sc c3 x3 = true ∧ cf.N[i]? = some n ∧ sc.names.lookup n = some .local ∧ b body = true ∧ h1 (b1 :: u1) = true ∧ h2 (b2 :: u2) = true ∧ h3 (b3 :: u3) = true := by
  unfold try3B at q
  split at q
  · simp only [Bool.and_eq_true, decide_eq_true_eq] at q
    obtain ⟨⟨⟨⟨⟨⟨⟨⟨⟨⟨a1, a2⟩, a3⟩, rfl⟩, rfl⟩, a6⟩, a7⟩, a8⟩, a9⟩, a10⟩, a11⟩ := q
    exact ⟨_, _, _, _, _, _, _, _, _, _, _, _, _, _, _, rfl, a1, a2, a3, a6, a7, a8, a9, a10, a11⟩
  · cases q
theorem snds_try3 {b h1 h2 h3 : S} (xs : List String) (i : Nat) (c1 c2 c3 : String) (hb : ∀ C, SndS C b) (s1 : ∀ C, SndS C h1) (s2 : ∀ C, SndS C h2) (s3 : ∀ C, SndS C h3) : SndS C (.try3 b xs i c1 c2 c3 h1 h2 h3) := SndS.one (f := fun cf sc st => try3B cf sc i c1 c2 c3 (chkS cf b sc).b (chkS (hotcf cf) h1 sc).b (chkS (hotcf cf) h2 sc).b (chkS (hotcf cf) h3 sc).b st && xs.all (fun d => decide (d ∈ cf.xhs)) && decide (c1 ∈ cf.xcs) && decide (c2 ∈ cf.xcs) && decide (c3 ∈ cf.xcs) && !cf.hot) (fun _ _ => rfl) fun {cf X G W cls} cx st q => by
  simp only [Bool.and_eq_true, Bool.not_eq_true', decide_eq_true_eq, List.all_eq_true] at q
  obtain ⟨⟨⟨⟨⟨q, hxs⟩, m1⟩, m2⟩, m3⟩, hh⟩ := q
  obtain ⟨body, x1, x2, x3, n, b1, b2, b3, u1, u2, u3, p1, p2, p3, pos, rfl, a1, a2, a3, a6, a7, a8, a9, a10, a11⟩ := try3B_of q
  exact ds_try3 cx hh (by rw [cx.N]; exact a6) a7 ⟨a1, m1, fun a oe pn c' cx' => (s1 noCalls).b cx' (b1 :: u1) a9⟩ ⟨a2, m2, fun a oe pn c' cx' => (s2 noCalls).b cx' (b2 :: u2) a10⟩ ⟨a3, m3, fun a oe pn c' cx' => (s3 noCalls).b cx' (b3 :: u3) a11⟩ hxs fun W' pn xe cx' => (hb C).b cx' body a8
theorem snds_seq {a b : S} (ha : SndS C a) (hb : SndS C b) : SndS C (.seq a b) where
  s := fun cx st q => by cases q
  b := fun {cf X G W cls} cx l q => by
    have q' : seqB (ghost a) (chkS cf a X.env.scope).s (chkS cf b X.env.scope).b l = true := q
    cases hg : ghost a with
    | true =>
      rw [hg] at q'
      have ⟨i, hi⟩ : ∃ i, a = .gh i := by
        cases a <;> first | exact ⟨_, rfl⟩ | (cases hg)
      subst hi
      exact ds_gh (hb.b cx l q')
    | false =>
      rw [hg] at q'
      cases l with
      | nil => cases q'
      | cons st r =>
        have q2 : ((chkS cf a X.env.scope).s st && (chkS cf b X.env.scope).b r) = true := q'
        rw [Bool.and_eq_true] at q2
        exact ds_seq (ha.s cx st q2.1) (hb.b cx r q2.2)
theorem snds (s : S) : ∀ C : Calls, SndS C s := by
  induction s with
  | skip =>
    exact fun C => ⟨fun cx l q => (by
      cases l with
      | nil => exact ds_skip rfl
      | cons x r => cases q), fun cx st q => (by cases q)⟩
  | seq a b h1 h2 => exact fun C => snds_seq (h1 C) (h2 C)
  | set i e => exact fun C => snds_set i e
  | setI o k e => exact fun C => snds_setI o k e
  | setC i elt j it c => exact fun C => snds_setC i elt j it c
  | setF i f e => exact fun C => snds_setF i f e
  | ex e => exact fun C => snds_ex e
  | ret e => exact fun C => snds_ret e
  | retN => exact fun C => snds_retN
  | ite c a b h1 h2 => exact fun C => snds_ite c (h1 C) (h2 C)
  | for1 i it b h => exact fun C => snds_for1 i it (h C)
  | for2 i j it b h => exact fun C => snds_for2 i j it (h C)
  | whl c b h => exact fun C => snds_whl c (h C)
  | rai c m => exact fun C => snds_rai c m
  | pass => exact fun C => snds_pass
  | dead => exact fun C => ⟨fun cx l q => ⟨fun pins s σ H D I ⟨env, fp, se, T⟩ => T.elim⟩, fun cx st q => ⟨fun pins s σ H D I ⟨env, fp, se, T⟩ => T.elim⟩⟩
  | tryE b xs c i h h1 h2 => exact fun C => snds_tryE xs c i h1 h2
  | tryO b xs c h h1 h2 => exact fun C => snds_tryO xs c h1 h2
  | try3 b xs i c1 c2 c3 h1 h2 h3 k0 k1 k2 k3 => exact fun C => snds_try3 xs i c1 c2 c3 k0 k1 k2 k3
  | _ => exact fun C => SndS.none fun _ _ => rfl
end
end DL

/-! DL17: all defs of a text at once. -/
namespace DL
open PySem PySem.Spec PyProof.Rows L2

/-- a def of the text: its name, its text, its slots, its parameters, its own term -/
structure Df where
  name : String
  st : Stmt
  N : List Str
  ps : List Str
  fd : FD
def scopeB (N ps : List Str) (sc : Scope) : Bool :=
  decide (sc.kind = .function) && !sc.isCoroutine && !sc.isGenerator && decide N.Nodup && decide (N.take ps.length = ps) &&
    ps.all (fun x => decide (sc.names.lookup x = some .local) || decide (sc.names.lookup x = some .cell)) && sc.names.all fun y => !decide (y.2 = .free)
theorem scopeB_of {N ps : List Str} {sc : Scope} (h : scopeB N ps sc = true) : FnScope N ps sc := by
  simp only [scopeB, Bool.and_eq_true, decide_eq_true_eq, Bool.not_eq_true', List.all_eq_true, Bool.or_eq_true, decide_eq_false_iff_not] at h
  obtain ⟨⟨⟨⟨⟨⟨h1, h2⟩, h3⟩, h4⟩, h5⟩, h6⟩, h7⟩ := h
  exact ⟨h1, h2, h3, h4, h5, h6, h7⟩
def cfOf (cf : Cf) (d : Df) : Cf := { cf with N := d.N }
def dfB (cf : Cf) (d : Df) : Bool := (chkS (cfOf cf d) d.fd.body (defScope d.st)).b (defBody d.st) && decide (d.N.length = d.fd.nn) && decide (d.ps.length = d.fd.np) && decide (d.fd.np ≤ d.fd.nn) && scopeB d.N d.ps (defScope d.st)
/-- what the text's top has written of the def -/
structure TF (K : PySem.W.Frag) (mg : Str → Option Value) (d : Df) : Prop where
  ex : ∃ (f : Addr) (fdat : FuncData), Fun K d.name d.name d.st f fdat ∧ mg d.name = some (.ref f) ∧ Binds K fdat d.ps []
/-- an exception class of the text -/
structure XF (K : PySem.W.Frag) (mg : Str → Option Value) (cls : String → Addr) (c : String) : Prop where
  ex : ∃ (B newId initId : String) (bmB : List Value), ExcBaseFacts B newId initId bmB ∧ PySem.W.excIn K (cls c) bmB newId = true ∧ mg c = some (.ref (cls c)) ∧ PySem.W.keepIn K (.ref (cls c)) = true ∧
    PySem.W.subIn K (.ref (cls c)) (.type "BaseException") = some true ∧ PySem.W.typeIn K (.ref (cls c)) = some (.type "type")
section
variable {P : Program} {w : World} {K : PySem.W.Frag} {mg : Str → Option Value} {base : Heap}
/-- what the one class is known by -/
structure Facts (cf : Cf) (K : PySem.W.Frag) (mg : Str → Option Value) (Cl : Addr) (cls : String → Addr) : Prop where
  hot : cf.hot = false
  blt : ∀ x : Str, x ∈ (["len", "tuple", "list", "int", "any", "all", "max", "isinstance", "range", "reversed", "zip", "enumerate", "bool", "str", "ValueError", "set"] : List Str) → mg x = none
  cst : ∀ n p, (n, p) ∈ cf.cst → ∃ v u, mg n = some u ∧ RelV v u ∧ ∀ H, RP H p v
  cl : cf.mach = true → Cls K Cl ∧ ∀ g : Fld, NoAttr K Cl g.name
  xc : ∀ c ∈ cf.xcs, XF K mg cls c
  xm : ∀ c ∈ cf.xhs, ∀ d ∈ cf.xcs, PySem.W.exmOne K (.ref (cls c)) (.ref (cls d)) = some (isXc c (.xc d))
  xk : ∀ c ∈ cf.xhs, ExcC K (cls c) ∧ ∀ t, xTy cf t = true → PySem.W.kitOne K (.ref (cls c)) (tyXV cls t) = some (isXc c t)
/-- a method of the one class: its def, its own name and its whole one -/
structure Mf where
  d : Df
  x : Str
  q : Str
structure TM (K : PySem.W.Frag) (Cl : Addr) (m : Mf) : Prop where
  ex : ∃ (f : Addr) (fdat : FuncData), Fun K m.x m.q m.d.st f fdat ∧ Meth K Cl m.d.name f ∧ Binds K fdat m.d.ps []
structure TI (K : PySem.W.Frag) (mg : Str → Option Value) (Cl : Addr) (m : Mf) : Prop where
  ex : ∃ (f : Addr) (fdat : FuncData), Fun K m.x m.q m.d.st f fdat ∧ Mk K Cl f ∧ mg "Machine" = some (.ref Cl) ∧ Binds K fdat m.d.ps []
/-- the length that a def asks -/
theorem run_len {Γ : Tbl} {n : Nat} {d : Df} (h : Γ d.name = some d.fd) : ∀ ts, run Γ n d.name ts ≠ .st → ts.length = d.fd.np := fun ts hne => by
  cases n with
  | zero => exact absurd rfl hne
  | succ n =>
    simp only [run, h] at hne
    split at hne
    · assumption
    · exact absurd rfl hne
/-- a def at the next level -/
theorem def_ok {cf : Cf} {Γ : Tbl} {Cl : Addr} {cls : String → Addr} {n k : Nat} {d : Df} {x q : Str} (hΓ : Γ d.name = some d.fd) (hB : dfB cf d = true) (A0 : Facts cf K mg Cl cls)
    (hF : ∀ g ∈ cf.funs, ∃ (a : Addr) (fd : FuncData) (ps : List Str) (np : Nat), (∀ ts, run Γ n g ts ≠ .st → ts.length = np) ∧ FnOk P w K mg base (L2.CX P w) k a fd ps (spD K ⟨Cl, w⟩ cls (run Γ n g) np) ∧ mg g = some (.ref a) ∧ PySem.W.keepIn K (.ref a) = true ∧ Binds K fd ps [])
    (hM : ∀ g ∈ cf.meths, ∃ (a : Addr) (fd : FuncData) (ps : List Str) (np : Nat), (∀ ts, run Γ n g ts ≠ .st → ts.length = np) ∧ FnOk P w K mg base (L2.CX P w) k a fd ps (spD K ⟨Cl, w⟩ cls (run Γ n g) np) ∧ Meth K Cl g a ∧ Binds K fd ps [] ∧ ∀ z : Fld, z.name ≠ g)
    (hI : cf.makes = true → ∃ (a : Addr) (fd : FuncData) (ps : List Str) (j np : Nat), j + 1 ≤ k ∧ (∀ ts, run Γ n "Machine" ts ≠ .st → ts.length = np) ∧ FnOk P w K mg base (L2.CX P w) j a fd ps (spD K ⟨Cl, w⟩ cls (run Γ n "Machine") np) ∧ Mk K Cl a ∧ mg "Machine" = some (.ref Cl) ∧ Binds K fd ps [])
    {f : Addr} {fdat : FuncData} (F : Fun K x q d.st f fdat) : FnOk P w K mg base (L2.CX P w) (k + 1) f fdat d.ps (spD K ⟨Cl, w⟩ cls (run Γ (n + 1) d.name) d.fd.np) := by
  have hB1 := hB
  simp only [dfB, Bool.and_eq_true, decide_eq_true_eq] at hB1
  obtain ⟨⟨⟨⟨hc, hN⟩, hp⟩, hle⟩, hsc⟩ := hB1
  refine F.okX (scopeB_of hsc) (fun vs H Q E h => ?_) fun cdv A outer s H vs Q E hr h => ?_
  · obtain ⟨ts, fp, Z, h1, _⟩ := h
    rw [h1, hp]
  · obtain ⟨ts, fp, Z, h1, h2, se, h⟩ := h
    refine ⟨rdX ⟨K, ⟨Cl, w⟩, fun i => vs[i]?, Z, none⟩ (fun c dx _ H' => E c dx H') cls (exec ⟨run Γ n, wfuel⟩ d.fd.body), (snds d.fd.body ⟨run Γ n, wfuel⟩).b (cf := cfOf cf d) ?_ _ hc, ?_⟩
    · have tk : Takes (cxOf (L2.CX P w) P w K mg base d.N q (defScope d.st) f cdv A outer s H E) (fun c dx _ H' => E c dx H') := takes_of rfl rfl rfl rfl
      refine { N := rfl, K := rfl, wd := rfl, nd := (scopeB_of hsc).nd, units := ?_, calm := fun _ => rfl, takes := tk, blt := A0.blt, cst := A0.cst, cal := fun g hg _ => ?_, cl := A0.cl, met := fun g hg _ => ?_, ini := fun hm _ => ?_, xa0 := fun _ => rfl, hx := fun a c e => (by cases e), xm := A0.xm, xk := A0.xk, fn := fun _ => rfl, po := passes_of rfl, xs := rfl, xf := rfl, rai := fun c hx => ?_ }
      · have := hr.un
        show (A.deeper _).units + 66 < cLine
        omega
      · obtain ⟨a, fd, ps, np, k1, k2, k3, k4, k5⟩ := hF g hg
        exact ⟨a, fd, ps, k, np, k1, k2, hr, k3, k4, k5⟩
      · obtain ⟨a, fd, ps, np, k1, k2, k3, k4, k5⟩ := hM g hg
        exact ⟨a, fd, ps, k, np, k1, k2, hr, k3, k4, k5⟩
      · obtain ⟨a, fd, ps, j, np, k0, k1, k2, k3, k4, k5⟩ := hI hm
        exact ⟨a, fd, ps, j, np, k1, k2, hr.mono k0, k3, k4, k5⟩
      · obtain ⟨B, newId, initId, bmB, k1, k2, k3, k4, k5, k6⟩ := (A0.xc c hx).ex
        exact ⟨B, newId, initId, bmB, k1, k2, k3, k4, raises_own k5 k6⟩
    · have hlv : vs.length = d.fd.np := h1
      refine ⟨ts ++ List.replicate (d.fd.nn - d.fd.np) .no, fp, ?_, ?_⟩
      · have := se_start (d.fd.nn - d.fd.np) se
        unfold L2.start
        rw [hN, hlv]
        exact this
      · simp only [run, hΓ, h2, if_true] at h
        generalize exec ⟨run Γ n, wfuel⟩ d.fd.body (ts ++ List.replicate (d.fd.nn - d.fd.np) .no) = r at h
        have small : ∀ {fp' : Nat → List Addr} {H' : Hp} {fd : List Addr}, Stp (In fp) H (fun a => In fp' a ∨ a ∈ fd) H' → Stp (In fp) H (fun a => In (fun i => if i < d.fd.np then fp' i else []) a ∨ a ∈ fd) H' := fun {fp' H' fd} st => st.less fun a ha => by
          rcases ha with ⟨i, hi⟩ | ha
          · dsimp only at hi
            split at hi
            · exact .inl ⟨i, hi⟩
            · cases hi
          · exact .inr ha
        cases r with
        | st => exact h.elim
        | ex c env' => exact fun σ' H' fp' se' st => h H' (st.less fun _ z => z.elim)
        | nx env' =>
          exact fun σ' H' fp' se' st => h .non H' (σ'.take d.fd.np) _ [] (se_take d.fd.np se') ⟨by rw [RP], rfl⟩ .nil (fun _ z => nomatch z) (small st.nil)
        | rt x env' =>
          refine fun v σ' H' fp' fd se' rd nd ap st => h v H' (σ'.take d.fd.np) _ fd (se_take d.fd.np se') rd nd (fun a ha => ⟨fun ⟨i, hi⟩ => ?_, (ap a ha).2⟩) (small st)
          dsimp only at hi
          split at hi
          · exact (ap a ha).1 ⟨i, hi⟩
          · cases hi
theorem st_ok {Cl : Addr} {cls : String → Addr} {Γ : Tbl} {k : Nat} {g : String} {np : Nat} {f : Addr} {fdat : FuncData} {ps : List Str} : FnOk P w K mg base (L2.CX P w) k f fdat ps (spD K ⟨Cl, w⟩ cls (run Γ 0 g) np) := by
  refine ⟨fun vs H Q E h => ?_, fun A outer s H args us vs Q E hr e0 hb r hsp => ?_⟩
  · obtain ⟨ts, fp, Z, _, _, _, h⟩ := h
    exact h.elim
  · obtain ⟨ts, fp, Z, _, _, _, h⟩ := hsp
    exact h.elim
theorem all_ok {cf : Cf} {ds : List Df} {ms : List Mf} {Γ : Tbl} {Cl : Addr} {cls : String → Addr} {b : Nat} (hΓ : ∀ d ∈ ds, Γ d.name = some d.fd) (hΓm : ∀ m ∈ ms, Γ m.d.name = some m.d.fd) (hf : ∀ f ∈ cf.funs, ∃ d ∈ ds, d.name = f) (hm : ∀ f ∈ cf.meths, ∃ m ∈ ms, m.d.name = f ∧ ∀ z : Fld, z.name ≠ f)
    (hB : ∀ d ∈ ds, dfB cf d = true) (hBm : ∀ m ∈ ms, dfB cf m.d = true) (T : ∀ d ∈ ds, TF K mg d) (TMs : ∀ m ∈ ms, TM K Cl m) (A0 : Facts cf K mg Cl cls)
    (hI : cf.makes = true → 1 ≤ b ∧ ∀ n, ∃ (a : Addr) (fd : FuncData) (ps : List Str) (np : Nat), (∀ ts, run Γ n "Machine" ts ≠ .st → ts.length = np) ∧ FnOk P w K mg base (L2.CX P w) n a fd ps (spD K ⟨Cl, w⟩ cls (run Γ n "Machine") np) ∧ Mk K Cl a ∧ mg "Machine" = some (.ref Cl) ∧ Binds K fd ps []) :
    ∀ (n : Nat), (∀ d ∈ ds, ∀ (f : Addr) (fdat : FuncData), Fun K d.name d.name d.st f fdat → FnOk P w K mg base (L2.CX P w) (n + b) f fdat d.ps (spD K ⟨Cl, w⟩ cls (run Γ n d.name) d.fd.np)) ∧
      ∀ m ∈ ms, ∀ (f : Addr) (fdat : FuncData), Fun K m.x m.q m.d.st f fdat → FnOk P w K mg base (L2.CX P w) (n + b) f fdat m.d.ps (spD K ⟨Cl, w⟩ cls (run Γ n m.d.name) m.d.fd.np) := by
  intro n
  induction n with
  | zero => exact ⟨fun d hd f fdat F => st_ok, fun m hm f fdat F => st_ok⟩
  | succ n ih =>
    have hF : ∀ g ∈ cf.funs, ∃ (a : Addr) (fd : FuncData) (ps : List Str) (np : Nat), (∀ ts, run Γ n g ts ≠ .st → ts.length = np) ∧ FnOk P w K mg base (L2.CX P w) (n + b) a fd ps (spD K ⟨Cl, w⟩ cls (run Γ n g) np) ∧ mg g = some (.ref a) ∧ PySem.W.keepIn K (.ref a) = true ∧ Binds K fd ps [] := fun g hg => by
      obtain ⟨d2, hd2, rfl⟩ := hf g hg
      obtain ⟨f2, fdat2, F2, m2, b2⟩ := (T d2 hd2).ex
      exact ⟨f2, fdat2, d2.ps, d2.fd.np, run_len (hΓ d2 hd2), ih.1 d2 hd2 f2 fdat2 F2, m2, F2.kp, b2⟩
    have hM : ∀ g ∈ cf.meths, ∃ (a : Addr) (fd : FuncData) (ps : List Str) (np : Nat), (∀ ts, run Γ n g ts ≠ .st → ts.length = np) ∧ FnOk P w K mg base (L2.CX P w) (n + b) a fd ps (spD K ⟨Cl, w⟩ cls (run Γ n g) np) ∧ Meth K Cl g a ∧ Binds K fd ps [] ∧ ∀ z : Fld, z.name ≠ g := fun g hg => by
      obtain ⟨m2, hm2, rfl, hz⟩ := hm g hg
      obtain ⟨f2, fdat2, F2, q2, b2⟩ := (TMs m2 hm2).ex
      exact ⟨f2, fdat2, m2.d.ps, m2.d.fd.np, run_len (hΓm m2 hm2), ih.2 m2 hm2 f2 fdat2 F2, q2, b2, hz⟩
    have hI' : cf.makes = true → ∃ (a : Addr) (fd : FuncData) (ps : List Str) (j np : Nat), j + 1 ≤ n + b ∧ (∀ ts, run Γ n "Machine" ts ≠ .st → ts.length = np) ∧ FnOk P w K mg base (L2.CX P w) j a fd ps (spD K ⟨Cl, w⟩ cls (run Γ n "Machine") np) ∧ Mk K Cl a ∧ mg "Machine" = some (.ref Cl) ∧ Binds K fd ps [] := fun h => by
      obtain ⟨hb, h⟩ := hI h
      obtain ⟨a, fd, ps, np, h⟩ := h n
      exact ⟨a, fd, ps, n, np, by omega, h⟩
    have e : n + 1 + b = n + b + 1 := by omega
    rw [e]
    exact ⟨fun d hd f fdat F => def_ok (hΓ d hd) (hB d hd) A0 hF hM hI' F, fun m hm f fdat F => def_ok (hΓm m hm) (hBm m hm) A0 hF hM hI' F⟩
end
/-! ### the law's end -/
/-- the promise of the law's def -/
def spLaw (Γ : Tbl) (n : Nat) (K : PySem.W.Frag) : Sp := fun vs H Q E => ∀ (Cl : CW) (cls : String → Addr), spD K Cl cls (run Γ n "law") 1 vs H Q E
theorem rps_ints {H : Hp} : ∀ (ns : List Int), RPs H (ns.map PyData.int) (ns.map V.int)
  | [] => by rw [List.map_nil, List.map_nil, RPs]
  | n :: ns => .cons (by rw [RP]) (rps_ints ns)
theorem law_sp {Γ : Tbl} {n : Nat} {K : PySem.W.Frag} {H : Hp} {a : Addr} {ns : List Int} (hO : Only H) (hS : SqL K H a (ns.map V.int)) (hr : ∃ outs, run Γ n "law" [.ro (.rl (ns.map PyData.int))] = .ok (.p (.bool true)) outs) :
    spLaw Γ n K [.ref a] H (fun v _ => v = .bl true) fun _ _ _ => False := fun Cl cls => by
  obtain ⟨outs, hr⟩ := hr
  refine ⟨[.ro (.rl (ns.map PyData.int))], fun _ => [], fun _ => False, rfl, rfl, ⟨rfl, fun i hi => ?_, fun _ _ => rfl, fun _ => .nil, (fun _ _ _ h => nomatch h), fun _ h => h.elim⟩, ?_⟩
  · have hi0 : i = 0 := by simp at hi; omega
    subst hi0
    refine ⟨_, rfl, rfl, .ref a, [], rfl, ⟨a, ns.map V.int, rfl, ?_, rps_ints ns, rfl⟩, (fun _ h => nomatch h)⟩
    rcases hS with (h | h) | h
    · rcases hO a with q | ⟨o, xs, q⟩
      · rw [q] at h; cases h
      · rw [q] at h; cases h
    · exact .inl h
    · exact .inr h
  · rw [hr]
    exact fun v H' σ' fp' fd _ rd _ _ _ => rd.ofp.bool
end DL

/-! DL18: a whole law from its text's parts. -/
namespace DL
open PySem PySem.Spec PyProof.Rows L2

def allD {α : Type} (p : α → Prop) : List α → Prop
  | [] => True
  | d :: r => p d ∧ allD p r
theorem allD_of {α : Type} {p : α → Prop} : ∀ {ds : List α}, allD p ds → ∀ d ∈ ds, p d
  | [], _, _, h => by cases h
  | d :: r, h, e, he => by
    rcases List.mem_cons.mp he with rfl | he
    · exact h.1
    · exact allD_of h.2 e he
def tbl : List Df → Tbl
  | [], _ => none
  | d :: r, f => if f = d.name then some d.fd else tbl r f
theorem tbl_of : ∀ {ds : List Df}, (ds.map (·.name)).Nodup → ∀ d ∈ ds, tbl ds d.name = some d.fd
  | [], _, d, h => by cases h
  | e :: r, hn, d, h => by
    rw [List.map_cons, List.nodup_cons] at hn
    rcases List.mem_cons.mp h with rfl | h
    · simp [tbl]
    · have hne : d.name ≠ e.name := fun z => hn.1 (by rw [← z]; exact List.mem_map_of_mem h)
      simp only [tbl, if_neg hne]
      exact tbl_of hn.2 d h
/-- the text's parts: the defs, the constants, the exception classes, the one class's methods, its __init__, the defs that __init__ needs -/
structure Txt where
  fs : List Df
  cst : List (String × P)
  xcs : List String
  xhs : List String
  ms : List Mf
  ini : List Mf
  lo : List Df
@[simp] def Txt.ds (t : Txt) : List Df := t.fs ++ (t.ms ++ t.ini).map (·.d)
def Txt.mach (t : Txt) : Bool := !t.ini.isEmpty
def Txt.cf (t : Txt) : Cf := { N := [], funs := t.fs.map (·.name), meths := t.ms.map (·.d.name), mach := t.mach, makes := t.mach, hot := false, cst := t.cst, xcs := t.xcs, xhs := t.xhs }
def Txt.cfL (t : Txt) : Cf := { t.cf with funs := t.lo.map (·.name), meths := [], makes := false }
def noFld (x : Str) : Bool := [Fld.table, .most, .book, .todo, .found, .ended].all fun g => !decide (g.name = x)
theorem noFld_of {x : Str} (h : noFld x = true) (g : Fld) : g.name ≠ x := by
  unfold noFld at h
  have := List.all_eq_true.mp h g (by cases g <;> decide)
  simpa using this
def Txt.ok (t : Txt) : Bool := t.fs.all (dfB t.cf) && t.ms.all (fun m => dfB t.cf m.d && noFld m.d.name) && t.lo.all (dfB t.cfL) && t.ini.all (fun m => dfB t.cfL m.d && decide (m.d.name = "Machine")) && decide ((t.ds.map (·.name)).Nodup)
theorem Txt.law {t : Txt} {P : Program} {w : World} {K : PySem.W.Frag} {mg : Str → Option Value} {base : Heap} {Cl : Addr} {cls : String → Addr} (h : t.ok = true) (hlo : allD (· ∈ t.fs) t.lo) (T : allD (TF K mg) t.fs) (TMs : allD (TM K Cl) t.ms) (TIs : allD (TI K mg Cl) t.ini) (A0 : Facts t.cf K mg Cl cls)
    {d : Df} (hd : d ∈ t.fs) (hn : d.name = "law") (hp : d.fd.np = 1) (n : Nat) {f : Addr} {fdat : FuncData} (F : Fun K d.name d.name d.st f fdat) : FnOk P w K mg base (L2.CX P w) (n + 1) f fdat d.ps (spLaw (tbl t.ds) n K) := by
  simp only [Txt.ok, Bool.and_eq_true, decide_eq_true_eq, List.all_eq_true] at h
  obtain ⟨⟨⟨⟨h1, h2⟩, h3⟩, h4⟩, h5⟩ := h
  have tb := tbl_of h5
  have hlo := allD_of hlo
  have TI' := allD_of TIs
  have mem1 : ∀ d ∈ t.fs, d ∈ t.ds := fun d hd => List.mem_append.mpr (.inl hd)
  have mem2 : ∀ m ∈ t.ms, m.d ∈ t.ds := fun m hm => List.mem_append.mpr (.inr (List.mem_map_of_mem (List.mem_append.mpr (.inl hm))))
  have mem3 : ∀ m ∈ t.ini, m.d ∈ t.ds := fun m hm => List.mem_append.mpr (.inr (List.mem_map_of_mem (List.mem_append.mpr (.inr hm))))
  have A1 : Facts t.cfL K mg Cl cls := ⟨A0.hot, A0.blt, A0.cst, A0.cl, A0.xc, A0.xm, A0.xk⟩
  have low := all_ok (P := P) (w := w) (base := base) (cf := t.cfL) (ds := t.lo) (ms := []) (Γ := tbl t.ds) (b := 0) (fun d hd => tb d (mem1 d (hlo d hd))) (fun _ h => nomatch h) (fun f hf => by
    obtain ⟨d, hd, rfl⟩ := List.mem_map.mp hf
    exact ⟨d, hd, rfl⟩) (fun _ h => nomatch h) h3 (fun _ h => nomatch h) (fun d hd => allD_of T d (hlo d hd)) (fun _ h => nomatch h) A1 (fun h => by cases h)
  have hI : t.cf.makes = true → 1 ≤ 1 ∧ ∀ n, ∃ (a : Addr) (fd : FuncData) (ps : List Str) (np : Nat), (∀ ts, run (tbl t.ds) n "Machine" ts ≠ .st → ts.length = np) ∧ FnOk P w K mg base (L2.CX P w) n a fd ps (spD K ⟨Cl, w⟩ cls (run (tbl t.ds) n "Machine") np) ∧ Mk K Cl a ∧ mg "Machine" = some (.ref Cl) ∧ Binds K fd ps [] := fun hm => by
    refine ⟨Nat.le_refl _, fun n => ?_⟩
    have hm : t.mach = true := hm
    obtain ⟨m, hmi⟩ : ∃ m, m ∈ t.ini := by
      cases hq : t.ini with
      | nil => rw [Txt.mach, hq] at hm; cases hm
      | cons m r => exact ⟨m, by simp⟩
    obtain ⟨a, fd, F, M, mg1, b1⟩ := (TI' m hmi).ex
    have hq := h4 m hmi
    rw [← hq.2]
    refine ⟨a, fd, m.d.ps, m.d.fd.np, run_len (tb _ (mem3 m hmi)), ?_, M, by rw [hq.2]; exact mg1, b1⟩
    cases n with
    | zero => exact st_ok
    | succ n =>
      refine def_ok (cf := t.cfL) (n := n) (k := n) (tb _ (mem3 m hmi)) hq.1 A1 (fun g hg => ?_) (fun _ h => nomatch h) (fun h => by cases h) F
      obtain ⟨d2, hd2, rfl⟩ := List.mem_map.mp hg
      obtain ⟨f2, fdat2, F2, m2, b2⟩ := (allD_of T d2 (hlo d2 hd2)).ex
      exact ⟨f2, fdat2, d2.ps, d2.fd.np, run_len (tb _ (mem1 _ (hlo d2 hd2))), (low n).1 d2 hd2 f2 fdat2 F2, m2, F2.kp, b2⟩
  have main := (all_ok (P := P) (w := w) (base := base) (cf := t.cf) (ds := t.fs) (ms := t.ms) (Γ := tbl t.ds) (b := 1) (fun d hd => tb d (mem1 d hd)) (fun m hm => tb _ (mem2 m hm)) (fun f hf => by
    obtain ⟨d, hd, rfl⟩ := List.mem_map.mp hf
    exact ⟨d, hd, rfl⟩) (fun f hf => by
    obtain ⟨m, hm, rfl⟩ := List.mem_map.mp hf
    exact ⟨m, hm, rfl, noFld_of (h2 m hm).2⟩) h1 (fun m hm => (h2 m hm).1) (allD_of T) (allD_of TMs) A0 hI n).1 d hd f fdat F
  rw [hn, hp] at main
  exact main.imp fun vs H Q E z => z ⟨Cl, w⟩ cls
theorem hCX0 {P : Program} {w : World} {H : Hp} {s : Shared} {e : Value} {s' : Shared} (h : L2.CX P w [] H s (fun _ _ _ => False) e s') : False := by
  obtain ⟨_, _, _, _, _, _, _, _, _, _, _, _, z⟩ := h
  exact z
theorem room_law : Room 201 callerA := ⟨rfl, by decide, by decide⟩
theorem kit_cls {K : PySem.W.Frag} {C D : Addr} {b : Bool} (hd : PySem.W.hasDictIn K D = true) (ht : PySem.W.typeIn K (.ref D) = some (.type "type")) (hs : PySem.W.subIn K (.ref C) (.ref D) = some b) (self : PySem.W.subIn K (.ref C) (.ref C) = some true) : PySem.W.kitOne K (.ref C) (.ref D) = some b := by
  obtain ⟨cd, hc, _⟩ := PySem.W.any_some hd
  have e2 : ((PySem.W.clsIn K D).isSome && PySem.W.typeIn K (.ref D) == some (.type "type")) = true := by rw [hc, ht] <;> rfl
  unfold PySem.W.kitOne
  by_cases e : C = D
  · subst e
    rw [self] at hs
    cases hs
    simp
  · rw [if_neg (by simpa using e)]
    show (if ((PySem.W.clsIn K D).isSome && PySem.W.typeIn K (.ref D) == some (.type "type")) = true then PySem.W.subIn K (.ref C) (.ref D) else none) = some b
    rw [if_pos e2]
    exact hs
theorem kit_ve {K : PySem.W.Frag} {C : Addr} (hs : PySem.W.subIn K (.ref C) (.type "ValueError") = some true) : PySem.W.kitOne K (.ref C) (.type "ValueError") = some true := by
  unfold PySem.W.kitOne
  rw [if_neg (by simp)]
  show (if PySem.W.kitMeta "ValueError" = true then PySem.W.subIn K (.ref C) (.type "ValueError") else none) = some true
  rw [if_pos (by decide +kernel)]
  exact hs
end DL

/-! DL19: reckoning with own terms. -/
namespace DL
open PySem L2
/-- a slot that may be bound anew -/
def free : Sl → Bool
  | .no => true
  | .ow _ => true
  | _ => false
@[simp] theorem free_no : free .no = true := rfl
@[simp] theorem free_ow (d : D) : free (.ow d) = true := rfl
theorem bindS_free {env : Env} {i : Nat} {d : D} (h : free (gt env i) = true) : bindS env i d = if i < env.length then some (env.set i (.ow d)) else none := by
  unfold bindS
  cases q : gt env i with
  | no => rfl
  | ow d => rfl
  | bo d => rw [q] at h; cases h
  | ro d => rw [q] at h; cases h
  | xc c => rw [q] at h; cases h
theorem bindR_free {env : Env} {i : Nat} {d : D} (h : free (gt env i) = true) (hl : i < env.length) : bindR env i d = .nx (env.set i (.ow d)) := by
  unfold bindR
  rw [bindS_free h, if_pos hl]
theorem popL_snoc {α : Type} (xs : List α) (y : α) : popL (xs ++ [y]) = some (y, xs) := by
  simp [popL]
theorem popL_snoc2 {α : Type} (xs : List α) (a b : α) : popL (xs ++ [a, b]) = some (b, xs ++ [a]) := by
  rw [show xs ++ [a, b] = (xs ++ [a]) ++ [b] by simp, popL_snoc]
theorem popL_one {α : Type} (y : α) : popL [y] = some (y, []) := rfl
theorem big_line {n : Nat} (h : n < 16777216) : n < sizeLine := by rw [sizeLine_eq]; exact h
theorem big_line' {n : Nat} (h : n ≤ 16777216) : n ≤ sizeLine := by rw [sizeLine_eq]; exact h
@[simp] theorem line_pos : 0 < sizeLine := big_line (by omega)
@[simp] theorem cutL_tail {α : Type} (x : α) (xs : List α) : cutL (x :: xs) (some 1) none = xs := by
  have h : HT.sIx (x :: xs).length 0 (some 1) = 1 := by
    simp [HT.sIx]
  have h2 : HT.sIx (x :: xs).length (x :: xs).length none = xs.length + 1 := by
    simp [HT.sIx]
  unfold cutL
  rw [h, h2]
  simp
/-- a call whose arguments are data -/
theorem call_va {C : Calls} {f : String} {xs : List P} {env : Env} {d : D} {outs : Env} (h : C.call f (xs.map fun x => .ow (.p x)) = .ok d outs) (hl : outs.length = xs.length) : doCall C f (xs.map fun x => .va (.p x)) env = .ok d env := by
  have lo : ∀ xs : List P, lentOnce (xs.map fun x => AV.va (.p x)) = true := fun xs => by
    induction xs with
    | nil => rfl
    | cons x r ih => exact ih
  have so : ∀ xs : List P, slotsOf env (xs.map fun x => AV.va (.p x)) = some (xs.map fun x => .ow (.p x)) := fun xs => by
    induction xs with
    | nil => rfl
    | cons x r ih => simp only [List.map_cons, slotsOf, slotOf, ih, Option.map_some]
  have gb : ∀ (xs : List P) (os : Env), os.length = xs.length → giveBack env (xs.map fun x => AV.va (.p x)) os = some env := fun xs => by
    induction xs with
    | nil => intro os _; simp [giveBack]
    | cons x r ih =>
      intro os ho
      cases os with
      | nil => cases ho
      | cons o os => simp only [List.map_cons, giveBack]; exact ih os (by simpa using ho)
  unfold doCall
  rw [if_pos (lo xs), so xs]
  simp only [h, gb xs outs hl]
/-- a def that gives a datum, its parameters data -/
def Gives (Γ : Tbl) (n : Nat) (f : String) (xs : List P) (d : P) : Prop := ∃ outs, run Γ n f (xs.map fun x => .ow (.p x)) = .ok (.p d) outs ∧ outs.length = xs.length
theorem Gives.call {Γ : Tbl} {n : Nat} {f : String} {xs : List P} {d : P} (h : Gives Γ n f xs d) (w : Nat) (env : Env) : doCall ⟨run Γ n, w⟩ f (xs.map fun x => .va (.p x)) env = .ok (.p d) env := by
  obtain ⟨outs, h, hl⟩ := h
  exact call_va h hl
theorem Gives.c1 {Γ : Tbl} {n : Nat} {f : String} {x : P} {d : P} (h : Gives Γ n f [x] d) (w : Nat) (env : Env) : doCall ⟨run Γ n, w⟩ f [.va (.p x)] env = .ok (.p d) env := h.call w env
theorem Gives.c2 {Γ : Tbl} {n : Nat} {f : String} {x y : P} {d : P} (h : Gives Γ n f [x, y] d) (w : Nat) (env : Env) : doCall ⟨run Γ n, w⟩ f [.va (.p x), .va (.p y)] env = .ok (.p d) env := h.call w env
theorem Gives.c3 {Γ : Tbl} {n : Nat} {f : String} {x y z : P} {d : P} (h : Gives Γ n f [x, y, z] d) (w : Nat) (env : Env) : doCall ⟨run Γ n, w⟩ f [.va (.p x), .va (.p y), .va (.p z)] env = .ok (.p d) env := h.call w env
theorem Gives.c4 {Γ : Tbl} {n : Nat} {f : String} {x y z u : P} {d : P} (h : Gives Γ n f [x, y, z, u] d) (w : Nat) (env : Env) : doCall ⟨run Γ n, w⟩ f [.va (.p x), .va (.p y), .va (.p z), .va (.p u)] env = .ok (.p d) env := h.call w env
/-- a def's result, by its body -/
theorem run_def {Γ : Tbl} {n : Nat} {f : String} {fd : FD} {as : Env} (h : Γ f = some fd) (hl : as.length = fd.np) : run Γ (n + 1) f as = outOf fd.np (exec ⟨run Γ n, wfuel⟩ fd.body (as ++ List.replicate (fd.nn - fd.np) .no)) := by
  simp only [run, h, hl, if_true]
theorem gives_of {Γ : Tbl} {n : Nat} {f : String} {fd : FD} {xs : List P} {d : P} {env : Env} (h : Γ f = some fd) (hl : xs.length = fd.np) (hb : exec ⟨run Γ n, wfuel⟩ fd.body ((xs.map fun x => .ow (.p x)) ++ List.replicate (fd.nn - fd.np) .no) = .rt (.p d) env)
    (hn : Nat.ble fd.np env.length = true) : Gives Γ (n + 1) f xs d := by
  have hn := Nat.le_of_ble_eq_true hn
  refine ⟨env.take fd.np, ?_, by rw [List.length_take, hl]; omega⟩
  rw [run_def h (by simpa using hl), hb]
  rfl
theorem ev_eq (C : Calls) (e : E) (env : Env) : ev C e env = (den C e).v env := rfl
theorem evT_eq (C : Calls) (e : E) (env : Env) : evT C e env = (den C e).t env := rfl
theorem evI_eq (C : Calls) (e : E) (env : Env) : evI C e env = (den C e).i env := rfl
theorem evB_eq (C : Calls) (e : E) (env : Env) : evB C e env = orB e (den C e).v env := rfl
theorem wfuel_eq : wfuel = 999999999 + 1 := rfl
theorem wfuel_pos {n : Nat} (h : n < 1000000000) : ∃ m, wfuel = n + m + 1 := ⟨1000000000 - n - 1, by unfold wfuel; omega⟩
end DL

/-! DL20: the interpreter, step by step (each continuation has a name, so that nothing is worked out ahead of its time). -/
namespace DL
open PySem L2
section
variable (C : Calls) (env : Env)
def evS (es : E) (env : Env) : R (List P) := (den C es).s env
def evN (es : E) (env : Env) : R (List D1) := (den C es).n env
def evA (es : E) (env : Env) : R (List AV) := (den C es).a env
def evO (es : E) (env : Env) : R (Option Int) := (den C es).o env
def evR (e : E) (env : Env) : R AV := argA e (den C e).v env
@[simp] theorem asP_ok (x : P) : asP (.ok (.p x) env) = .ok x env := rfl
@[simp] theorem asP_ex (c : String) : asP (.ex c env) = .ex c env := rfl
@[simp] theorem asP_st : asP .st = .st := rfl
@[simp] theorem gt_zero (s : Sl) (r : Env) : gt (s :: r) 0 = s := rfl
@[simp] theorem gt_succ (s : Sl) (r : Env) (n : Nat) : gt (s :: r) (n + 1) = gt r n := rfl
/-! names -/
def vV (s : Sl) (env : Env) : R D := match s.rd with
  | some (.p x) => .ok (.p x) env
  | _ => .st
def vB (s : Sl) (env : Env) : R D := match s.rd with
  | some d => .ok d env
  | none => .st
@[simp] theorem vV_ow (x : P) : vV (.ow (.p x)) env = .ok (.p x) env := rfl
@[simp] theorem vV_bo (x : P) : vV (.bo (.p x)) env = .ok (.p x) env := rfl
@[simp] theorem vV_ro (x : P) : vV (.ro (.p x)) env = .ok (.p x) env := rfl
@[simp] theorem vB_ow (x : D) : vB (.ow x) env = .ok x env := rfl
@[simp] theorem vB_bo (x : D) : vB (.bo x) env = .ok x env := rfl
@[simp] theorem vB_ro (x : D) : vB (.ro x) env = .ok x env := rfl
@[simp] theorem ev_k (x : P) : ev C (.k x) env = .ok (.p x) env := rfl
@[simp] theorem ev_g (n : String) (x : P) : ev C (.g n x) env = .ok (.p x) env := rfl
@[simp] theorem ev_v (i : Nat) : ev C (.v i) env = vV (gt env i) env := rfl
def mvV (i : Nat) (s : Sl) (env : Env) : R D := match s with
  | .ow d => .ok d (env.set i .no)
  | _ => .st
@[simp] theorem mvV_ow (i : Nat) (d : D) : mvV i (.ow d) env = .ok d (env.set i .no) := rfl
theorem ev_mvi (i : Nat) (k : E) : ev C (.mvi i k) env = evMvi i k env := rfl
@[simp] theorem ev_mv (i : Nat) : ev C (.mv i) env = mvV i (gt env i) env := rfl
def fzV (i : Nat) (s : Sl) (env : Env) : R D := match s with
  | .ow d => (match frz d with
    | some x => .ok (.p x) (env.set i (.ow (.p x)))
    | none => .st)
  | _ => .st
@[simp] theorem fzV_p (i : Nat) (x : P) : fzV i (.ow (.p x)) env = .ok (.p x) (env.set i (.ow (.p x))) := rfl
@[simp] theorem fzV_ml (i : Nat) (xs : List P) : fzV i (.ow (.ml xs)) env = .ok (.p (.list xs)) (env.set i (.ow (.p (.list xs)))) := rfl
@[simp] theorem ev_fz (i : Nat) : ev C (.fz i) env = fzV i (gt env i) env := rfl
@[simp] theorem frzD_p (x : P) : frzD (.p x) env = .ok (.p x) env := rfl
@[simp] theorem frzD_ml (xs : List P) : frzD (.ml xs) env = .ok (.p (.list xs)) env := rfl
@[simp] theorem ev_fr (e : E) : ev C (.fr e) env = (ev C e env).bind frzD := rfl
/-! places -/
@[simp] theorem evB_v (i : Nat) : evB C (.v i) env = vB (gt env i) env := by
  unfold evB orB vB
  cases h : gt env i <;> simp [brw, h, Sl.rd, den, dflt, evV]
theorem evB_pl {e : E} (h : plc e = false) : evB C e env = ev C e env := by
  unfold evB ev
  rw [orB_pl h]
@[simp] theorem plc_k (x : P) : plc (.k x) = false := rfl
@[simp] theorem evB_k (x : P) : evB C (.k x) env = .ok (.p x) env := evB_pl C env rfl
@[simp] theorem evB_g (n : String) (x : P) : evB C (.g n x) env = .ok (.p x) env := evB_pl C env rfl
@[simp] theorem evB_fr (e : E) : evB C (.fr e) env = (ev C e env).bind frzD := evB_pl C env rfl
@[simp] theorem evB_tup (e : E) : evB C (.tup e) env = ev C (.tup e) env := evB_pl C env rfl
@[simp] theorem evB_lst (e : E) : evB C (.lst e) env = ev C (.lst e) env := evB_pl C env rfl
@[simp] theorem evB_bin (o : BOp) (a b : E) : evB C (.bin o a b) env = ev C (.bin o a b) env := evB_pl C env rfl
@[simp] theorem evB_neg (a : E) : evB C (.neg a) env = ev C (.neg a) env := evB_pl C env rfl
@[simp] theorem evB_cmp (o : COp) (a b : E) : evB C (.cmp o a b) env = ev C (.cmp o a b) env := evB_pl C env rfl
@[simp] theorem evB_chn (o o' : COp) (a b c : E) : evB C (.chn o o' a b c) env = ev C (.chn o o' a b c) env := evB_pl C env rfl
@[simp] theorem evB_an (a b : E) : evB C (.an a b) env = ev C (.an a b) env := evB_pl C env rfl
@[simp] theorem evB_orr (a b : E) : evB C (.orr a b) env = ev C (.orr a b) env := evB_pl C env rfl
@[simp] theorem evB_nt (a : E) : evB C (.nt a) env = ev C (.nt a) env := evB_pl C env rfl
@[simp] theorem evB_ife (c a b : E) : evB C (.ife c a b) env = ev C (.ife c a b) env := evB_pl C env rfl
@[simp] theorem evB_sl (a b c : E) : evB C (.sl a b c) env = ev C (.sl a b c) env := evB_pl C env rfl
@[simp] theorem evB_call (f : String) (es : E) : evB C (.call f es) env = ev C (.call f es) env := evB_pl C env rfl
@[simp] theorem evB_b1 (f : B1) (es : E) : evB C (.b1 f es) env = ev C (.b1 f es) env := evB_pl C env rfl
@[simp] theorem evB_mx2 (a b : E) : evB C (.mx2 a b) env = ev C (.mx2 a b) env := evB_pl C env rfl
@[simp] theorem evB_mx3 (a b c : E) : evB C (.mx3 a b c) env = ev C (.mx3 a b c) env := evB_pl C env rfl
@[simp] theorem evB_isi (a : E) (ts : List Ty) (o : Bool) : evB C (.isi a ts o) env = ev C (.isi a ts o) env := evB_pl C env rfl
@[simp] theorem evB_m0 (m : M0) (a : E) : evB C (.m0 m a) env = ev C (.m0 m a) env := evB_pl C env rfl
@[simp] theorem evB_m1 (m : M1) (a b : E) : evB C (.m1 m a b) env = ev C (.m1 m a b) env := evB_pl C env rfl
@[simp] theorem evB_lc (a : E) (i : Nat) (b c : E) : evB C (.lc a i b c) env = ev C (.lc a i b c) env := evB_pl C env rfl
@[simp] theorem evB_lc2 (a : E) (i j : Nat) (b c : E) : evB C (.lc2 a i j b c) env = ev C (.lc2 a i j b c) env := evB_pl C env rfl
def ixB (j : Nat) (i : E) (s : Sl) (env : Env) : R D := match s.rd with
  | some (.ne xs) => (match (match negIx i with | some jj => (atI xs jj).map D1.d | none => none) with
    | some d => .ok d env
    | none => ev C (.ix (.v j) i) env)
  | _ => ev C (.ix (.v j) i) env
theorem evB_ix_v (j : Nat) (i : E) : evB C (.ix (.v j) i) env = ixB C j i (gt env j) env := by
  have hb : brw (.ix (.v j) i) env = (match (gt env j).rd with
    | some (.ne xs) => (match negIx i with
      | some jj => (atI xs jj).map D1.d
      | none => none)
    | _ => none) := rfl
  unfold evB orB ixB
  rw [hb]
  cases (gt env j).rd with
  | none => rfl
  | some d => cases d <;> rfl
@[simp] theorem evB_ix (j : Nat) (i : E) : evB C (.ix (.v j) i) env = ixB C j i (gt env j) env := evB_ix_v C env j i
@[simp] theorem ixB_owp (j : Nat) (i : E) (x : P) : ixB C j i (.ow (.p x)) env = ev C (.ix (.v j) i) env := rfl
@[simp] theorem ixB_rop (j : Nat) (i : E) (x : P) : ixB C j i (.ro (.p x)) env = ev C (.ix (.v j) i) env := rfl
@[simp] theorem ixB_bop (j : Nat) (i : E) (x : P) : ixB C j i (.bo (.p x)) env = ev C (.ix (.v j) i) env := rfl
@[simp] theorem ixB_owm (j : Nat) (i : E) (x : List P) : ixB C j i (.ow (.ml x)) env = ev C (.ix (.v j) i) env := rfl
@[simp] theorem ixB_bom (j : Nat) (i : E) (x : List P) : ixB C j i (.bo (.ml x)) env = ev C (.ix (.v j) i) env := rfl
@[simp] theorem ixB_rom (j : Nat) (i : E) (x : List P) : ixB C j i (.ro (.ml x)) env = ev C (.ix (.v j) i) env := rfl
@[simp] theorem ixB_rl (j : Nat) (i : E) (x : List P) : ixB C j i (.ro (.rl x)) env = ev C (.ix (.v j) i) env := rfl
theorem evB_ix_n {a i : E} (h : isVar a = none) : evB C (.ix a i) env = ev C (.ix a i) env := by
  show orB (.ix a i) (den C (.ix a i)).v env = (den C (.ix a i)).v env
  unfold orB
  have : brw (.ix a i) env = none := by
    cases a <;> first | rfl | (cases h)
  rw [this]
@[simp] theorem evB_ix_ix (a b i : E) : evB C (.ix (.ix a b) i) env = ev C (.ix (.ix a b) i) env := evB_ix_n C env rfl
@[simp] theorem evB_ix_call (f : String) (b i : E) : evB C (.ix (.call f b) i) env = ev C (.ix (.call f b) i) env := evB_ix_n C env rfl
@[simp] theorem evB_ix_g (f : String) (b : P) (i : E) : evB C (.ix (.g f b) i) env = ev C (.ix (.g f b) i) env := evB_ix_n C env rfl
@[simp] theorem evB_ix_tup (b i : E) : evB C (.ix (.tup b) i) env = ev C (.ix (.tup b) i) env := evB_ix_n C env rfl
@[simp] theorem evB_ix_k (x : P) (i : E) : evB C (.ix (.k x) i) env = ev C (.ix (.k x) i) env := evB_ix_n C env rfl
@[simp] theorem evB_ix_lst (x i : E) : evB C (.ix (.lst x) i) env = ev C (.ix (.lst x) i) env := evB_ix_n C env rfl
@[simp] theorem evB_ix_fr (x i : E) : evB C (.ix (.fr x) i) env = ev C (.ix (.fr x) i) env := evB_ix_n C env rfl
@[simp] theorem evB_ix_sl (a b c i : E) : evB C (.ix (.sl a b c) i) env = ev C (.ix (.sl a b c) i) env := evB_ix_n C env rfl
@[simp] theorem evB_ix_bin (o : BOp) (a b i : E) : evB C (.ix (.bin o a b) i) env = ev C (.ix (.bin o a b) i) env := evB_ix_n C env rfl
@[simp] theorem evB_ix_b1 (f : B1) (a i : E) : evB C (.ix (.b1 f a) i) env = ev C (.ix (.b1 f a) i) env := evB_ix_n C env rfl
@[simp] theorem evB_ix_m1 (m : M1) (a b i : E) : evB C (.ix (.m1 m a b) i) env = ev C (.ix (.m1 m a b) i) env := evB_ix_n C env rfl
/-! displays -/
def kTup (xs : List P) (env : Env) : R D := .ok (.p (.tuple xs)) env
def kLst (xs : List P) (env : Env) : R D := .ok (.ml xs) env
def kLsn (xs : List D1) (env : Env) : R D := .ok (.ne xs) env
def kS2 (x : P) (xs : List P) (env : Env) : R (List P) := .ok (x :: xs) env
def kS1 (es : E) (x : P) (env : Env) : R (List P) := (evS C es env).bind (kS2 x)
def kA2 (x : AV) (xs : List AV) (env : Env) : R (List AV) := .ok (x :: xs) env
def kA1 (es : E) (x : AV) (env : Env) : R (List AV) := (evA C es env).bind (kA2 x)
def kVa (x : P) (env : Env) : R AV := .ok (.va (.p x)) env
@[simp] theorem kTup_e (xs : List P) : kTup xs env = .ok (.p (.tuple xs)) env := rfl
@[simp] theorem kLst_e (xs : List P) : kLst xs env = .ok (.ml xs) env := rfl
@[simp] theorem kLsn_e (xs : List D1) : kLsn xs env = .ok (.ne xs) env := rfl
@[simp] theorem kS2_e (x : P) (xs : List P) : kS2 x xs env = .ok (x :: xs) env := rfl
@[simp] theorem kS1_e (es : E) (x : P) : kS1 C es x env = (evS C es env).bind (kS2 x) := rfl
@[simp] theorem kA2_e (x : AV) (xs : List AV) : kA2 x xs env = .ok (x :: xs) env := rfl
@[simp] theorem kA1_e (es : E) (x : AV) : kA1 C es x env = (evA C es env).bind (kA2 x) := rfl
@[simp] theorem kVa_e (x : P) : kVa x env = .ok (.va (.p x)) env := rfl
@[simp] theorem ev_tup (es : E) : ev C (.tup es) env = (evS C es env).bind kTup := rfl
@[simp] theorem ev_lst (es : E) : ev C (.lst es) env = (evS C es env).bind kLst := rfl
@[simp] theorem ev_lsn (es : E) : ev C (.lsn es) env = (evN C es env).bind kLsn := rfl
@[simp] theorem evS_nil : evS C .nil env = .ok [] env := rfl
@[simp] theorem evS_cons (e es : E) : evS C (.cons e es) env = (asP (ev C e env)).bind (kS1 C es) := rfl
@[simp] theorem evN_nil : evN C .nil env = .ok [] env := rfl
@[simp] theorem evA_nil : evA C .nil env = .ok [] env := rfl
@[simp] theorem evA_cons (e es : E) : evA C (.cons e es) env = (evR C e env).bind (kA1 C es) := rfl
theorem evR_pl {e : E} (h : lnd e = false) : evR C e env = (asP (ev C e env)).bind kVa := by
  unfold evR
  rw [argA_pl h]
  rfl
def rwR (a : AV) (s : Sl) (env : Env) : R AV := if s.rd.isSome = true then .ok a env else .st
@[simp] theorem rwR_ow (a : AV) (d : D) : rwR a (.ow d) env = .ok a env := rfl
@[simp] theorem rwR_bo (a : AV) (d : D) : rwR a (.bo d) env = .ok a env := rfl
@[simp] theorem rwR_ro (a : AV) (d : D) : rwR a (.ro d) env = .ok a env := rfl
@[simp] theorem evR_rw (i : Nat) : evR C (.rw i) env = rwR (.rr i) (gt env i) env := rfl
@[simp] theorem evR_bw (i : Nat) : evR C (.bw i) env = rwR (.br i) (gt env i) env := rfl
@[simp] theorem evR_k (x : P) : evR C (.k x) env = .ok (.va (.p x)) env := rfl
@[simp] theorem evR_g (n : String) (x : P) : evR C (.g n x) env = .ok (.va (.p x)) env := rfl
@[simp] theorem evR_v (i : Nat) : evR C (.v i) env = (asP (vV (gt env i) env)).bind kVa := evR_pl C env rfl
def kVd (d : D) (env : Env) : R AV := .ok (.va d) env
@[simp] theorem kVd_e (d : D) : kVd d env = .ok (.va d) env := rfl
@[simp] theorem evR_lst (e : E) : evR C (.lst e) env = (ev C (.lst e) env).bind kVd := rfl
@[simp] theorem evR_fz (i : Nat) : evR C (.fz i) env = (asP (fzV i (gt env i) env)).bind kVa := evR_pl C env rfl
@[simp] theorem evR_fr (e : E) : evR C (.fr e) env = (asP (ev C (.fr e) env)).bind kVa := evR_pl C env rfl
@[simp] theorem evR_tup (e : E) : evR C (.tup e) env = (asP (ev C (.tup e) env)).bind kVa := evR_pl C env rfl
@[simp] theorem evR_bin (o : BOp) (a b : E) : evR C (.bin o a b) env = (asP (ev C (.bin o a b) env)).bind kVa := evR_pl C env rfl
@[simp] theorem evR_neg (a : E) : evR C (.neg a) env = (asP (ev C (.neg a) env)).bind kVa := evR_pl C env rfl
@[simp] theorem evR_cmp (o : COp) (a b : E) : evR C (.cmp o a b) env = (asP (ev C (.cmp o a b) env)).bind kVa := evR_pl C env rfl
@[simp] theorem evR_ix (a b : E) : evR C (.ix a b) env = (asP (ev C (.ix a b) env)).bind kVa := evR_pl C env rfl
@[simp] theorem evR_sl (a b c : E) : evR C (.sl a b c) env = (asP (ev C (.sl a b c) env)).bind kVa := evR_pl C env rfl
@[simp] theorem evR_call (f : String) (b : E) : evR C (.call f b) env = (asP (ev C (.call f b) env)).bind kVa := evR_pl C env rfl
@[simp] theorem evR_b1 (f : B1) (b : E) : evR C (.b1 f b) env = (asP (ev C (.b1 f b) env)).bind kVa := evR_pl C env rfl
@[simp] theorem evR_m0 (m : M0) (b : E) : evR C (.m0 m b) env = (asP (ev C (.m0 m b) env)).bind kVa := evR_pl C env rfl
@[simp] theorem evR_m1 (m : M1) (a b : E) : evR C (.m1 m a b) env = (asP (ev C (.m1 m a b) env)).bind kVa := evR_pl C env rfl
@[simp] theorem evR_ife (a b c : E) : evR C (.ife a b c) env = (asP (ev C (.ife a b c) env)).bind kVa := evR_pl C env rfl
@[simp] theorem evR_an (a b : E) : evR C (.an a b) env = (asP (ev C (.an a b) env)).bind kVa := evR_pl C env rfl
@[simp] theorem evR_orr (a b : E) : evR C (.orr a b) env = (asP (ev C (.orr a b) env)).bind kVa := evR_pl C env rfl
@[simp] theorem evR_nt (a : E) : evR C (.nt a) env = (asP (ev C (.nt a) env)).bind kVa := evR_pl C env rfl
/-! operators -/
@[simp] theorem okQ_p (x : P) (b : E) : okQ (.p x) b = true := rfl
def kBin2 (o : BOp) (b : E) (d1 d2 : D) (env : Env) : R D := R.of (if okQ d1 b = true then op2 o d1 d2 else none) env
def kBin1 (o : BOp) (b : E) (d1 : D) (env : Env) : R D := (evB C b env).bind (kBin2 o b d1)
@[simp] theorem kBin1_e (o : BOp) (b : E) (d1 : D) : kBin1 C o b d1 env = (evB C b env).bind (kBin2 o b d1) := rfl
@[simp] theorem kBin2_e (o : BOp) (b : E) (d1 d2 : D) : kBin2 o b d1 d2 env = R.of (if okQ d1 b = true then op2 o d1 d2 else none) env := rfl
@[simp] theorem ev_bin (o : BOp) (a b : E) : ev C (.bin o a b) env = (evB C a env).bind (kBin1 C o b) := rfl
@[simp] theorem op_add_i (i j : Int) : op2 .add (.p (.int i)) (.p (.int j)) = some (.p (.int (i + j))) := rfl
@[simp] theorem op_sub_i (i j : Int) : op2 .sub (.p (.int i)) (.p (.int j)) = some (.p (.int (i - j))) := rfl
@[simp] theorem op_add_s (x y : Str) : op2 .add (.p (.str x)) (.p (.str y)) = if x.length + y.length ≤ sizeLine then some (.p (.str (x ++ y))) else none := rfl
@[simp] theorem op_add_t (x y : List P) : op2 .add (.p (.tuple x)) (.p (.tuple y)) = if x.length + y.length ≤ sizeLine then some (.p (.tuple (x ++ y))) else none := rfl
@[simp] theorem op_add_mm (x y : List P) : op2 .add (.ml x) (.ml y) = if x.length + y.length ≤ sizeLine then some (.ml (x ++ y)) else none := rfl
@[simp] theorem op_add_ll (x y : List P) : op2 .add (.p (.list x)) (.p (.list y)) = if x.length + y.length ≤ sizeLine then some (.ml (x ++ y)) else none := rfl
@[simp] theorem op_add_lm (x y : List P) : op2 .add (.p (.list x)) (.ml y) = if x.length + y.length ≤ sizeLine then some (.ml (x ++ y)) else none := rfl
@[simp] theorem op_add_ml (x y : List P) : op2 .add (.ml x) (.p (.list y)) = if x.length + y.length ≤ sizeLine then some (.ml (x ++ y)) else none := rfl
@[simp] theorem okQ_ml (x : List P) (b : E) : okQ (.ml x) b = quiet b := rfl
@[simp] theorem okQ_rl (x : List P) (b : E) : okQ (.rl x) b = quiet b := rfl
@[simp] theorem op_mod_i (i j : Int) : op2 .mod (.p (.int i)) (.p (.int j)) = if 0 < j then some (.p (.int (i % j))) else none := by
  simp only [op2, opI]; split <;> rfl
@[simp] theorem op_div_i (i j : Int) : op2 .fdiv (.p (.int i)) (.p (.int j)) = if 0 < j ∧ j < 1073741824 then some (.p (.int (i / j))) else none := by
  simp only [op2, opI]; split <;> rfl
@[simp] theorem op_mul_i (i j : Int) : op2 .mul (.p (.int i)) (.p (.int j)) = if (big i || big j) = true then some (.p (.int (i * j))) else none := by
  simp only [op2, opI]; split <;> rfl
@[simp] theorem op_pow_i (i j : Int) : op2 .pow (.p (.int i)) (.p (.int j)) = if 0 ≤ j ∧ j ≤ 1000000 ∧ i.natAbs < 2 ^ 64 then some (.p (.int (i ^ j.toNat))) else none := by
  simp only [op2, opI]; split <;> rfl
def kNeg (d : D) (env : Env) : R D := R.of (negD d) env
@[simp] theorem kNeg_e (i : Int) : kNeg (.p (.int i)) env = .ok (.p (.int (-i))) env := rfl
@[simp] theorem ev_neg (a : E) : ev C (.neg a) env = (ev C a env).bind kNeg := rfl
def kCmp2 (o : COp) (b : E) (d1 d2 : D) (env : Env) : R D := boolD (if okQ d1 b = true then opC o d1 d2 else none) env
def kCmp1 (o : COp) (b : E) (d1 : D) (env : Env) : R D := (evB C b env).bind (kCmp2 o b d1)
@[simp] theorem kCmp1_e (o : COp) (b : E) (d1 : D) : kCmp1 C o b d1 env = (evB C b env).bind (kCmp2 o b d1) := rfl
@[simp] theorem kCmp2_e (o : COp) (b : E) (d1 d2 : D) : kCmp2 o b d1 d2 env = boolD (if okQ d1 b = true then opC o d1 d2 else none) env := rfl
@[simp] theorem ev_cmp (o : COp) (a b : E) : ev C (.cmp o a b) env = (evB C a env).bind (kCmp1 C o b) := rfl
@[simp] theorem boolD_some (k : Bool) : boolD (some k) env = .ok (.p (.bool k)) env := rfl
@[simp] theorem boolD_none : boolD none env = .st := rfl
@[simp] theorem opC_lt (i j : Int) : opC .lt (.p (.int i)) (.p (.int j)) = some (decide (i < j)) := rfl
@[simp] theorem opC_le (i j : Int) : opC .le (.p (.int i)) (.p (.int j)) = some (decide (i ≤ j)) := rfl
@[simp] theorem opC_gt (i j : Int) : opC .gt (.p (.int i)) (.p (.int j)) = some (decide (j < i)) := rfl
@[simp] theorem opC_ge (i j : Int) : opC .ge (.p (.int i)) (.p (.int j)) = some (decide (j ≤ i)) := rfl
@[simp] theorem opC_eq (a b : D) : opC .eq a b = opEq a b := rfl
@[simp] theorem opC_ne (a b : D) : opC .ne a b = (opEq a b).map (!·) := rfl
@[simp] theorem opC_is (a b : D) : opC .is a b = opIs a b := rfl
@[simp] theorem opC_isn (a b : D) : opC .isn a b = (opIs a b).map (!·) := rfl
@[simp] theorem opC_in (a b : D) : opC .in_ a b = opIn a b := rfl
@[simp] theorem opC_nin (a b : D) : opC .nin a b = (opIn a b).map (!·) := rfl
@[simp] theorem opIs_nn : opIs (.p .none) (.p .none) = some true := rfl
@[simp] theorem opIs_tn (x : List P) : opIs (.p (.tuple x)) (.p .none) = some false := rfl
@[simp] theorem opIs_sn (x : Str) : opIs (.p (.str x)) (.p .none) = some false := rfl
@[simp] theorem opIs_in (x : Int) : opIs (.p (.int x)) (.p .none) = some false := rfl
@[simp] theorem opIs_ln (x : List P) : opIs (.p (.list x)) (.p .none) = some false := rfl
@[simp] theorem opIs_bb (x y : Bool) : opIs (.p (.bool x)) (.p (.bool y)) = some (decide (x = y)) := rfl
@[simp] theorem opEq_ii (i j : Int) : opEq (.p (.int i)) (.p (.int j)) = some (decide (i = j)) := rfl
@[simp] theorem opEq_ss (i j : Str) : opEq (.p (.str i)) (.p (.str j)) = some (decide (i = j)) := rfl
def kCh2 (C : Calls) (o' : COp) (c : E) (y : P) (k : Bool) (env : Env) : R D := match k with
  | true => (asP (ev C c env)).bind fun z env => boolD (opC o' (.p y) (.p z)) env
  | false => .ok (.p (.bool false)) env
def kCh3 (o' : COp) (y z : P) (env : Env) : R D := boolD (opC o' (.p y) (.p z)) env
@[simp] theorem kCh3_e (o' : COp) (y z : P) : kCh3 o' y z env = boolD (opC o' (.p y) (.p z)) env := rfl
@[simp] theorem kCh2_t (o' : COp) (c : E) (y : P) : kCh2 C o' c y true env = (asP (ev C c env)).bind (kCh3 o' y) := rfl
@[simp] theorem kCh2_f (o' : COp) (c : E) (y : P) : kCh2 C o' c y false env = .ok (.p (.bool false)) env := rfl
def kCh1 (o o' : COp) (c : E) (x y : P) (env : Env) : R D := (R.of (opC o (.p x) (.p y)) env).bind (kCh2 C o' c y)
@[simp] theorem kCh1_e (o o' : COp) (c : E) (x y : P) : kCh1 C o o' c x y env = (R.of (opC o (.p x) (.p y)) env).bind (kCh2 C o' c y) := rfl
def kCh0 (o o' : COp) (b c : E) (x : P) (env : Env) : R D := (asP (ev C b env)).bind (kCh1 C o o' c x)
@[simp] theorem kCh0_e (o o' : COp) (b c : E) (x : P) : kCh0 C o o' b c x env = (asP (ev C b env)).bind (kCh1 C o o' c x) := rfl
theorem R.bind_congr {α β : Type} (r : R α) (f g : α → Env → R β) (h : ∀ a e, f a e = g a e) : r.bind f = r.bind g := by
  cases r <;> first | exact h _ _ | rfl
@[simp] theorem ev_chn (o o' : COp) (a b c : E) : ev C (.chn o o' a b c) env = (asP (ev C a env)).bind (kCh0 C o o' b c) := by
  show (asP ((den C a).v env)).bind _ = (asP ((den C a).v env)).bind _
  refine R.bind_congr _ _ _ fun x e => ?_
  show (asP ((den C b).v e)).bind _ = (asP ((den C b).v e)).bind _
  refine R.bind_congr _ _ _ fun y e => ?_
  show (R.of _ e).bind _ = (R.of _ e).bind _
  refine R.bind_congr _ _ _ fun k e => ?_
  cases k <;> rfl
/-! tests -/
def kAn (b : E) (d : D) (env : Env) : R D := match boolOf d with
  | some true => ev C b env
  | some false => .ok (.p (.bool false)) env
  | none => .st
def kOr (b : E) (d : D) (env : Env) : R D := match boolOf d with
  | some true => .ok (.p (.bool true)) env
  | some false => ev C b env
  | none => .st
def kNt (d : D) (env : Env) : R D := match boolOf d with
  | some k => .ok (.p (.bool (!k))) env
  | none => .st
@[simp] theorem kAn_t (b : E) : kAn C b (.p (.bool true)) env = ev C b env := rfl
@[simp] theorem kAn_f (b : E) : kAn C b (.p (.bool false)) env = .ok (.p (.bool false)) env := rfl
@[simp] theorem kOr_t (b : E) : kOr C b (.p (.bool true)) env = .ok (.p (.bool true)) env := rfl
@[simp] theorem kOr_f (b : E) : kOr C b (.p (.bool false)) env = ev C b env := rfl
@[simp] theorem kNt_e (k : Bool) : kNt (.p (.bool k)) env = .ok (.p (.bool (!k))) env := rfl
@[simp] theorem ev_an (a b : E) : ev C (.an a b) env = (ev C a env).bind (kAn C b) := by
  show ((den C a).v env).bind _ = ((den C a).v env).bind _
  refine R.bind_congr _ _ _ fun d e => ?_
  unfold kAn
  cases boolOf d with
  | none => rfl
  | some k => cases k <;> rfl
@[simp] theorem ev_orr (a b : E) : ev C (.orr a b) env = (ev C a env).bind (kOr C b) := by
  show ((den C a).v env).bind _ = ((den C a).v env).bind _
  refine R.bind_congr _ _ _ fun d e => ?_
  unfold kOr
  cases boolOf d with
  | none => rfl
  | some k => cases k <;> rfl
@[simp] theorem ev_nt (a : E) : ev C (.nt a) env = (ev C a env).bind kNt := by
  show ((den C a).v env).bind _ = ((den C a).v env).bind _
  refine R.bind_congr _ _ _ fun d e => ?_
  unfold kNt
  cases boolOf d <;> rfl
def kAnT (b : E) (k : Bool) (env : Env) : R Bool := match k with
  | true => evT C b env
  | false => .ok false env
def kOrT (b : E) (k : Bool) (env : Env) : R Bool := match k with
  | true => .ok true env
  | false => evT C b env
def kNtT (k : Bool) (env : Env) : R Bool := .ok (!k) env
@[simp] theorem kAnT_t (b : E) : kAnT C b true env = evT C b env := rfl
@[simp] theorem kAnT_f (b : E) : kAnT C b false env = .ok false env := rfl
@[simp] theorem kOrT_t (b : E) : kOrT C b true env = .ok true env := rfl
@[simp] theorem kOrT_f (b : E) : kOrT C b false env = evT C b env := rfl
@[simp] theorem kNtT_e (k : Bool) : kNtT k env = .ok (!k) env := rfl
@[simp] theorem evT_an (a b : E) : evT C (.an a b) env = (evT C a env).bind (kAnT C b) := by
  show ((den C a).t env).bind _ = ((den C a).t env).bind _
  refine R.bind_congr _ _ _ fun k e => ?_
  cases k <;> rfl
@[simp] theorem evT_orr (a b : E) : evT C (.orr a b) env = (evT C a env).bind (kOrT C b) := by
  show ((den C a).t env).bind _ = ((den C a).t env).bind _
  refine R.bind_congr _ _ _ fun k e => ?_
  cases k <;> rfl
@[simp] theorem evT_nt (a : E) : evT C (.nt a) env = (evT C a env).bind kNtT := rfl
def kTru (d : D) (env : Env) : R Bool := R.of (truth d) env
@[simp] theorem kTru_b (k : Bool) : kTru (.p (.bool k)) env = .ok k env := rfl
@[simp] theorem kTru_ml (xs : List P) : kTru (.ml xs) env = .ok (!xs.isEmpty) env := rfl
@[simp] theorem kTru_l (xs : List P) : kTru (.p (.list xs)) env = .ok (!xs.isEmpty) env := rfl
@[simp] theorem kTru_t (xs : List P) : kTru (.p (.tuple xs)) env = .ok (!xs.isEmpty) env := rfl
@[simp] theorem kTru_i (i : Int) : kTru (.p (.int i)) env = .ok (i != 0) env := rfl
@[simp] theorem evT_v (i : Nat) : evT C (.v i) env = (evB C (.v i) env).bind kTru := rfl
@[simp] theorem evT_k (x : P) : evT C (.k x) env = (evB C (.k x) env).bind kTru := rfl
@[simp] theorem evT_cmp (o : COp) (a b : E) : evT C (.cmp o a b) env = (evB C (.cmp o a b) env).bind kTru := rfl
@[simp] theorem evT_chn (o o' : COp) (a b c : E) : evT C (.chn o o' a b c) env = (evB C (.chn o o' a b c) env).bind kTru := rfl
@[simp] theorem evT_call (f : String) (a : E) : evT C (.call f a) env = (evB C (.call f a) env).bind kTru := rfl
@[simp] theorem evT_ix (a b : E) : evT C (.ix a b) env = (evB C (.ix a b) env).bind kTru := rfl
@[simp] theorem evT_isi (a : E) (ts : List Ty) (o : Bool) : evT C (.isi a ts o) env = (evB C (.isi a ts o) env).bind kTru := rfl
@[simp] theorem evT_m1 (m : M1) (a b : E) : evT C (.m1 m a b) env = (evB C (.m1 m a b) env).bind kTru := rfl
@[simp] theorem evT_m0 (m : M0) (a : E) : evT C (.m0 m a) env = (evB C (.m0 m a) env).bind kTru := rfl
@[simp] theorem evT_b1 (f : B1) (a : E) : evT C (.b1 f a) env = (evB C (.b1 f a) env).bind kTru := rfl
@[simp] theorem evT_bin (o : BOp) (a b : E) : evT C (.bin o a b) env = (evB C (.bin o a b) env).bind kTru := rfl
def kIfe (a b : E) (k : Bool) (env : Env) : R D := match k with
  | true => ev C a env
  | false => ev C b env
@[simp] theorem kIfe_t (a b : E) : kIfe C a b true env = ev C a env := rfl
@[simp] theorem kIfe_f (a b : E) : kIfe C a b false env = ev C b env := rfl
@[simp] theorem ev_ife (c a b : E) : ev C (.ife c a b) env = (evT C c env).bind (kIfe C a b) := by
  show ((den C c).t env).bind _ = ((den C c).t env).bind _
  refine R.bind_congr _ _ _ fun k e => ?_
  cases k <;> rfl
/-! subscripts -/
def kIx2 (i : E) (d1 d2 : D) (env : Env) : R D := R.of (ixD d1 d2 i) env
def kIx1 (i : E) (d1 : D) (env : Env) : R D := (ev C i env).bind (kIx2 i d1)
@[simp] theorem kIx1_e (i : E) (d1 : D) : kIx1 C i d1 env = (ev C i env).bind (kIx2 i d1) := rfl
@[simp] theorem ev_ix (a i : E) : ev C (.ix a i) env = (evB C a env).bind (kIx1 C i) := rfl
@[simp] theorem kIx2_t (i : E) (xs : List P) (j : Int) : kIx2 i (.p (.tuple xs)) (.p (.int j)) env = R.of ((atI xs j).map D.p) env := rfl
@[simp] theorem kIx2_l (i : E) (xs : List P) (j : Int) : kIx2 i (.p (.list xs)) (.p (.int j)) env = R.of ((atI xs j).map D.p) env := rfl
@[simp] theorem kIx2_m (i : E) (xs : List P) (j : Int) : kIx2 i (.ml xs) (.p (.int j)) env = R.of (if quiet i = true then (atI xs j).map D.p else none) env := rfl
@[simp] theorem kIx2_r (i : E) (xs : List P) (j : Int) : kIx2 i (.rl xs) (.p (.int j)) env = R.of (if quiet i = true then (atI xs j).map D.p else none) env := rfl
@[simp] theorem kIx2_s (i : E) (z : Str) (j : Int) : kIx2 i (.p (.str z)) (.p (.int j)) env = R.of ((if z.length ≤ sizeLine then (atI z.cps.toList j).map fun c => PyData.str ⟨#[c]⟩ else none).map D.p) env := rfl
def kSl3 (lo hi : E) (d1 : D) (l h : Option Int) (env : Env) : R D := R.of (if okQ d1 lo = true ∧ okQ d1 hi = true then opSl d1 l h else none) env
def kSl2 (lo hi : E) (d1 : D) (l : Option Int) (env : Env) : R D := (evO C hi env).bind (kSl3 lo hi d1 l)
def kSl1 (lo hi : E) (d1 : D) (env : Env) : R D := (evO C lo env).bind (kSl2 C lo hi d1)
@[simp] theorem kSl1_e (lo hi : E) (d1 : D) : kSl1 C lo hi d1 env = (evO C lo env).bind (kSl2 C lo hi d1) := rfl
@[simp] theorem kSl2_e (lo hi : E) (d1 : D) (l : Option Int) : kSl2 C lo hi d1 l env = (evO C hi env).bind (kSl3 lo hi d1 l) := rfl
@[simp] theorem kSl3_p (lo hi : E) (x : P) (l h : Option Int) : kSl3 lo hi (.p x) l h env = R.of (opSl (.p x) l h) env := rfl
@[simp] theorem kSl3_m (lo hi : E) (xs : List P) (l h : Option Int) : kSl3 lo hi (.ml xs) l h env = R.of (if quiet lo = true ∧ quiet hi = true then some (.ml (cutL xs l h)) else none) env := rfl
@[simp] theorem opSl_s (z : Str) (l h : Option Int) : opSl (.p (.str z)) l h = if z.length ≤ sizeLine then some (.p (.str (cutS z l h))) else none := rfl
@[simp] theorem opSl_t (z : List P) (l h : Option Int) : opSl (.p (.tuple z)) l h = some (.p (.tuple (cutL z l h))) := rfl
@[simp] theorem opSl_l (z : List P) (l h : Option Int) : opSl (.p (.list z)) l h = some (.ml (cutL z l h)) := rfl
@[simp] theorem ev_sl (a lo hi : E) : ev C (.sl a lo hi) env = (evB C a env).bind (kSl1 C lo hi) := rfl
@[simp] theorem partD_i (i : Int) : partD (.p (.int i)) env = .ok (some i) env := rfl
@[simp] theorem evO_no : evO C .no env = .ok none env := rfl
@[simp] theorem evO_k (x : P) : evO C (.k x) env = partD (.p x) env := rfl
@[simp] theorem evO_v (i : Nat) : evO C (.v i) env = (vV (gt env i) env).bind partD := rfl
@[simp] theorem evO_bin (o : BOp) (a b : E) : evO C (.bin o a b) env = (ev C (.bin o a b) env).bind partD := rfl
@[simp] theorem evO_ix (a b : E) : evO C (.ix a b) env = (ev C (.ix a b) env).bind partD := rfl
@[simp] theorem evO_b1 (f : B1) (b : E) : evO C (.b1 f b) env = (ev C (.b1 f b) env).bind partD := rfl
@[simp] theorem evO_neg (b : E) : evO C (.neg b) env = (ev C (.neg b) env).bind partD := rfl
/-! calls -/
def kCall (f : String) (as : List AV) (env : Env) : R D := doCall C f as env
@[simp] theorem kCall_e (f : String) (as : List AV) : kCall C f as env = doCall C f as env := rfl
@[simp] theorem ev_call (f : String) (es : E) : ev C (.call f es) env = (evA C es env).bind (kCall C f) := rfl
def kB1 (f : B1) (d : D) (env : Env) : R D := R.of (opB1 f d) env
@[simp] theorem kB1_e (f : B1) (d : D) : kB1 f d env = R.of (opB1 f d) env := rfl
@[simp] theorem ev_b1 (f : B1) (e : E) : ev C (.b1 f e) env = (evB C e env).bind (kB1 f) := rfl
@[simp] theorem len_s (z : Str) : opB1 .len (.p (.str z)) = if z.length ≤ sizeLine then some (.p (.int z.length)) else none := rfl
@[simp] theorem len_t (xs : List P) : opB1 .len (.p (.tuple xs)) = some (.p (.int xs.length)) := rfl
@[simp] theorem len_l (xs : List P) : opB1 .len (.p (.list xs)) = some (.p (.int xs.length)) := rfl
@[simp] theorem len_m (xs : List P) : opB1 .len (.ml xs) = some (.p (.int xs.length)) := rfl
@[simp] theorem len_r (xs : List P) : opB1 .len (.rl xs) = some (.p (.int xs.length)) := rfl
@[simp] theorem tuple_t (xs : List P) : opB1 .tuple (.p (.tuple xs)) = some (.p (.tuple xs)) := rfl
@[simp] theorem tuple_l (xs : List P) : opB1 .tuple (.p (.list xs)) = some (.p (.tuple xs)) := rfl
@[simp] theorem tuple_m (xs : List P) : opB1 .tuple (.ml xs) = some (.p (.tuple xs)) := rfl
@[simp] theorem list_t (xs : List P) : opB1 .list (.p (.tuple xs)) = some (.ml xs) := rfl
@[simp] theorem list_l (xs : List P) : opB1 .list (.p (.list xs)) = some (.ml xs) := rfl
@[simp] theorem list_m (xs : List P) : opB1 .list (.ml xs) = some (.ml xs) := rfl
@[simp] theorem ev_isi_v (i : Nat) (ts : List Ty) (o : Bool) : ev C (.isi (.v i) ts o) env = isiS ts (gt env i) env := rfl
theorem isiS_d {ts : List Ty} {s : Sl} {d : D} (h : s.rd = some d) : isiS ts s env = isiD ts d env := by
  cases s <;> first | (cases h; rfl) | (cases h)
@[simp] theorem isiS_ow (ts : List Ty) (d : D) : isiS ts (.ow d) env = isiD ts d env := rfl
@[simp] theorem isiS_bo (ts : List Ty) (d : D) : isiS ts (.bo d) env = isiD ts d env := rfl
@[simp] theorem isiS_ro (ts : List Ty) (d : D) : isiS ts (.ro d) env = isiD ts d env := rfl
@[simp] theorem ev_isi_ix (a b : E) (ts : List Ty) (o : Bool) : ev C (.isi (.ix a b) ts o) env = (evB C (.ix a b) env).bind (isiD ts) := rfl
@[simp] theorem ev_isi_call (f : String) (b : E) (ts : List Ty) (o : Bool) : ev C (.isi (.call f b) ts o) env = (evB C (.call f b) env).bind (isiD ts) := rfl
/-! methods -/
def mdO (i : Nat) (o : Option (D × D)) (env : Env) : R D := match o with
  | some r => .ok r.1 (env.set i (.ow r.2))
  | none => .st
def mdB (i : Nat) (o : Option (D × D)) (env : Env) : R D := match o with
  | some r => .ok r.1 (env.set i (.bo r.2))
  | none => .st
def modV (i : Nat) (f : D → Option (D × D)) (s : Sl) (env : Env) : R D := match s with
  | .ow d => mdO i (f d) env
  | .bo d => mdB i (f d) env
  | _ => .st
@[simp] theorem mdO_some (i : Nat) (r d : D) : mdO i (some (r, d)) env = .ok r (env.set i (.ow d)) := rfl
@[simp] theorem mdB_some (i : Nat) (r d : D) : mdB i (some (r, d)) env = .ok r (env.set i (.bo d)) := rfl
@[simp] theorem modV_ow (i : Nat) (f : D → Option (D × D)) (d : D) : modV i f (.ow d) env = mdO i (f d) env := rfl
@[simp] theorem modV_bo (i : Nat) (f : D → Option (D × D)) (d : D) : modV i f (.bo d) env = mdB i (f d) env := rfl
@[simp] theorem modR_v (i : Nat) (f : D → Option (D × D)) : modR (.v i) env f = modV i f (gt env i) env := by
  have hm : modP (.v i) env f = ((gt env i).upd f).map fun r => (r.1, env.set i r.2) := rfl
  unfold modR
  rw [hm]
  cases gt env i with
  | ow d =>
    simp only [Sl.upd, modV]
    cases f d <;> rfl
  | bo d =>
    simp only [Sl.upd, modV]
    cases f d <;> rfl
  | _ => rfl
@[simp] theorem mut_pop (xs : List P) : mut0 .pop (.ml xs) = (popL xs).map fun r => (.p r.1, .ml r.2) := rfl
@[simp] theorem mut_rev (xs : List P) : mut0 .reverse (.ml xs) = some (nonD, .ml xs.reverse) := rfl
@[simp] theorem mut_clear (xs : List P) : mut0 .clear (.ml xs) = some (nonD, .ml []) := rfl
@[simp] theorem mut_app (x : P) (xs : List P) : mut1 .append (.p x) (.ml xs) = if xs.length < sizeLine then some (nonD, .ml (xs ++ [x])) else none := rfl
@[simp] theorem mut_ext_l (ys : List P) (xs : List P) : mut1 .extend (.p (.list ys)) (.ml xs) = if xs.length + ys.length ≤ sizeLine then some (nonD, .ml (xs ++ ys)) else none := rfl
@[simp] theorem mut_ext_m (ys : List P) (xs : List P) : mut1 .extend (.ml ys) (.ml xs) = if xs.length + ys.length ≤ sizeLine then some (nonD, .ml (xs ++ ys)) else none := rfl
@[simp] theorem ev_pop (i : Nat) : ev C (.m0 .pop (.v i)) env = modR (.v i) env (mut0 .pop) := rfl
@[simp] theorem ev_reverse (i : Nat) : ev C (.m0 .reverse (.v i)) env = modR (.v i) env (mut0 .reverse) := rfl
@[simp] theorem ev_clear (i : Nat) : ev C (.m0 .clear (.v i)) env = modR (.v i) env (mut0 .clear) := rfl
def lsG (s : Sl) (r : R D) : R D := match s.rd with
  | some (.ml _) => r
  | some (.ne _) => r
  | _ => .st
@[simp] theorem lsG_owm (xs : List P) (r : R D) : lsG (.ow (.ml xs)) r = r := rfl
@[simp] theorem lsG_bom (xs : List P) (r : R D) : lsG (.bo (.ml xs)) r = r := rfl
def kM1 (m : M1) (i : Nat) (x : D) (env : Env) : R D := modR (.v i) env (mut1 m x)
@[simp] theorem kM1_e (m : M1) (i : Nat) (x : D) : kM1 m i x env = modR (.v i) env (mut1 m x) := rfl
theorem lsAt_v (i : Nat) (r : R D) : (if lsAt (.v i) env = true then r else .st) = lsG (gt env i) r := by
  have hb : brw (.v i) env = (gt env i).rd := rfl
  unfold lsAt lsG
  rw [hb]
  cases (gt env i).rd with
  | none => rfl
  | some d => cases d <;> rfl
@[simp] theorem ev_append (i : Nat) (a : E) : ev C (.m1 .append (.v i) a) env = lsG (gt env i) ((ev C a env).bind (kM1 .append i)) := lsAt_v env i _
@[simp] theorem ev_popAt (i : Nat) (a : E) : ev C (.m1 .popAt (.v i) a) env = lsG (gt env i) ((ev C a env).bind (kM1 .popAt i)) := lsAt_v env i _
@[simp] theorem ev_extend (i : Nat) (a : E) : ev C (.m1 .extend (.v i) a) env = lsG (gt env i) ((evB C a env).bind (kM1 .extend i)) := lsAt_v env i _
def kTx2 (m : M1) (d1 d2 : D) (env : Env) : R D := R.of (read1 m d1 d2) env
def kTx1 (m : M1) (a : E) (d1 : D) (env : Env) : R D := if rdOk m d1 = true then (evB C a env).bind (kTx2 m d1) else .st
@[simp] theorem kTx2_e (m : M1) (d1 d2 : D) : kTx2 m d1 d2 env = R.of (read1 m d1 d2) env := rfl
@[simp] theorem kTx1_e (m : M1) (a : E) (d1 : D) : kTx1 C m a d1 env = if rdOk m d1 = true then (evB C a env).bind (kTx2 m d1) else .st := rfl
@[simp] theorem ev_startswith (o a : E) : ev C (.m1 .startswith o a) env = (ev C o env).bind (kTx1 C .startswith a) := rfl
@[simp] theorem ev_find (o a : E) : ev C (.m1 .find o a) env = (ev C o env).bind (kTx1 C .find a) := rfl
@[simp] theorem ev_split (o a : E) : ev C (.m1 .split o a) env = (ev C o env).bind (kTx1 C .split a) := rfl
@[simp] theorem ev_partition (o a : E) : ev C (.m1 .partition o a) env = (ev C o env).bind (kTx1 C .partition a) := rfl
@[simp] theorem ev_join (o a : E) : ev C (.m1 .join o a) env = (ev C o env).bind (kTx1 C .join a) := rfl
@[simp] theorem ev_index (o a : E) : ev C (.m1 .index o a) env = (ev C o env).bind (kTx1 C .index a) := rfl
@[simp] theorem rdOk_s (m : M1) (h : m ≠ .index) (h2 : m ≠ .count) (x : Str) : rdOk m (.p (.str x)) = true := by cases m <;> first | rfl | exact absurd rfl h | exact absurd rfl h2
@[simp] theorem ev_count (o a : E) : ev C (.m1 .count o a) env = (ev C o env).bind (kTx1 C .count a) := rfl
@[simp] theorem read_sw (x y : Str) : read1 .startswith (.p (.str x)) (.p (.str y)) = some (.p (.bool (Txt.startswith x y))) := rfl
/-! what is walked -/
@[simp] theorem walkD_l (xs : List P) : walkD (.p (.list xs)) env = .ok xs env := rfl
@[simp] theorem walkD_t (xs : List P) : walkD (.p (.tuple xs)) env = .ok xs env := rfl
@[simp] theorem evI_fr (e : E) : evI C (.fr e) env = (ev C (.fr e) env).bind walkD := rfl
@[simp] theorem evI_v (i : Nat) : evI C (.v i) env = (vV (gt env i) env).bind walkD := rfl
@[simp] theorem evI_ix (a b : E) : evI C (.ix a b) env = (ev C (.ix a b) env).bind walkD := rfl
@[simp] theorem evI_call (f : String) (b : E) : evI C (.call f b) env = (ev C (.call f b) env).bind walkD := rfl
@[simp] theorem evI_tup (b : E) : evI C (.tup b) env = (ev C (.tup b) env).bind walkD := rfl
@[simp] theorem evI_g (n : String) (x : P) : evI C (.g n x) env = walkD (.p x) env := rfl
@[simp] theorem evI_sl (a b c : E) : evI C (.sl a b c) env = (ev C (.sl a b c) env).bind walkD := rfl
@[simp] theorem evI_bin (o : BOp) (a b : E) : evI C (.bin o a b) env = (ev C (.bin o a b) env).bind walkD := rfl
@[simp] theorem ev_lrg (e : E) : ev C (.lrg e) env = (ev C e env).bind lrgD := rfl
@[simp] theorem lrgD_i (n : Int) : lrgD (.p (.int n)) env = if 0 ≤ n ∧ n ≤ 16777216 then .ok (.ml (rangeP 0 n.toNat)) env else .st := rfl
@[simp] theorem evI_rg1 (e : E) : evI C (.rg1 e) env = (ev C e env).bind rg1D := rfl
@[simp] theorem rg1D_i (n : Int) : rg1D (.p (.int n)) env = if n.natAbs < 4611686018427387904 then .ok (rangeP 0 n.toNat) env else .st := rfl
def kRg2 (d d2 : D) (env : Env) : R (List P) := if isP d = true then rg2D d d2 env else .st
def kRg1 (b : E) (d : D) (env : Env) : R (List P) := (ev C b env).bind (kRg2 d)
@[simp] theorem kRg1_e (b : E) (d : D) : kRg1 C b d env = (ev C b env).bind (kRg2 d) := rfl
@[simp] theorem kRg2_e (lo hi : Int) : kRg2 (.p (.int lo)) (.p (.int hi)) env = if lo.natAbs < 4611686018427387904 ∧ hi.natAbs < 4611686018427387904 then .ok (rangeP lo (hi - lo).toNat) env else .st := rfl
@[simp] theorem evI_rg2 (a b : E) : evI C (.rg2 a b) env = (ev C a env).bind (kRg1 C b) := rfl
@[simp] theorem evI_rev (e : E) : evI C (.rev e) env = (ev C e env).bind revD := rfl
@[simp] theorem revD_l (xs : List P) : revD (.p (.list xs)) env = .ok xs.reverse env := rfl
def kZip2 (d d2 : D) (env : Env) : R (List P) := if isP d = true then zipD d d2 env else .st
def kZip1 (b : E) (d : D) (env : Env) : R (List P) := (ev C b env).bind (kZip2 d)
@[simp] theorem kZip1_e (b : E) (d : D) : kZip1 C b d env = (ev C b env).bind (kZip2 d) := rfl
@[simp] theorem kZip2_l (xs ys : List P) : kZip2 (.p (.list xs)) (.p (.list ys)) env = .ok (catT (xs.zip ys)) env := rfl
@[simp] theorem kZip2_t (xs ys : List P) : kZip2 (.p (.tuple xs)) (.p (.tuple ys)) env = .ok (catT (xs.zip ys)) env := rfl
@[simp] theorem kZip2_tl (xs ys : List P) : kZip2 (.p (.tuple xs)) (.p (.list ys)) env = .ok (catT (xs.zip ys)) env := rfl
@[simp] theorem evI_zip (a b : E) : evI C (.zip a b) env = (ev C a env).bind (kZip1 C b) := rfl
@[simp] theorem evI_enu (e : E) : evI C (.enu e) env = (ev C e env).bind enuD := rfl
@[simp] theorem enuD_t (xs : List P) : enuD (.p (.tuple xs)) env = .ok (catT ((rangeP 0 xs.length).zip xs)) env := rfl
@[simp] theorem enuD_l (xs : List P) : enuD (.p (.list xs)) env = .ok (catT ((rangeP 0 xs.length).zip xs)) env := rfl
/-! statements -/
@[simp] theorem ex_skip : exec C .skip env = .nx env := rfl
@[simp] theorem ex_pass : exec C .pass env = .nx env := rfl
@[simp] theorem ex_seq (a b : S) : exec C (.seq a b) env = (exec C a env).then (exec C b) := rfl
def bdR (i : Nat) (d : D) (s : Sl) (env : Env) : RS := match s with
  | .no => if i < env.length then .nx (env.set i (.ow d)) else .st
  | .ow _ => if i < env.length then .nx (env.set i (.ow d)) else .st
  | _ => .st
@[simp] theorem bdR_no (i : Nat) (d : D) : bdR i d .no env = if i < env.length then .nx (env.set i (.ow d)) else .st := rfl
@[simp] theorem bdR_ow (i : Nat) (d d0 : D) : bdR i d (.ow d0) env = if i < env.length then .nx (env.set i (.ow d)) else .st := rfl
theorem bdR_free (i : Nat) (d : D) {s : Sl} (h : free s = true) : bdR i d s env = if i < env.length then .nx (env.set i (.ow d)) else .st := by
  cases s <;> first | rfl | (cases h)
@[simp] theorem bindR_e (i : Nat) (d : D) : bindR env i d = bdR i d (gt env i) env := by
  unfold bindR bdR bindS
  cases gt env i <;> (try split) <;> first | rfl | (split <;> first | rfl | simp_all) | simp_all
def kSet (i : Nat) (d : D) (env : Env) : RS := bindR env i d
@[simp] theorem kSet_e (i : Nat) (d : D) : kSet i d env = bindR env i d := rfl
@[simp] theorem ex_set (i : Nat) (e : E) : exec C (.set i e) env = (ev C e env).go (kSet i) := rfl
def kEx (d : D) (env : Env) : RS := .nx env
@[simp] theorem kEx_e (d : D) : kEx d env = .nx env := rfl
@[simp] theorem ex_ex (e : E) : exec C (.ex e) env = (ev C e env).go kEx := rfl
def kRet (d : D) (env : Env) : RS := .rt d env
@[simp] theorem kRet_e (d : D) : kRet d env = .rt d env := rfl
@[simp] theorem ex_ret (e : E) : exec C (.ret e) env = (ev C e env).go kRet := rfl
@[simp] theorem ex_retN : exec C .retN env = .rt nonD env := rfl
def kIte (a b : S) (k : Bool) (env : Env) : RS := match k with
  | true => exec C a env
  | false => exec C b env
@[simp] theorem kIte_t (a b : S) : kIte C a b true env = exec C a env := rfl
@[simp] theorem kIte_f (a b : S) : kIte C a b false env = exec C b env := rfl
theorem R.go_congr {α : Type} (r : R α) (f g : α → Env → RS) (h : ∀ a e, f a e = g a e) : r.go f = r.go g := by
  cases r <;> first | exact h _ _ | rfl
@[simp] theorem ex_ite (c : E) (a b : S) : exec C (.ite c a b) env = (evT C c env).go (kIte C a b) := by
  show (evT C c env).go _ = _
  refine R.go_congr _ _ _ fun k e => ?_
  cases k <;> rfl
def bFor1 (i : Nat) (b : S) (x : P) (env : Env) : RS := (bindR env i (.p x)).then (exec C b)
@[simp] theorem bFor1_e (i : Nat) (b : S) (x : P) : bFor1 C i b x env = (bindR env i (.p x)).then (exec C b) := rfl
def kFor1 (i : Nat) (b : S) (xs : List P) (env : Env) : RS := forL (bFor1 C i b) xs env
@[simp] theorem kFor1_e (i : Nat) (b : S) (xs : List P) : kFor1 C i b xs env = forL (bFor1 C i b) xs env := rfl
@[simp] theorem ex_for1 (i : Nat) (it : E) (b : S) : exec C (.for1 i it b) env = (evI C it env).go (kFor1 C i b) := rfl
def kF2 (j : Nat) (b : S) (y : P) (env : Env) : RS := (bindR env j (.p y)).then (exec C b)
@[simp] theorem kF2_e (j : Nat) (b : S) (y : P) : kF2 C j b y env = (bindR env j (.p y)).then (exec C b) := rfl
def bFor2 (i j : Nat) (b : S) (x : P) (env : Env) : RS := match tup2 x with
  | some u => (bindR env i (.p u.1)).then (kF2 C j b u.2)
  | none => .st
@[simp] theorem bFor2_e (i j : Nat) (b : S) (x y : P) : bFor2 C i j b (.tuple [x, y]) env = (bindR env i (.p x)).then (kF2 C j b y) := rfl
def kFor2 (i j : Nat) (b : S) (xs : List P) (env : Env) : RS := forL (bFor2 C i j b) xs env
@[simp] theorem kFor2_e (i j : Nat) (b : S) (xs : List P) : kFor2 C i j b xs env = forL (bFor2 C i j b) xs env := rfl
theorem forL_congr (f g : P → Env → RS) (h : ∀ x e, f x e = g x e) : ∀ (xs : List P) (e : Env), forL f xs e = forL g xs e
  | [], _ => rfl
  | x :: xs, e => by
    unfold forL
    rw [h]
    cases g x e with
    | nx e => exact forL_congr f g h xs e
    | _ => rfl
@[simp] theorem ex_for2 (i j : Nat) (it : E) (b : S) : exec C (.for2 i j it b) env = (evI C it env).go (kFor2 C i j b) := by
  show (evI C it env).go _ = _
  refine R.go_congr _ _ _ fun xs e => ?_
  refine forL_congr _ _ (fun x e => ?_) xs e
  unfold bFor2
  cases tup2 x <;> rfl
@[simp] theorem ex_whl (c : E) (b : S) : exec C (.whl c b) env = whL (evT C c) (exec C b) C.wf env := rfl
@[simp] theorem ex_rai (c m : String) : exec C (.rai c m) env = .ex c env := rfl
@[simp] theorem forL_nil (f : P → Env → RS) : forL f [] env = .nx env := rfl
theorem forL_cons (f : P → Env → RS) (x : P) (xs : List P) : forL f (x :: xs) env = (f x env).then (forL f xs) := rfl
def kWh (c : Env → R Bool) (b : Env → RS) (n : Nat) (k : Bool) (env : Env) : RS := match k with
  | true => (b env).then (whL c b n)
  | false => .nx env
@[simp] theorem kWh_t (c : Env → R Bool) (b : Env → RS) (n : Nat) : kWh c b n true env = (b env).then (whL c b n) := rfl
@[simp] theorem kWh_f (c : Env → R Bool) (b : Env → RS) (n : Nat) : kWh c b n false env = .nx env := rfl
theorem whL_s (c : Env → R Bool) (b : Env → RS) (n : Nat) : whL c b (n + 1) env = (c env).go (kWh c b n) := by
  show (c env).go _ = _
  refine R.go_congr _ _ _ fun k e => ?_
  cases k <;> rfl
/-! comprehensions, item stores -/
def kLc (i : Nat) (y : P) (e : Env) : R P := .ok y (e.set i .no)
@[simp] theorem kLc_e (i : Nat) (y : P) : kLc i y env = .ok y (env.set i .no) := rfl
@[simp] theorem lcF_e (i : Nat) (v : Env → R D) (x : P) : lcF i v x env = (asP (v (env.set i (.ow (.p x))))).bind (kLc i) := rfl
def kLc1 (i : Nat) (s : Sl) (ys : List P) (e : Env) : R D := .ok (.ml ys) (e.set i s)
@[simp] theorem kLc1_e (i : Nat) (s : Sl) (ys : List P) : kLc1 i s ys env = .ok (.ml ys) (env.set i s) := rfl
def kLc0 (i : Nat) (elt : E) (xs : List P) (env : Env) : R D := if lcG i env = true then (lcLoop (lcF i (ev C elt)) xs [] (env.set i .no)).bind (kLc1 i (gt env i)) else .st
@[simp] theorem kLc0_e (i : Nat) (elt : E) (xs : List P) : kLc0 C i elt xs env = if lcG i env = true then (lcLoop (lcF i (ev C elt)) xs [] (env.set i .no)).bind (kLc1 i (gt env i)) else .st := rfl
@[simp] theorem ev_lc (elt : E) (i : Nat) (it : E) : ev C (.lc elt i it .nil) env = (evI C it env).bind (kLc0 C i elt) := rfl
def lcC (i : Nat) (c : E) (x : P) (env : Env) : R Bool := evT C c (env.set i (.ow (.p x)))
@[simp] theorem lcC_e (i : Nat) (c : E) (x : P) : lcC C i c x env = evT C c (env.set i (.ow (.p x))) := rfl
def kLi0 (i : Nat) (elt c : E) (xs : List P) (env : Env) : R D := if lcG i env = true then (lcIf (lcC C i c) (lcE i (ev C elt)) i xs [] (env.set i .no)).bind (kLc1 i (gt env i)) else .st
@[simp] theorem kLi0_e (i : Nat) (elt c : E) (xs : List P) : kLi0 C i elt c xs env = if lcG i env = true then (lcIf (lcC C i c) (lcE i (ev C elt)) i xs [] (env.set i .no)).bind (kLc1 i (gt env i)) else .st := rfl
theorem ev_lcI (elt : E) (i : Nat) (it c : E) (h : noC c = false) : ev C (.lc elt i it c) env = (evI C it env).bind (kLi0 C i elt c) := by
  show ((den C it).i env).bind _ = ((den C it).i env).bind _
  refine R.bind_congr _ _ _ fun xs e => ?_
  simp only [h, Bool.false_eq_true, if_false]
  rfl
@[simp] theorem lcF2_e (i j : Nat) (v : Env → R D) (x y : P) : lcF2 i j v (.tuple [x, y]) env = (asP (v ((env.set i (.ow (.p x))).set j (.ow (.p y))))).bind fun z e => .ok z ((e.set i .no).set j .no) := rfl
def kL22 (i j : Nat) (s1 s2 : Sl) (ys : List P) (e : Env) : R D := .ok (.ml ys) ((e.set i s1).set j s2)
@[simp] theorem kL22_e (i j : Nat) (s1 s2 : Sl) (ys : List P) : kL22 i j s1 s2 ys env = .ok (.ml ys) ((env.set i s1).set j s2) := rfl
def kL20 (i j : Nat) (elt : E) (xs : List P) (env : Env) : R D := if lcG i env = true ∧ lcG j env = true ∧ i ≠ j then (lcLoop (lcF2 i j (ev C elt)) xs [] ((env.set i .no).set j .no)).bind (kL22 i j (gt env i) (gt env j)) else .st
@[simp] theorem kL20_e (i j : Nat) (elt : E) (xs : List P) : kL20 C i j elt xs env = if lcG i env = true ∧ lcG j env = true ∧ i ≠ j then (lcLoop (lcF2 i j (ev C elt)) xs [] ((env.set i .no).set j .no)).bind (kL22 i j (gt env i) (gt env j)) else .st := rfl
@[simp] theorem ev_lc2 (elt : E) (i j : Nat) (it : E) : ev C (.lc2 elt i j it .nil) env = (evI C it env).bind (kL20 C i j elt) := by
  show ((den C it).i env).bind _ = ((den C it).i env).bind _
  refine R.bind_congr _ _ _ fun xs e => ?_
  unfold kL20
  simp only [noC, and_true]
  rfl
@[simp] theorem ev_lcI_cmp (elt : E) (i : Nat) (it : E) (o : COp) (a b : E) : ev C (.lc elt i it (.cmp o a b)) env = (evI C it env).bind (kLi0 C i elt (.cmp o a b)) := ev_lcI C env elt i it _ rfl
@[simp] theorem ev_lcI_an (elt : E) (i : Nat) (it : E) (a b : E) : ev C (.lc elt i it (.an a b)) env = (evI C it env).bind (kLi0 C i elt (.an a b)) := ev_lcI C env elt i it _ rfl
@[simp] theorem lcE_e (i : Nat) (v : Env → R D) : lcE i v env = (asP (v env)).bind (kLc i) := rfl
@[simp] theorem ex_dead : exec C .dead env = .st := rfl
@[simp] theorem ex_setC (i : Nat) (elt : E) (j : Nat) (it c : E) : exec C (.setC i elt j it c) env = (ev C (.lc elt j it c) env).go (kSet i) := rfl
def ghV (i : Nat) (s : Sl) (env : Env) : RS := match s with
  | .ow d => (match frz d with
    | some x => .nx (env.set i (.ow (.p x)))
    | none => .st)
  | _ => .st
@[simp] theorem ghV_ml (i : Nat) (xs : List P) : ghV i (.ow (.ml xs)) env = .nx (env.set i (.ow (.p (.list xs)))) := rfl
@[simp] theorem ghV_p (i : Nat) (x : P) : ghV i (.ow (.p x)) env = .nx (env.set i (.ow (.p x))) := rfl
@[simp] theorem ex_gh (i : Nat) : exec C (.gh i) env = ghV i (gt env i) env := by
  show (match gt env i with
    | .ow d => (match frz d with
      | some x => RS.nx (env.set i (.ow (.p x)))
      | none => RS.st)
    | _ => RS.st) = _
  unfold ghV
  cases gt env i <;> rfl
/-- nothing, or a datum -/
def dat : Sl → Bool
  | .no => true
  | .ow (.p _) => true
  | _ => false
@[simp] theorem dat_no : dat .no = true := rfl
@[simp] theorem dat_ow (x : P) : dat (.ow (.p x)) = true := rfl
theorem dat_free {s : Sl} (h : dat s = true) : free s = true := by
  cases s <;> first | rfl | (cases h)
@[simp] theorem lcG_e (i : Nat) : lcG i env = (decide (i < env.length) && dat (gt env i)) := by
  unfold lcG dat
  cases gt env i with
  | ow d => cases d <;> rfl
  | _ => rfl
def mdOS (i : Nat) (o : Option (D × D)) (env : Env) : RS := match o with
  | some r => .nx (env.set i (.ow r.2))
  | none => .st
def mdBS (i : Nat) (o : Option (D × D)) (env : Env) : RS := match o with
  | some r => .nx (env.set i (.bo r.2))
  | none => .st
def modVS (i : Nat) (f : D → Option (D × D)) (s : Sl) (env : Env) : RS := match s with
  | .ow d => mdOS i (f d) env
  | .bo d => mdBS i (f d) env
  | _ => .st
@[simp] theorem mdOS_some (i : Nat) (r d : D) : mdOS i (some (r, d)) env = .nx (env.set i (.ow d)) := rfl
@[simp] theorem mdBS_some (i : Nat) (r d : D) : mdBS i (some (r, d)) env = .nx (env.set i (.bo d)) := rfl
@[simp] theorem modVS_ow (i : Nat) (f : D → Option (D × D)) (d : D) : modVS i f (.ow d) env = mdOS i (f d) env := rfl
@[simp] theorem modVS_bo (i : Nat) (f : D → Option (D × D)) (d : D) : modVS i f (.bo d) env = mdBS i (f d) env := rfl
@[simp] theorem modS_v (i : Nat) (f : D → Option (D × D)) : modS (.v i) env f = modVS i f (gt env i) env := by
  have hm : modP (.v i) env f = ((gt env i).upd f).map fun r => (r.1, env.set i r.2) := rfl
  unfold modS
  rw [hm]
  cases gt env i with
  | ow d =>
    simp only [Sl.upd, modVS]
    cases f d <;> rfl
  | bo d =>
    simp only [Sl.upd, modVS]
    cases f d <;> rfl
  | _ => rfl
@[simp] theorem setAt_ml (j : Int) (x : P) (xs : List P) : setAt (.int j) x (.ml xs) = (ixN xs.length j).map fun n => (nonD, .ml (xs.set n x)) := rfl
def siG (q : Bool) (s : Sl) (r : RS) : RS := if q = true ∧ s.rd.isSome = true then r else .st
@[simp] theorem siG_ow (d : D) (r : RS) : siG true (.ow d) r = r := rfl
@[simp] theorem siG_bo (d : D) (r : RS) : siG true (.bo d) r = r := rfl
def kSi2 (i : Nat) (x y : P) (env : Env) : RS := modS (.v i) env (setAt y x)
@[simp] theorem kSi2_e (i : Nat) (x y : P) : kSi2 i x y env = modS (.v i) env (setAt y x) := rfl
def kSi (i : Nat) (k : E) (x : P) (env : Env) : RS := siG (quiet k) (gt env i) ((asP (ev C k env)).go (kSi2 i x))
@[simp] theorem kSi_e (i : Nat) (k : E) (x : P) : kSi C i k x env = siG (quiet k) (gt env i) ((asP (ev C k env)).go (kSi2 i x)) := rfl
@[simp] theorem ex_setI (i : Nat) (k e : E) : exec C (.setI (.v i) k e) env = (asP (ev C e env)).go (kSi C i k) := rfl
@[simp] theorem rangeP_zero (n : Nat) : rangeP 0 n = (List.range n).map fun (i : Nat) => PyData.int (i : Int) := by
  unfold rangeP
  simp
/-- a comprehension whose items leave the slots as they are -/
theorem lcLoop_map {f : P → Env → R P} {g : P → P} {e : Env} : ∀ (xs acc : List P), (∀ x ∈ xs, f x e = .ok (g x) e) → acc.length + xs.length < 16777216 → lcLoop f xs acc e = .ok (acc ++ xs.map g) e
  | [], acc, _, _ => by simp [lcLoop]
  | x :: xs, acc, h, hl => by
    simp only [List.length_cons] at hl
    simp only [lcLoop]
    rw [h x (by simp)]
    simp only
    rw [if_pos (big_line (by omega)), lcLoop_map xs (acc ++ [g x]) (fun y hy => h y (by simp [hy])) (by simp; omega)]
    simp
theorem lcLoop_idx {α : Type} {f : P → Env → R P} {h g : α → P} {e : Env} : ∀ (l : List α) (acc : List P), (∀ a ∈ l, f (h a) e = .ok (g a) e) → acc.length + l.length < 16777216 → lcLoop f (l.map h) acc e = .ok (acc ++ l.map g) e
  | [], acc, _, _ => by simp [lcLoop]
  | x :: xs, acc, hh, hl => by
    simp only [List.length_cons] at hl
    simp only [List.map_cons, lcLoop]
    rw [hh x (by simp)]
    simp only
    rw [if_pos (big_line (by omega)), lcLoop_idx xs (acc ++ [g x]) (fun y hy => hh y (by simp [hy])) (by simp; omega)]
    simp
theorem lcIf_idx {α : Type} {c : P → Env → R Bool} {f : Env → R P} {i : Nat} {h g : α → P} {q : α → Bool} {e : Env} (he : e.set i .no = e) : ∀ (l : List α) (acc : List P), (∀ a ∈ l, c (h a) e = .ok (q a) (e.set i (.ow (.p (h a)))) ∧ (q a = true → f (e.set i (.ow (.p (h a)))) = .ok (g a) e)) → acc.length + l.length < 16777216 →
    lcIf c f i (l.map h) acc e = .ok (acc ++ (l.filter q).map g) e
  | [], acc, _, _ => by simp [lcIf]
  | x :: xs, acc, hh, hl => by
    simp only [List.length_cons] at hl
    obtain ⟨h1, h2⟩ := hh x (by simp)
    simp only [List.map_cons, lcIf]
    rw [h1]
    cases hq : q x with
    | true =>
      simp only [if_true]
      rw [h2 hq]
      simp only
      rw [if_pos (big_line (by omega)), lcIf_idx he xs (acc ++ [g x]) (fun y hy => hh y (by simp [hy])) (by simp; omega)]
      simp [List.filter_cons, hq]
    | false =>
      simp only [Bool.false_eq_true, if_false]
      rw [List.set_set, he, lcIf_idx he xs acc (fun y hy => hh y (by simp [hy])) (by omega)]
      simp [List.filter_cons, hq]
@[simp] theorem ev_mx3 (a b c : E) : ev C (.mx3 a b c) env = (asP (ev C a env)).bind fun x env => (asP (ev C b env)).bind fun y env => (asP (ev C c env)).bind fun z env => R.of ((mx (.p x) (.p y)).bind fun u => mx u (.p z)) env := rfl
@[simp] theorem ev_mx2 (a b : E) : ev C (.mx2 a b) env = (asP (ev C a env)).bind fun x env => (asP (ev C b env)).bind fun y env => R.of (mx (.p x) (.p y)) env := rfl
@[simp] theorem mx_i (i j : Int) : mx (.p (.int i)) (.p (.int j)) = some (.p (.int (if j > i then j else i))) := rfl
theorem bools_true {α : Type} : ∀ (l : List α) (f : α → P), (∀ a ∈ l, f a = .bool true) → boolsP (l.map f) = some (l.map fun _ => true)
  | [], _, _ => rfl
  | x :: l, f, h => by
    rw [List.map_cons, h x (by simp)]
    simp only [boolsP]
    rw [bools_true l f fun a ha => h a (by simp [ha])]
    rfl
theorem all_true {α : Type} (l : List α) (f : α → P) (h : ∀ a ∈ l, f a = .bool true) : opB1 .all (.ml (l.map f)) = some (.p (.bool true)) := by
  show (boolsP (l.map f)).map (fun bs => D.p (.bool (bs.all id))) = _
  rw [bools_true l f h]
  simp
theorem call_rb {Γ : Tbl} {n w : Nat} {f : String} {i j : Nat} {xs : List P} {env : Env} {d0 d1 d1' : D} {z : D} {o0 : Sl} {os : Env} (hr : run Γ n f (.ro d0 :: .bo d1 :: xs.map fun x => .ow (.p x)) = .ok z (o0 :: .bo d1' :: os)) (hl : os.length = xs.length) (hij : i ≠ j)
    (h0 : (gt env i).rd = some d0) (h1 : gt env j = .ow d1) : doCall ⟨run Γ n, w⟩ f (.rr i :: .br j :: xs.map fun x => .va (.p x)) env = .ok z (env.set j (.ow d1')) := by
  have lo : ∀ xs : List P, lentOnce (xs.map fun x => AV.va (.p x)) = true := fun xs => by
    induction xs with
    | nil => rfl
    | cons x r ih => exact ih
  have so : ∀ xs : List P, slotsOf env (xs.map fun x => AV.va (.p x)) = some (xs.map fun x => .ow (.p x)) := fun xs => by
    induction xs with
    | nil => rfl
    | cons x r ih => simp only [List.map_cons, slotsOf, slotOf, ih, Option.map_some]
  have gb : ∀ (e : Env) (xs : List P) (os : Env), os.length = xs.length → giveBack e (xs.map fun x => AV.va (.p x)) os = some e := fun e xs => by
    induction xs with
    | nil => intro os _; simp [giveBack]
    | cons x r ih =>
      intro os ho
      cases os with
      | nil => cases ho
      | cons o os => simp only [List.map_cons, giveBack]; exact ih os (by simpa using ho)
  have l2 : lentOnce (.rr i :: .br j :: xs.map fun x => AV.va (.p x)) = true := by
    simp only [lentOnce, lo, List.all_cons, List.all_map, Bool.and_true, Bool.and_eq_true, List.all_eq_true]
    refine ⟨⟨by simp [hij], fun x _ => rfl⟩, fun x _ => rfl⟩
  unfold doCall
  rw [if_pos l2]
  simp only [slotsOf, slotOf, h0, h1, so, Option.map_some, hr, giveBack, gb _ xs os hl]
theorem rg1D_nat {q : Nat} (h : q < 1000000) : rg1D (.p (.int (q : Int))) env = .ok ((List.range q).map fun (i : Nat) => PyData.int (i : Int)) env := by
  have h1 : (q : Int).natAbs < 4611686018427387904 := by omega
  rw [rg1D_i, if_pos h1, rangeP_zero, Int.toNat_natCast]
def tryK (xs : List String) (c : String) (i : Nat) (h : S) (r : RS) : RS := match r with
  | .ex c' env' => if c' ∈ xs then (if isXc c' (.xc c) = true then
        (if xGate (gt env' i) = true ∧ i < env'.length then xEnd i (exec noCalls h (env'.set i (.xc c'))) else .st) else .ex c' env') else .st
  | r => r
@[simp] theorem ex_try (b : S) (xs : List String) (c : String) (i : Nat) (h : S) : exec C (.tryE b xs c i h) env = tryK xs c i h (exec C b env) := by
  show (match exec C b env with
    | .ex c' env' => if c' ∈ xs then (if isXc c' (.xc c) = true then
        (if xGate (gt env' i) = true ∧ i < env'.length then xEnd i (exec noCalls h (env'.set i (.xc c'))) else RS.st) else RS.ex c' env') else RS.st
    | r => r) = _
  unfold tryK
  cases exec C b env <;> rfl
def tryOK (xs : List String) (c : String) (h : S) (r : RS) : RS := match r with
  | .ex c' env' => if c' ∈ xs then (if isXc c' (.xc c) = true then xEndO (exec noCalls h env') else .ex c' env') else .st
  | r => r
@[simp] theorem ex_tryO (b : S) (xs : List String) (c : String) (h : S) : exec C (.tryO b xs c h) env = tryOK xs c h (exec C b env) := by
  show (match exec C b env with
    | .ex c' env' => if c' ∈ xs then (if isXc c' (.xc c) = true then xEndO (exec noCalls h env') else RS.ex c' env') else RS.st
    | r => r) = _
  unfold tryOK
  cases exec C b env <;> rfl
def try3K (xs : List String) (i : Nat) (c1 c2 c3 : String) (h1 h2 h3 : S) (r : RS) : RS := match r with
  | .ex c' env' => if c' ∈ xs then (if isXc c' (.xc c1) = true then xRun i c' (exec noCalls h1) env'
        else if isXc c' (.xc c2) = true then xRun i c' (exec noCalls h2) env'
        else if isXc c' (.xc c3) = true then xRun i c' (exec noCalls h3) env' else .ex c' env') else .st
  | r => r
@[simp] theorem ex_try3 (b : S) (xs : List String) (i : Nat) (c1 c2 c3 : String) (h1 h2 h3 : S) : exec C (.try3 b xs i c1 c2 c3 h1 h2 h3) env = try3K xs i c1 c2 c3 h1 h2 h3 (exec C b env) := by
  show (match exec C b env with
    | .ex c' env' => if c' ∈ xs then (if isXc c' (.xc c1) = true then xRun i c' (exec noCalls h1) env'
        else if isXc c' (.xc c2) = true then xRun i c' (exec noCalls h2) env'
        else if isXc c' (.xc c3) = true then xRun i c' (exec noCalls h3) env' else RS.ex c' env') else RS.st
    | r => r) = _
  unfold try3K
  cases exec C b env <;> rfl
@[simp] theorem try3K_nx (xs : List String) (i : Nat) (c1 c2 c3 : String) (h1 h2 h3 : S) : try3K xs i c1 c2 c3 h1 h2 h3 (.nx env) = .nx env := rfl
@[simp] theorem try3K_rt (xs : List String) (i : Nat) (c1 c2 c3 : String) (h1 h2 h3 : S) (d : D) : try3K xs i c1 c2 c3 h1 h2 h3 (.rt d env) = .rt d env := rfl
@[simp] theorem try3K_ex (xs : List String) (i : Nat) (c1 c2 c3 c' : String) (h1 h2 h3 : S) : try3K xs i c1 c2 c3 h1 h2 h3 (.ex c' env) = if c' ∈ xs then (if isXc c' (.xc c1) = true then xRun i c' (exec noCalls h1) env
        else if isXc c' (.xc c2) = true then xRun i c' (exec noCalls h2) env
        else if isXc c' (.xc c3) = true then xRun i c' (exec noCalls h3) env else .ex c' env) else .st := rfl
@[simp] theorem tryOK_nx (xs : List String) (c : String) (h : S) : tryOK xs c h (.nx env) = .nx env := rfl
@[simp] theorem tryOK_rt (xs : List String) (c : String) (h : S) (d : D) : tryOK xs c h (.rt d env) = .rt d env := rfl
@[simp] theorem tryOK_ex (xs : List String) (c c' : String) (h : S) : tryOK xs c h (.ex c' env) = if c' ∈ xs then (if isXc c' (.xc c) = true then xEndO (exec noCalls h env) else .ex c' env) else .st := rfl
@[simp] theorem xEndO_nx : xEndO (.nx env) = if noXc env = true then .nx env else .st := rfl
@[simp] theorem tryK_nx (xs : List String) (c : String) (i : Nat) (h : S) : tryK xs c i h (.nx env) = .nx env := rfl
@[simp] theorem tryK_rt (xs : List String) (c : String) (i : Nat) (h : S) (d : D) : tryK xs c i h (.rt d env) = .rt d env := rfl
@[simp] theorem tryK_ex (xs : List String) (c c' : String) (i : Nat) (h : S) : tryK xs c i h (.ex c' env) = if c' ∈ xs then (if isXc c' (.xc c) = true then
        (if xGate (gt env i) = true ∧ i < env.length then xEnd i (exec noCalls h (env.set i (.xc c'))) else .st) else .ex c' env) else .st := rfl
@[simp] theorem xGate_no : xGate .no = true := rfl
@[simp] theorem xGate_ow (d : D) : xGate (.ow d) = true := rfl
@[simp] theorem xEnd_nx (i : Nat) : xEnd i (.nx env) = if noXc (env.set i .no) = true ∧ i < env.length then .nx (env.set i .no) else .st := rfl
@[simp] theorem isiS_xc (ts : List Ty) (c : String) : isiS ts (.xc c) env = if (ts.all fun t => !isB t) = true then .ok (.p (.bool (ts.any (isXc c)))) env else .st := rfl
theorem call_rbo {Γ : Tbl} {n w : Nat} {f : String} {i j : Nat} {xs : List P} {env : Env} {d0 d1 d1' : D} {z : D} {o0 : Sl} {os : Env} (hr : run Γ n f (.ro d0 :: .bo d1 :: xs.map fun x => .ow (.p x)) = .ok z (o0 :: .bo d1' :: os)) (hl : os.length = xs.length) (hij : i ≠ j)
    (h0 : (gt env i).rd = some d0) (h1 : gt env j = .bo d1) : doCall ⟨run Γ n, w⟩ f (.rr i :: .br j :: xs.map fun x => .va (.p x)) env = .ok z (env.set j (.bo d1')) := by
  have lo : ∀ xs : List P, lentOnce (xs.map fun x => AV.va (.p x)) = true := fun xs => by
    induction xs with
    | nil => rfl
    | cons x r ih => exact ih
  have so : ∀ xs : List P, slotsOf env (xs.map fun x => AV.va (.p x)) = some (xs.map fun x => .ow (.p x)) := fun xs => by
    induction xs with
    | nil => rfl
    | cons x r ih => simp only [List.map_cons, slotsOf, slotOf, ih, Option.map_some]
  have gb : ∀ (e : Env) (xs : List P) (os : Env), os.length = xs.length → giveBack e (xs.map fun x => AV.va (.p x)) os = some e := fun e xs => by
    induction xs with
    | nil => intro os _; simp [giveBack]
    | cons x r ih =>
      intro os ho
      cases os with
      | nil => cases ho
      | cons o os => simp only [List.map_cons, giveBack]; exact ih os (by simpa using ho)
  have l2 : lentOnce (.rr i :: .br j :: xs.map fun x => AV.va (.p x)) = true := by
    simp only [lentOnce, lo, List.all_cons, List.all_map, Bool.and_true, Bool.and_eq_true, List.all_eq_true]
    refine ⟨⟨by simp [hij], fun x _ => rfl⟩, fun x _ => rfl⟩
  unfold doCall
  rw [if_pos l2]
  simp only [slotsOf, slotOf, h0, h1, so, Option.map_some, hr, giveBack, gb _ xs os hl]
end
end DL

/-! DL21: texts by their signs. -/
namespace DL
open PySem L2
/-- the text of these signs -/
def st (l : List Nat) : Str := ⟨l.toArray⟩
theorem st_inj {a b : List Nat} : st a = st b ↔ a = b := by
  constructor
  · intro h
    have : (st a).cps = (st b).cps := by rw [h]
    simpa [st] using this
  · intro h; rw [h]
@[simp] theorem st_eq (a b : List Nat) : (st a = st b) = (a = b) := propext st_inj
@[simp] theorem st_len (a : List Nat) : (st a).length = a.length := by
  show (st a).cps.size = a.length
  simp [st]
@[simp] theorem st_cps (a : List Nat) : (st a).cps.toList = a := by simp [st]
theorem st_app (a b : List Nat) : st a ++ st b = st (a ++ b) := by
  show Str.append (st a) (st b) = _
  simp [Str.append, st]
theorem op_add_st (a b : List Nat) (h : a.length + b.length ≤ 16777216) : op2 .add (.p (.str (st a))) (.p (.str (st b))) = some (.p (.str (st (a ++ b)))) := by
  rw [op_add_s, st_app, if_pos (by rw [st_len, st_len]; exact big_line' h)]
theorem cut_at {z : Str} {pre rest : List Nat} {c : Nat} {a : Int} (hz : z = st (pre ++ c :: rest)) (ha : a = pre.length) : cutS z (some a) (some (a + 1)) = st [c] := by
  subst hz ha
  have e1 : HT.sIx (st (pre ++ c :: rest)).length 0 (some (pre.length : Int)) = pre.length := by
    rw [HT.sIx_nat, st_len]; simp
  have e2 : HT.sIx (st (pre ++ c :: rest)).length (st (pre ++ c :: rest)).length (some ((pre.length : Int) + 1)) = pre.length + 1 := by
    rw [show ((pre.length : Int) + 1) = ((pre.length + 1 : Nat) : Int) by push_cast; rfl, HT.sIx_nat, st_len]; simp
  unfold cutS
  rw [e1, e2, st_cps]
  simp [st]
theorem opSl_st {z : Str} {pre rest : List Nat} {c : Nat} {a b : Int} (hz : z = st (pre ++ c :: rest)) (ha : a = pre.length) (hb : b = a + 1) (hl : z.length ≤ 16777216) : opSl (.p (.str z)) (some a) (some b) = some (.p (.str (st [c]))) := by
  subst hb
  rw [opSl_s, if_pos (big_line' hl), cut_at hz ha]
theorem atI_some {α : Type} {l : List α} {j : Int} (h0 : 0 ≤ j) (h1 : j < l.length) : ∃ x, atI l j = some x := by
  unfold atI ixN
  rw [if_pos h0, if_pos (by omega)]
  simp only [Option.bind_some]
  exact ⟨l[j.toNat]'(by omega), by simp⟩
theorem atI_nat {α : Type} {l : List α} {j : Int} (h0 : 0 ≤ j) (h1 : j < l.length) : atI l j = l[j.toNat]? := by
  unfold atI ixN
  rw [if_pos h0, if_pos (by omega)]
  rfl
theorem cutL_from {α : Type} (l : List α) (t : Int) (h0 : 0 ≤ t) (h1 : t ≤ l.length) : cutL l (some t) none = l.drop t.toNat := by
  have e1 : HT.sIx l.length 0 (some t) = t.toNat := by
    rw [show t = ((t.toNat : Nat) : Int) by omega, HT.sIx_nat]
    simp
    omega
  unfold cutL
  rw [e1, HT.sIx_none]
  rw [List.take_of_length_le (by simp)]
theorem cutL_upto {α : Type} (l : List α) (t : Int) (h0 : 0 ≤ t) (h1 : t ≤ l.length) : cutL l none (some t) = l.take t.toNat := by
  have e1 : HT.sIx l.length l.length (some t) = t.toNat := by
    rw [show t = ((t.toNat : Nat) : Int) by omega, HT.sIx_nat]
    simp
    omega
  unfold cutL
  rw [e1, HT.sIx_none]
  simp
theorem cutS_len (z : Str) (lo hi : Option Int) : (cutS z lo hi).length ≤ z.length := by
  unfold cutS
  show (Array.size _) ≤ z.length
  simp only [List.size_toArray, List.length_take, List.length_drop]
  have : z.cps.toList.length = z.length := by show z.cps.toList.length = z.cps.size; simp
  omega
theorem sw_st (a b : List Nat) : Txt.startswith (st a) (st b) = decide (a.take b.length = b) := by
  unfold Txt.startswith Builtin.Str.subAt
  rw [st_len, st_len]
  have e : ((st a).cps.extract 0 (0 + b.length) == (st b).cps) = decide (a.take b.length = b) := by
    have h1 : (st a).cps.extract 0 (0 + b.length) = (a.take b.length).toArray := by
      simp [st]
    rw [h1]
    show ((a.take b.length).toArray == b.toArray) = _
    rw [Bool.eq_iff_iff]
    simp
  rw [e]
  by_cases h : a.take b.length = b
  · have : b.length ≤ a.length := by
      have := congrArg List.length h
      simp at this; omega
    simp [h, this]
  · simp [h]
theorem bools_map {α : Type} : ∀ (l : List α) (f : α → Bool), boolsP (l.map fun a => PyData.bool (f a)) = some (l.map f)
  | [], _ => rfl
  | x :: l, f => by
    rw [List.map_cons]
    simp only [boolsP]
    rw [bools_map l f]
    rfl
theorem any_map {α : Type} (l : List α) (f : α → Bool) : opB1 .any (.ml (l.map fun a => PyData.bool (f a))) = some (.p (.bool (l.any f))) := by
  show (boolsP _).map (fun bs => D.p (.bool (bs.any id))) = _
  rw [bools_map]
  simp [Function.comp_def]
theorem all_map {α : Type} (l : List α) (f : α → Bool) : opB1 .all (.ml (l.map fun a => PyData.bool (f a))) = some (.p (.bool (l.all f))) := by
  show (boolsP _).map (fun bs => D.p (.bool (bs.all id))) = _
  rw [bools_map]
  simp [Function.comp_def]
theorem at0 {α : Type} (a : α) (r : List α) : atI (a :: r) 0 = some a := by simp [atI, ixN]
theorem at1 {α : Type} (a b : α) (r : List α) : atI (a :: b :: r) 1 = some b := by
  unfold atI ixN
  rw [if_pos (by omega), if_pos (by simp; omega)]
  rfl
theorem at2 {α : Type} (a b c : α) (r : List α) : atI (a :: b :: c :: r) 2 = some c := by
  unfold atI ixN
  rw [if_pos (by omega), if_pos (by simp; omega)]
  rfl
theorem at3 {α : Type} (a b c d : α) (r : List α) : atI (a :: b :: c :: d :: r) 3 = some d := by
  unfold atI ixN
  rw [if_pos (by omega), if_pos (by simp; omega)]
  rfl
end DL

/-! DL22: the one class, step by step. -/
namespace DL
open PySem L2
/-- the machine: table, most, book, todo, found, ended -/
def mc (T : P) (m : Int) (B TD F : List P) (e : P) : D := .ins [(.table, .p T), (.most, .p (.int m)), (.book, .ml B), (.todo, .ml TD), (.found, .ml F), (.ended, .p e)]
section
variable (C : Calls) (env : Env)
def fG (f : Fld) (s : Sl) (env : Env) : R D := match s.rd with
  | some (.ins fs) => (match lookF f fs with
    | some d => .ok d.d env
    | none => .st)
  | _ => .st
def fV (f : Fld) (s : Sl) (env : Env) : R D := match s.rd with
  | some (.ins fs) => (match lookF f fs with
    | some (.p x) => .ok (.p x) env
    | _ => .st)
  | _ => .st
theorem brw_fld (i : Nat) (f : Fld) : brw (.fld (.v i) f) env = (match (gt env i).rd with | some (.ins fs) => (lookF f fs).map D1.d | _ => none) := rfl
@[simp] theorem evB_fld (i : Nat) (f : Fld) : evB C (.fld (.v i) f) env = fG f (gt env i) env := by
  have h0 : ((den C (.v i)).v env).bind (fun d env => R.of (fldD f d) env) = .st := evV_fld f i env
  show orB (.fld (.v i) f) (den C (.fld (.v i) f)).v env = _
  have hv : (den C (.fld (.v i) f)).v env = (match brw (.fld (.v i) f) env with
    | some d => R.of (pOnly d) env
    | none => ((den C (.v i)).v env).bind fun d env => R.of (fldD f d) env) := rfl
  unfold orB
  rw [hv, h0]
  rw [brw_fld]
  unfold fG
  cases (gt env i).rd with
  | none => rfl
  | some d =>
    cases d with
    | ins fs =>
      simp only
      cases lookF f fs <;> rfl
    | _ => rfl
@[simp] theorem ev_fld (i : Nat) (f : Fld) : ev C (.fld (.v i) f) env = fV f (gt env i) env := by
  have h0 : ((den C (.v i)).v env).bind (fun d env => R.of (fldD f d) env) = .st := evV_fld f i env
  have hv : ev C (.fld (.v i) f) env = (match brw (.fld (.v i) f) env with
    | some d => R.of (pOnly d) env
    | none => ((den C (.v i)).v env).bind fun d env => R.of (fldD f d) env) := rfl
  rw [hv, h0, brw_fld]
  unfold fV
  cases (gt env i).rd with
  | none => rfl
  | some d =>
    cases d with
    | ins fs =>
      simp only
      cases lookF f fs with
      | none => rfl
      | some x => cases x <;> rfl
    | _ => rfl
def kFd (f : Fld) (d : D) (env : Env) : R D := R.of (fldD f d) env
@[simp] theorem kFd_e (f : Fld) (d : D) : kFd f d env = R.of (fldD f d) env := rfl
@[simp] theorem ev_fld_call (g : String) (es : E) (f : Fld) : ev C (.fld (.call g es) f) env = (ev C (.call g es) env).bind (kFd f) := rfl
@[simp] theorem evB_fld_call (g : String) (es : E) (f : Fld) : evB C (.fld (.call g es) f) env = (ev C (.call g es) env).bind (kFd f) := rfl
@[simp] theorem evB_ix_fld (a : E) (f : Fld) (i : E) : evB C (.ix (.fld a f) i) env = ev C (.ix (.fld a f) i) env := evB_ix_n C env rfl
@[simp] theorem evT_fld (a : E) (f : Fld) : evT C (.fld a f) env = (evB C (.fld a f) env).bind kTru := rfl
@[simp] theorem evR_fld (a : E) (f : Fld) : evR C (.fld a f) env = (asP (ev C (.fld a f) env)).bind kVa := evR_pl C env rfl
@[simp] theorem evR_mth (m : String) (a b : E) : evR C (.mth m a b) env = (asP (ev C (.mth m a b) env)).bind kVa := evR_pl C env rfl
@[simp] theorem evB_mth (m : String) (a b : E) : evB C (.mth m a b) env = ev C (.mth m a b) env := evB_pl C env rfl
@[simp] theorem evB_mk (b : E) : evB C (.mk b) env = ev C (.mk b) env := evB_pl C env rfl
/-! changes -/
def mdFk (k : D1 → Sl) (i : Nat) (o : Option (D × D)) (env : Env) : R D := match o with
  | some (r, .p x) => .ok r (env.set i (k (.p x)))
  | some (r, .ml xs) => .ok r (env.set i (k (.ml xs)))
  | _ => .st
@[simp] theorem mdFk_ml (k : D1 → Sl) (i : Nat) (r : D) (xs : List P) : mdFk k i (some (r, .ml xs)) env = .ok r (env.set i (k (.ml xs))) := rfl
@[simp] theorem mdFk_p (k : D1 → Sl) (i : Nat) (r : D) (x : P) : mdFk k i (some (r, .p x)) env = .ok r (env.set i (k (.p x))) := rfl
def mdF (i : Nat) (f : Fld) (g : D → Option (D × D)) (s : Sl) (env : Env) : R D := match s with
  | .ow (.ins fs) => (match lookF f fs with
    | some d => mdFk (fun x => .ow (.ins (putFl f x fs))) i (g d.d) env
    | none => .st)
  | .bo (.ins fs) => (match lookF f fs with
    | some d => mdFk (fun x => .bo (.ins (putFl f x fs))) i (g d.d) env
    | none => .st)
  | _ => .st
theorem modR_fld (i : Nat) (f : Fld) (g : D → Option (D × D)) : modR (.fld (.v i) f) env g = mdF i f g (gt env i) env := by
  have hm : modP (.fld (.v i) f) env g = ((gt env i).upd (inFld f g)).map fun r => (r.1, env.set i r.2) := rfl
  unfold modR
  rw [hm]
  cases gt env i with
  | ow d =>
    cases d with
    | ins fs =>
      simp only [Sl.upd, mdF, inFld]
      cases lookF f fs with
      | none => rfl
      | some d =>
        simp only
        cases g d.d with
        | none => rfl
        | some r =>
          obtain ⟨a, b⟩ := r
          cases b <;> rfl
    | _ => rfl
  | bo d =>
    cases d with
    | ins fs =>
      simp only [Sl.upd, mdF, inFld]
      cases lookF f fs with
      | none => rfl
      | some d =>
        simp only
        cases g d.d with
        | none => rfl
        | some r =>
          obtain ⟨a, b⟩ := r
          cases b <;> rfl
    | _ => rfl
  | _ => rfl
def lsF (f : Fld) (s : Sl) (r : R D) : R D := match s.rd with
  | some (.ins fs) => (match lookF f fs with
    | some (.ml _) => r
    | _ => .st)
  | _ => .st
theorem lsAt_fld (i : Nat) (f : Fld) (r : R D) : (if lsAt (.fld (.v i) f) env = true then r else .st) = lsF f (gt env i) r := by
  have hb : lsAt (.fld (.v i) f) env = (match brw (.fld (.v i) f) env with | some (.ml _) => true | some (.ne _) => true | _ => false) := rfl
  generalize lsAt (.fld (.v i) f) env = b at *
  rw [brw_fld] at hb
  unfold lsF
  cases h : (gt env i).rd with
  | none =>
    rw [h] at hb
    subst hb
    rfl
  | some d =>
    rw [h] at hb
    cases d with
    | ins fs =>
      simp only at hb ⊢
      cases h2 : lookF f fs with
      | none =>
        rw [h2] at hb
        subst hb
        rfl
      | some x =>
        rw [h2] at hb
        cases x <;> (subst hb; rfl)
    | _ =>
      subst hb
      rfl
def kMF (m : M1) (i : Nat) (f : Fld) (x : D) (env : Env) : R D := mdF i f (mut1 m x) (gt env i) env
@[simp] theorem kMF_e (m : M1) (i : Nat) (f : Fld) (x : D) : kMF m i f x env = mdF i f (mut1 m x) (gt env i) env := rfl
@[simp] theorem ev_append_fld (i : Nat) (f : Fld) (a : E) : ev C (.m1 .append (.fld (.v i) f) a) env = lsF f (gt env i) ((ev C a env).bind (kMF .append i f)) := by
  rw [← lsAt_fld]
  show (if lsAt (.fld (.v i) f) env = true then ((den C a).v env).bind fun x env => modR (.fld (.v i) f) env (mut1 .append x) else .st) = _
  split
  · refine R.bind_congr _ _ _ fun x e => ?_
    rw [modR_fld]
    rfl
  · rfl
@[simp] theorem ev_pop_fld (i : Nat) (f : Fld) : ev C (.m0 .pop (.fld (.v i) f)) env = mdF i f (mut0 .pop) (gt env i) env := by
  rw [← modR_fld]
  rfl
/-! methods, new ones -/
def recG (s : Sl) (r : R D) : R D := match s.rd with
  | some (.ins _) => r
  | _ => .st
def kMth (m : String) (r : AV) (as : List AV) (env : Env) : R D := doMeth C m (r :: as) env
@[simp] theorem kMth_e (m : String) (r : AV) (as : List AV) : kMth C m r as env = doMeth C m (r :: as) env := rfl
@[simp] theorem ev_mth_v (m : String) (i : Nat) (es : E) : ev C (.mth m (.v i) es) env = recG (gt env i) ((evA C es env).bind (kMth C m (.br i))) := by
  show (if recS (.br i) env = true then ((den C es).a env).bind fun as env => doMeth C m (.br i :: as) env else .st) = _
  have hb : recS (.br i) env = (match (gt env i).rd with | some (.ins _) => true | _ => false) := rfl
  generalize recS (.br i) env = b at *
  unfold recG
  cases h : (gt env i).rd with
  | none =>
    rw [h] at hb
    subst hb
    rfl
  | some d =>
    rw [h] at hb
    cases d <;> (subst hb; rfl)
@[simp] theorem ev_mth_rw (m : String) (i : Nat) (es : E) : ev C (.mth m (.rw i) es) env = recG (gt env i) ((evA C es env).bind (kMth C m (.rr i))) := by
  show (if recS (.rr i) env = true then ((den C es).a env).bind fun as env => doMeth C m (.rr i :: as) env else .st) = _
  have hb : recS (.rr i) env = (match (gt env i).rd with | some (.ins _) => true | _ => false) := rfl
  generalize recS (.rr i) env = b at *
  unfold recG
  cases h : (gt env i).rd with
  | none =>
    rw [h] at hb
    subst hb
    rfl
  | some d =>
    rw [h] at hb
    cases d <;> (subst hb; rfl)
def kMk (as : List AV) (env : Env) : R D := doMake C as env
@[simp] theorem kMk_e (as : List AV) : kMk C as env = doMake C as env := rfl
@[simp] theorem ev_mk (es : E) : ev C (.mk es) env = (evA C es env).bind (kMk C) := rfl
/-! attributes set -/
def kSF (i : Nat) (f : Fld) (d : D) (env : Env) : RS := (R.of d.d1 env).go fun x env => modS (.v i) env (setFd f x)
theorem kSF_p0 (i : Nat) (f : Fld) (x : P) : kSF i f (.p x) env = modS (.v i) env (setFd f (.p x)) := by
  show (R.of (some (D1.p x)) env).go _ = _
  rw [R.of_some]
  rfl
theorem kSF_ml0 (i : Nat) (f : Fld) (x : List P) : kSF i f (.ml x) env = modS (.v i) env (setFd f (.ml x)) := by
  show (R.of (some (D1.ml x)) env).go _ = _
  rw [R.of_some]
  rfl
@[simp] theorem kSF_p (i : Nat) (f : Fld) (x : P) : kSF i f (.p x) env = modVS i (setFd f (.p x)) (gt env i) env := by rw [kSF_p0, modS_v]
@[simp] theorem kSF_ml (i : Nat) (f : Fld) (x : List P) : kSF i f (.ml x) env = modVS i (setFd f (.ml x)) (gt env i) env := by rw [kSF_ml0, modS_v]
@[simp] theorem ex_setF (i : Nat) (f : Fld) (e : E) : exec C (.setF i f e) env = (ev C e env).go (kSF i f) := rfl
/-! the machine -/
variable (T : P) (m : Int) (B TD F : List P) (e : P)
@[simp] theorem fG_ro (f : Fld) (d : D) : fG f (.ro d) env = fG f (.bo d) env := rfl
@[simp] theorem fG_ow (f : Fld) (d : D) : fG f (.ow d) env = fG f (.bo d) env := rfl
@[simp] theorem fV_ro (f : Fld) (d : D) : fV f (.ro d) env = fV f (.bo d) env := rfl
@[simp] theorem fV_ow (f : Fld) (d : D) : fV f (.ow d) env = fV f (.bo d) env := rfl
@[simp] theorem fG_table : fG .table (.bo (mc T m B TD F e)) env = .ok (.p T) env := rfl
@[simp] theorem fG_most : fG .most (.bo (mc T m B TD F e)) env = .ok (.p (.int m)) env := rfl
@[simp] theorem fG_book : fG .book (.bo (mc T m B TD F e)) env = .ok (.ml B) env := rfl
@[simp] theorem fG_todo : fG .todo (.bo (mc T m B TD F e)) env = .ok (.ml TD) env := rfl
@[simp] theorem fG_found : fG .found (.bo (mc T m B TD F e)) env = .ok (.ml F) env := rfl
@[simp] theorem fG_ended : fG .ended (.bo (mc T m B TD F e)) env = .ok (.p e) env := rfl
@[simp] theorem fV_table : fV .table (.bo (mc T m B TD F e)) env = .ok (.p T) env := rfl
@[simp] theorem fV_most : fV .most (.bo (mc T m B TD F e)) env = .ok (.p (.int m)) env := rfl
@[simp] theorem fV_ended : fV .ended (.bo (mc T m B TD F e)) env = .ok (.p e) env := rfl
@[simp] theorem fldD_book : fldD .book (mc T m B TD F e) = some (.ml B) := rfl
@[simp] theorem lsF_bo_book (r : R D) : lsF .book (.bo (mc T m B TD F e)) r = r := rfl
@[simp] theorem lsF_bo_todo (r : R D) : lsF .todo (.bo (mc T m B TD F e)) r = r := rfl
@[simp] theorem lsF_bo_found (r : R D) : lsF .found (.bo (mc T m B TD F e)) r = r := rfl
@[simp] theorem recG_bo (r : R D) : recG (.bo (mc T m B TD F e)) r = r := rfl
@[simp] theorem recG_ow (r : R D) : recG (.ow (mc T m B TD F e)) r = r := rfl
def bkK (T : P) (m : Int) (TD F : List P) (e : P) (x : D1) : Sl := match x with | .ml B => .bo (mc T m B TD F e) | x => .bo (.ins [(.table, .p T), (.most, .p (.int m)), (.book, x), (.todo, .ml TD), (.found, .ml F), (.ended, .p e)])
def tdK (T : P) (m : Int) (B F : List P) (e : P) (x : D1) : Sl := match x with | .ml TD => .bo (mc T m B TD F e) | x => .bo (.ins [(.table, .p T), (.most, .p (.int m)), (.book, .ml B), (.todo, x), (.found, .ml F), (.ended, .p e)])
def fdK (T : P) (m : Int) (B TD : List P) (e : P) (x : D1) : Sl := match x with | .ml F => .bo (mc T m B TD F e) | x => .bo (.ins [(.table, .p T), (.most, .p (.int m)), (.book, .ml B), (.todo, .ml TD), (.found, x), (.ended, .p e)])
@[simp] theorem bkK_ml (xs : List P) : bkK T m TD F e (.ml xs) = .bo (mc T m xs TD F e) := rfl
@[simp] theorem tdK_ml (xs : List P) : tdK T m B F e (.ml xs) = .bo (mc T m B xs F e) := rfl
@[simp] theorem fdK_ml (xs : List P) : fdK T m B TD e (.ml xs) = .bo (mc T m B TD xs e) := rfl
@[simp] theorem mdF_book (i : Nat) (g : D → Option (D × D)) : mdF i .book g (.bo (mc T m B TD F e)) env = mdFk (bkK T m TD F e) i (g (.ml B)) env := by
  have h : ∀ o, mdFk (fun x => .bo (.ins (putFl .book x [(.table, .p T), (.most, .p (.int m)), (.book, .ml B), (.todo, .ml TD), (.found, .ml F), (.ended, .p e)]))) i o env = mdFk (bkK T m TD F e) i o env := fun o => by
    cases o with
    | none => rfl
    | some r =>
      obtain ⟨a, b⟩ := r
      cases b <;> rfl
  exact h (g (.ml B))
@[simp] theorem mdF_todo (i : Nat) (g : D → Option (D × D)) : mdF i .todo g (.bo (mc T m B TD F e)) env = mdFk (tdK T m B F e) i (g (.ml TD)) env := by
  have h : ∀ o, mdFk (fun x => .bo (.ins (putFl .todo x [(.table, .p T), (.most, .p (.int m)), (.book, .ml B), (.todo, .ml TD), (.found, .ml F), (.ended, .p e)]))) i o env = mdFk (tdK T m B F e) i o env := fun o => by
    cases o with
    | none => rfl
    | some r =>
      obtain ⟨a, b⟩ := r
      cases b <;> rfl
  exact h (g (.ml TD))
@[simp] theorem mdF_found (i : Nat) (g : D → Option (D × D)) : mdF i .found g (.bo (mc T m B TD F e)) env = mdFk (fdK T m B TD e) i (g (.ml F)) env := by
  have h : ∀ o, mdFk (fun x => .bo (.ins (putFl .found x [(.table, .p T), (.most, .p (.int m)), (.book, .ml B), (.todo, .ml TD), (.found, .ml F), (.ended, .p e)]))) i o env = mdFk (fdK T m B TD e) i o env := fun o => by
    cases o with
    | none => rfl
    | some r =>
      obtain ⟨a, b⟩ := r
      cases b <;> rfl
  exact h (g (.ml F))
@[simp] theorem setFd_ended (x : P) : setFd .ended (.p x) (mc T m B TD F e) = some (nonD, mc T m B TD F x) := rfl
@[simp] theorem setFd_found (x : List P) : setFd .found (.ml x) (mc T m B TD F e) = some (nonD, mc T m B TD x e) := rfl
@[simp] theorem setFd_0 (x : P) : setFd .table (.p x) (.ins []) = some (nonD, .ins [(.table, .p x)]) := rfl
@[simp] theorem setFd_1 (x : P) : setFd .most (.p x) (.ins [(.table, .p T)]) = some (nonD, .ins [(.table, .p T), (.most, .p x)]) := rfl
@[simp] theorem setFd_2 (x : List P) (y : D1) : setFd .book (.ml x) (.ins [(.table, .p T), (.most, y)]) = some (nonD, .ins [(.table, .p T), (.most, y), (.book, .ml x)]) := rfl
@[simp] theorem setFd_3 (x : List P) (y : D1) : setFd .todo (.ml x) (.ins [(.table, .p T), (.most, y), (.book, .ml B)]) = some (nonD, .ins [(.table, .p T), (.most, y), (.book, .ml B), (.todo, .ml x)]) := rfl
@[simp] theorem setFd_4 (x : List P) (y : D1) : setFd .found (.ml x) (.ins [(.table, .p T), (.most, y), (.book, .ml B), (.todo, .ml TD)]) = some (nonD, .ins [(.table, .p T), (.most, y), (.book, .ml B), (.todo, .ml TD), (.found, .ml x)]) := rfl
@[simp] theorem setFd_5 (x : P) (y : D1) : setFd .ended (.p x) (.ins [(.table, .p T), (.most, y), (.book, .ml B), (.todo, .ml TD), (.found, .ml F)]) = some (nonD, .ins [(.table, .p T), (.most, y), (.book, .ml B), (.todo, .ml TD), (.found, .ml F), (.ended, .p x)]) := rfl
end
/-! method calls -/
section
variable {Γ : Tbl} {n w : Nat} {f : String} {i : Nat} {env : Env} {d d' z : D}
theorem meth0 {o : Env} (hr : run Γ n f [.bo d] = .ok z [.bo d']) (h : gt env i = .bo d) : doMeth ⟨run Γ n, w⟩ f [.br i] env = .ok z (env.set i (.bo d')) := by
  simp [doMeth, lentOnce, slotsOf, slotOf, giveBack, hr, h]
theorem meth2 {x y : P} {o1 o2 : Sl} (hr : run Γ n f [.bo d, .ow (.p x), .ow (.p y)] = .ok z [.bo d', o1, o2]) (h : gt env i = .bo d) : doMeth ⟨run Γ n, w⟩ f [.br i, .va (.p x), .va (.p y)] env = .ok z (env.set i (.bo d')) := by
  simp [doMeth, lentOnce, slotsOf, slotOf, giveBack, hr, h]
theorem meth3 {x y u : P} {o1 o2 o3 : Sl} (hr : run Γ n f [.bo d, .ow (.p x), .ow (.p y), .ow (.p u)] = .ok z [.bo d', o1, o2, o3]) (h : gt env i = .bo d) : doMeth ⟨run Γ n, w⟩ f [.br i, .va (.p x), .va (.p y), .va (.p u)] env = .ok z (env.set i (.bo d')) := by
  simp [doMeth, lentOnce, slotsOf, slotOf, giveBack, hr, h]
theorem meth4 {x y u v : P} {o1 o2 o3 o4 : Sl} (hr : run Γ n f [.bo d, .ow (.p x), .ow (.p y), .ow (.p u), .ow (.p v)] = .ok z [.bo d', o1, o2, o3, o4]) (h : gt env i = .bo d) : doMeth ⟨run Γ n, w⟩ f [.br i, .va (.p x), .va (.p y), .va (.p u), .va (.p v)] env = .ok z (env.set i (.bo d')) := by
  simp [doMeth, lentOnce, slotsOf, slotOf, giveBack, hr, h]
theorem methR2 {x y : P} {o0 o1 o2 : Sl} (hr : run Γ n f [.ro d, .ow (.p x), .ow (.p y)] = .ok z [o0, o1, o2]) (h : (gt env i).rd = some d) : doMeth ⟨run Γ n, w⟩ f [.rr i, .va (.p x), .va (.p y)] env = .ok z env := by
  simp [doMeth, lentOnce, slotsOf, slotOf, giveBack, hr, h]
end
end DL

namespace K04
open PySem PySem.Spec PyProof.Rows L2 DL
def top (i : Nat) : Stmt := PySem.Challenge.pw_errandend_k04_looked_through.main.body.getD i (.Pass ⟨0, 0, 0, 0⟩)
def t_parts_of : FD := ⟨1, 1, (.seq (.ite (.orr (.cmp .eq (.ix (.v 0) (.k (.int 0))) (.k (.str "name"))) (.cmp .eq (.ix (.v 0) (.k (.int 0))) (.k (.str "bud")))) (.seq (.ret (.fr (.lst .nil)))
    .skip) .skip)
    (.seq (.ite (.cmp .eq (.ix (.v 0) (.k (.int 0))) (.k (.str "send"))) (.seq (.ret (.fr (.b1 .list (.ix (.v 0) (.k (.int 2))))))
    .skip) .skip)
    (.seq (.ret (.fr (.b1 .list (.sl (.v 0) (.k (.int 1)) .no))))
    .skip)))⟩
def d_parts_of : Df := ⟨"parts_of", top 6, ["saying"], ["saying"], t_parts_of⟩
def w_counts_of_1 : S := (.seq (.setI (.v 1) (.ix (.v 2) (.k (.int 0))) (.b1 .len (.ix (.v 2) (.k (.int 1)))))
    .skip)
def t_counts_of : FD := ⟨1, 3, (.seq (.set 1 (.dc false))
    (.seq (.for1 2 (.v 0) w_counts_of_1)
    (.seq (.ret (.fz 1))
    .skip)))⟩
def d_counts_of : Df := ⟨"counts_of", top 7, ["program", "counts", "errand"], ["program"], t_counts_of⟩
def w_looked_saying_1 : S := (.seq (.set 3 (.bin .add (.v 3) (.call "looked_saying" (.cons (.v 4) (.cons (.v 1) (.cons (.v 2) .nil))))))
    .skip)
def t_looked_saying : FD := ⟨3, 5, (.seq (.set 3 (.k (.int 0)))
    (.seq (.ite (.an (.cmp .eq (.ix (.v 0) (.k (.int 0))) (.k (.str "name"))) (.cmp .nin (.ix (.v 0) (.k (.int 1))) (.v 1))) (.seq (.rai "NoSuch" "a name is no parameter")
    .skip) .skip)
    (.seq (.ite (.cmp .eq (.ix (.v 0) (.k (.int 0))) (.k (.str "send"))) (.seq (.ite (.cmp .nin (.ix (.v 0) (.k (.int 1))) (.v 2)) (.seq (.rai "NoSuch" "an errand is not there")
    .skip) .skip)
    (.seq (.ite (.cmp .ne (.b1 .len (.ix (.v 0) (.k (.int 2)))) (.ix (.v 2) (.ix (.v 0) (.k (.int 1))))) (.seq (.rai "WrongCount" "an errand is sent with too few or too many")
    .skip) .skip)
    (.seq (.set 3 (.k (.int 1)))
    .skip))) .skip)
    (.seq (.for1 4 (.call "parts_of" (.cons (.v 0) .nil)) w_looked_saying_1)
    (.seq (.ret (.v 3))
    .skip)))))⟩
def d_looked_saying : Df := ⟨"looked_saying", top 8, ["saying", "params", "counts", "many", "part"], ["saying", "params", "counts"], t_looked_saying⟩
def w_looked_1 : S := (.seq (.set 3 (.bin .add (.v 3) (.call "looked_saying" (.cons (.ix (.v 2) (.k (.int 2))) (.cons (.ix (.v 2) (.k (.int 1))) (.cons (.v 1) .nil))))))
    .skip)
def w_looked_2 : S := (.seq (.ite (.cmp .ne (.lns (.ix (.v 2) (.k (.int 1)))) (.b1 .len (.ix (.v 2) (.k (.int 1))))) (.seq (.rai "Twice" "two parameters have one name")
    .skip) .skip)
    .skip)
def t_looked : FD := ⟨1, 4, (.seq (.set 1 (.call "counts_of" (.cons (.v 0) .nil)))
    (.seq (.ite (.cmp .ne (.b1 .len (.v 1)) (.b1 .len (.v 0))) (.seq (.rai "Twice" "two errands have one name")
    .skip) .skip)
    (.seq (.for1 2 (.v 0) w_looked_2)
    (.seq (.set 3 (.k (.int 0)))
    (.seq (.for1 2 (.v 0) w_looked_1)
    (.seq (.ret (.v 3))
    .skip))))))⟩
def d_looked : Df := ⟨"looked", top 9, ["program", "counts", "errand", "many"], ["program"], t_looked⟩
def t__law_cell_at : FD := ⟨2, 2, (.seq (.ite (.cmp .lt (.v 1) (.b1 .len (.v 0))) (.seq (.ret (.ix (.v 0) (.v 1)))
    .skip) .skip)
    (.seq (.ret (.k (.int 0)))
    .skip))⟩
def d__law_cell_at : Df := ⟨"_law_cell_at", top 11, ["script", "k"], ["script", "k"], t__law_cell_at⟩
def t__law_whole : FD := ⟨1, 1, (.seq (.ret (.an (.isi (.v 0) [.int] true) (.nt (.isi (.v 0) [.bool] true))))
    .skip)⟩
def d__law_whole : Df := ⟨"_law_whole", top 12, ["found"], ["found"], t__law_whole⟩
def w__law_names_1 : S := (.seq (.set 2 (.bin .add (.v 2) (.ix (.k (.str "abcdefghijklmnopqrstuvwxyz")) (.bin .mod (.v 3) (.k (.int 26))))))
    (.seq (.set 3 (.bin .fdiv (.v 3) (.k (.int 26))))
    .skip))
def t__law_names : FD := ⟨2, 8, (.seq (.set 2 (.k (.str "")))
    (.seq (.set 3 (.bin .fdiv (.v 0) (.k (.int 8))))
    (.seq (.for1 4 (.rg1 (.bin .mod (.v 0) (.k (.int 8)))) w__law_names_1)
    (.seq (.set 5 (.bin .mod (.bin .fdiv (.v 0) (.k (.int 11))) (.bin .add (.b1 .len (.v 2)) (.k (.int 1)))))
    (.seq (.setC 6 (.fr (.bin .add (.bin .add (.sl (.v 2) .no (.v 5)) (.ix (.k (.str "abcdefghijkl")) (.v 4))) (.sl (.v 2) (.v 5) .no))) 4 (.rg1 (.v 1)) .nil) (.seq (.gh 6)
    (.seq (.ite (.an (.cmp .lt (.v 1) (.k (.int 5))) (.cmp .eq (.bin .mod (.bin .fdiv (.v 0) (.k (.int 17))) (.k (.int 3))) (.k (.int 1)))) (.seq (.setC 6 (.fr (.bin .add (.sl (.v 2) .no (.k (.int 4))) (.sl (.k (.str "abcd")) .no (.bin .add (.v 4) (.k (.int 1)))))) 4 (.rg1 (.v 1)) .nil) (.seq (.gh 6)
    .skip)) .skip)
    (.seq (.ite (.an (.cmp .lt (.v 1) (.k (.int 5))) (.cmp .eq (.bin .mod (.bin .fdiv (.v 0) (.k (.int 17))) (.k (.int 3))) (.k (.int 2)))) (.seq (.setC 6 (.fr (.bin .add (.sl (.k (.str "abcd")) (.bin .sub (.k (.int 3)) (.v 4)) .no) (.sl (.v 2) .no (.k (.int 4))))) 4 (.rg1 (.v 1)) .nil) (.seq (.gh 6)
    .skip)) .skip)
    (.seq (.set 7 (.bin .mod (.bin .fdiv (.v 0) (.k (.int 13))) (.v 1)))
    (.seq (.ret (.fr (.bin .add (.sl (.v 6) (.v 7) .no) (.sl (.v 6) .no (.v 7)))))
    .skip))))))))))⟩
def d__law_names : Df := ⟨"_law_names", top 13, ["cell", "many", "base", "left", "k", "place", "found", "turn"], ["cell", "many"], t__law_names⟩
def t__law_next : FD := ⟨2, 2, (.seq (.setI (.v 1) (.k (.int 0)) (.bin .add (.ix (.v 1) (.k (.int 0))) (.k (.int 1))))
    (.seq (.ret (.call "_law_cell_at" (.cons (.rw 0) (.cons (.bin .sub (.ix (.v 1) (.k (.int 0))) (.k (.int 1))) .nil))))
    .skip))⟩
def d__law_next : Df := ⟨"_law_next", top 14, ["script", "spot"], ["script", "spot"], t__law_next⟩
def t__law_saying : FD := ⟨6, 12, (.seq (.set 6 (.call "_law_next" (.cons (.rw 0) (.cons (.bw 1) .nil))))
    (.seq (.set 7 (.bin .mod (.v 6) (.k (.int 9))))
    (.seq (.ite (.orr (.cmp .lt (.v 5) (.k (.int 2))) (.cmp .eq (.v 7) (.k (.int 0)))) (.seq (.ret (.tup (.cons (.k (.str "name")) (.cons (.ix (.v 4) (.bin .mod (.bin .fdiv (.v 6) (.k (.int 9))) (.b1 .len (.v 4)))) .nil))))
    .skip) .skip)
    (.seq (.ite (.cmp .eq (.v 7) (.k (.int 1))) (.seq (.ret (.tup (.cons (.k (.str "bud")) .nil)))
    .skip) .skip)
    (.seq (.ite (.orr (.cmp .eq (.v 7) (.k (.int 2))) (.cmp .eq (.v 7) (.k (.int 3)))) (.seq (.ret (.tup (.cons (.ix (.lst (.cons (.k (.str "left")) (.cons (.k (.str "right")) .nil))) (.bin .sub (.v 7) (.k (.int 2)))) (.cons (.call "_law_saying" (.cons (.rw 0) (.cons (.bw 1) (.cons (.v 2) (.cons (.v 3) (.cons (.v 4) (.cons (.bin .sub (.v 5) (.k (.int 1))) .nil))))))) .nil))))
    .skip) .skip)
    (.seq (.set 8 (.k (.int 2)))
    (.seq (.ite (.orr (.cmp .eq (.v 7) (.k (.int 5))) (.cmp .eq (.v 7) (.k (.int 6)))) (.seq (.set 8 (.k (.int 3)))
    .skip) .skip)
    (.seq (.set 9 (.bin .mod (.bin .fdiv (.v 6) (.k (.int 9))) (.b1 .len (.v 2))))
    (.seq (.ite (.cmp .gt (.v 7) (.k (.int 6))) (.seq (.ite (.cmp .eq (.ix (.v 1) (.k (.int 1))) (.k (.int 0))) (.seq (.ret (.tup (.cons (.k (.str "bud")) .nil)))
    .skip) .skip)
    (.seq (.setI (.v 1) (.k (.int 1)) (.bin .sub (.ix (.v 1) (.k (.int 1))) (.k (.int 1))))
    (.seq (.set 8 (.ix (.v 3) (.v 9)))
    .skip))) .skip)
    (.seq (.set 10 (.b1 .tuple (.lc (.call "_law_saying" (.cons (.rw 0) (.cons (.bw 1) (.cons (.v 2) (.cons (.v 3) (.cons (.v 4) (.cons (.bin .sub (.v 5) (.k (.int 1))) .nil))))))) 11 (.rg1 (.v 8)) .nil)))
    (.seq (.ite (.cmp .eq (.v 7) (.k (.int 4))) (.seq (.ret (.bin .add (.tup (.cons (.k (.str "pair")) .nil)) (.v 10)))
    .skip) .skip)
    (.seq (.ite (.cmp .lt (.v 7) (.k (.int 7))) (.seq (.ret (.bin .add (.tup (.cons (.k (.str "fork")) .nil)) (.v 10)))
    .skip) .skip)
    (.seq (.ret (.tup (.cons (.k (.str "send")) (.cons (.ix (.v 2) (.v 9)) (.cons (.v 10) .nil)))))
    .skip)))))))))))))⟩
def d__law_saying : Df := ⟨"_law_saying", top 15, ["script", "spot", "names", "counts", "params", "deep", "cell", "kind", "parts", "to", "row", "k"], ["script", "spot", "names", "counts", "params", "deep"], t__law_saying⟩
def w__law_drawn_1 : S := (.seq (.set 11 (.b1 .tuple (.sl (.bin .add (.sl (.v 7) (.bin .mod (.v 10) (.k (.int 4))) .no) (.sl (.v 7) .no (.bin .mod (.v 10) (.k (.int 4))))) .no (.ix (.v 8) (.v 10)))))
    (.seq (.ex (.m1 .append (.v 9) (.tup (.cons (.ix (.v 6) (.v 10)) (.cons (.v 11) (.cons (.call "_law_saying" (.cons (.rw 0) (.cons (.bw 1) (.cons (.v 6) (.cons (.v 8) (.cons (.v 11) (.cons (.v 3) .nil))))))) .nil))))))
    .skip))
def t__law_drawn : FD := ⟨4, 12, (.seq (.set 4 (.call "_law_next" (.cons (.rw 0) (.cons (.bw 1) .nil))))
    (.seq (.set 5 (.bin .add (.k (.int 1)) (.bin .mod (.v 4) (.v 2))))
    (.seq (.set 6 (.call "_law_names" (.cons (.bin .mod (.bin .fdiv (.v 4) (.v 2)) (.bin .pow (.k (.int 10)) (.k (.int 14)))) (.cons (.v 5) .nil))))
    (.seq (.set 7 (.call "_law_names" (.cons (.bin .mod (.call "_law_next" (.cons (.rw 0) (.cons (.bw 1) .nil))) (.bin .pow (.k (.int 10)) (.k (.int 14)))) (.cons (.k (.int 4)) .nil))))
    (.seq (.setC 8 (.bin .add (.k (.int 1)) (.bin .mod (.bin .fdiv (.v 4) (.bin .mul (.k (.int 7)) (.bin .add (.v 10) (.k (.int 1))))) (.k (.int 4)))) 10 (.rg1 (.v 5)) .nil) (.seq (.gh 8)
    (.seq (.set 9 (.lst .nil))
    (.seq (.for1 10 (.rg1 (.v 5)) w__law_drawn_1)
    (.seq (.ret (.fz 9))
    .skip)))))))))⟩
def d__law_drawn : Df := ⟨"_law_drawn", top 16, ["script", "spot", "most", "deep", "head", "many", "names", "params", "counts", "program", "k", "mine"], ["script", "spot", "most", "deep"], t__law_drawn⟩
def t__law_spoilt : FD := ⟨3, 4, (.seq (.ite (.orr (.cmp .lt (.ix (.v 1) (.k (.int 0))) (.k (.int 0))) (.cmp .eq (.ix (.v 0) (.k (.int 0))) (.k (.str "bud")))) (.seq (.ret (.v 0))
    .skip) .skip)
    (.seq (.setI (.v 1) (.k (.int 0)) (.bin .sub (.ix (.v 1) (.k (.int 0))) (.k (.int 1))))
    (.seq (.ite (.cmp .eq (.ix (.v 0) (.k (.int 0))) (.k (.str "name"))) (.seq (.ite (.cmp .lt (.ix (.v 1) (.k (.int 0))) (.k (.int 0))) (.seq (.ret (.tup (.cons (.k (.str "name")) (.cons (.ix (.v 1) (.k (.int 1))) .nil))))
    .skip) .skip)
    (.seq (.ret (.v 0))
    .skip)) .skip)
    (.seq (.ite (.cmp .eq (.ix (.v 0) (.k (.int 0))) (.k (.str "send"))) (.seq (.ite (.an (.cmp .lt (.ix (.v 1) (.k (.int 0))) (.k (.int 0))) (.cmp .eq (.v 2) (.k (.int 0)))) (.seq (.ret (.tup (.cons (.k (.str "send")) (.cons (.k (.str "qq")) (.cons (.ix (.v 0) (.k (.int 2))) .nil)))))
    .skip) .skip)
    (.seq (.ite (.an (.cmp .lt (.ix (.v 1) (.k (.int 0))) (.k (.int 0))) (.cmp .eq (.b1 .len (.ix (.v 0) (.k (.int 2)))) (.k (.int 1)))) (.seq (.ret (.tup (.cons (.k (.str "send")) (.cons (.ix (.v 0) (.k (.int 1))) (.cons (.bin .add (.ix (.v 0) (.k (.int 2))) (.tup (.cons (.tup (.cons (.k (.str "bud")) .nil)) .nil))) .nil)))))
    .skip) .skip)
    (.seq (.ite (.cmp .lt (.ix (.v 1) (.k (.int 0))) (.k (.int 0))) (.seq (.ret (.tup (.cons (.k (.str "send")) (.cons (.ix (.v 0) (.k (.int 1))) (.cons (.fr (.sl (.ix (.v 0) (.k (.int 2))) .no (.neg (.k (.int 1))))) .nil)))))
    .skip) .skip)
    (.seq (.ret (.tup (.cons (.k (.str "send")) (.cons (.ix (.v 0) (.k (.int 1))) (.cons (.b1 .tuple (.lc (.call "_law_spoilt" (.cons (.v 3) (.cons (.bw 1) (.cons (.v 2) .nil)))) 3 (.ix (.v 0) (.k (.int 2))) .nil)) .nil)))))
    .skip)))) .skip)
    (.seq (.ret (.bin .add (.tup (.cons (.ix (.v 0) (.k (.int 0))) .nil)) (.b1 .tuple (.lc (.call "_law_spoilt" (.cons (.v 3) (.cons (.bw 1) (.cons (.v 2) .nil)))) 3 (.fr (.sl (.v 0) (.k (.int 1)) .no)) .nil))))
    .skip)))))⟩
def d__law_spoilt : Df := ⟨"_law_spoilt", top 17, ["saying", "at", "way", "one"], ["saying", "at", "way"], t__law_spoilt⟩
def w__law_first_1 : S := (.seq (.ex (.call "_law_first" (.cons (.v 4) (.cons (.v 1) (.cons (.v 2) (.cons (.bw 3) .nil))))))
    .skip)
def w__law_first_2 : S := (.seq (.ex (.call "_law_first" (.cons (.v 4) (.cons (.v 1) (.cons (.v 2) (.cons (.bw 3) .nil))))))
    .skip)
def t__law_first : FD := ⟨4, 5, (.seq (.ite (.an (.cmp .eq (.ix (.v 0) (.k (.int 0))) (.k (.str "name"))) (.cmp .nin (.ix (.v 0) (.k (.int 1))) (.v 1))) (.seq (.ex (.m1 .append (.v 3) (.k (.str "such"))))
    .skip) .skip)
    (.seq (.ite (.cmp .eq (.ix (.v 0) (.k (.int 0))) (.k (.str "send"))) (.seq (.ex (.m1 .append (.v 3) (.k (.str "send"))))
    (.seq (.ite (.cmp .nin (.ix (.v 0) (.k (.int 1))) (.v 2)) (.seq (.ex (.m1 .append (.v 3) (.k (.str "such"))))
    .skip) (.seq (.ite (.cmp .ne (.b1 .len (.ix (.v 0) (.k (.int 2)))) (.ix (.v 2) (.ix (.v 0) (.k (.int 1))))) (.seq (.ex (.m1 .append (.v 3) (.k (.str "count"))))
    .skip) .skip)
    .skip))
    (.seq (.for1 4 (.ix (.v 0) (.k (.int 2))) w__law_first_2)
    .skip))) .skip)
    (.seq (.ite (.cmp .in_ (.ix (.v 0) (.k (.int 0))) (.tup (.cons (.k (.str "pair")) (.cons (.k (.str "left")) (.cons (.k (.str "right")) (.cons (.k (.str "fork")) .nil)))))) (.seq (.for1 4 (.fr (.sl (.v 0) (.k (.int 1)) .no)) w__law_first_1)
    .skip) .skip)
    .skip)))⟩
def d__law_first : Df := ⟨"_law_first", top 18, ["saying", "params", "counts", "found", "one"], ["saying", "params", "counts", "found"], t__law_first⟩
def w__law_due_1 : S := (.seq (.ex (.call "_law_first" (.cons (.ix (.v 2) (.k (.int 2))) (.cons (.ix (.v 2) (.k (.int 1))) (.cons (.v 3) (.cons (.bw 4) .nil))))))
    .skip)
def w__law_due_2 : S := (.seq (.setI (.v 3) (.ix (.v 2) (.k (.int 0))) (.b1 .len (.ix (.v 2) (.k (.int 1)))))
    .skip)
def w__law_due_3 : S := (.seq (.ite (.orr (.cmp .gt (.m1 .count (.v 1) (.ix (.v 2) (.k (.int 0)))) (.k (.int 1))) (.cmp .lt (.lns (.ix (.v 2) (.k (.int 1)))) (.b1 .len (.ix (.v 2) (.k (.int 1)))))) (.seq (.ret (.k (.str "twice")))
    .skip) .skip)
    .skip)
def t__law_due : FD := ⟨1, 7, (.seq (.setC 1 (.ix (.v 2) (.k (.int 0))) 2 (.v 0) .nil) (.seq (.gh 1)
    (.seq (.for1 2 (.v 0) w__law_due_3)
    (.seq (.set 3 (.dc false))
    (.seq (.for1 2 (.v 0) w__law_due_2)
    (.seq (.set 4 (.lst .nil))
    (.seq (.gh 3) (.seq (.for1 2 (.v 0) w__law_due_1)
    (.seq (.gh 4) (.seq (.setC 5 (.v 6) 6 (.v 4) (.cmp .ne (.v 6) (.k (.str "send")))) (.seq (.gh 5)
    (.seq (.ite (.v 5) (.seq (.ret (.ix (.v 5) (.k (.int 0))))
    .skip) .skip)
    (.seq (.ret (.b1 .len (.v 4)))
    .skip)))))))))))))⟩
def d__law_due : Df := ⟨"_law_due", top 19, ["program", "names", "errand", "counts", "found", "faults", "one"], ["program"], t__law_due⟩
def t__law_asked : FD := ⟨1, 3, (.seq (.set 1 (.k (.str "")))
    (.seq (.try3 (.seq (.set 1 (.call "looked" (.cons (.v 0) .nil)))
    .skip) ["NoSuch", "WrongCount", "Twice"] 2 "Twice" "NoSuch" "WrongCount" (.seq (.set 1 (.ife (.an (.isi (.v 2) [(.xc "ErrandError")] true) (.nt (.isi (.v 2) [(.xc "NoSuch"), (.xc "WrongCount")] false))) (.k (.str "twice")) (.k (.str ""))))
    .skip) (.seq (.set 1 (.ife (.an (.isi (.v 2) [(.xc "ErrandError")] true) (.nt (.isi (.v 2) [(.xc "WrongCount")] true))) (.k (.str "such")) (.k (.str ""))))
    .skip) (.seq (.set 1 (.ife (.isi (.v 2) [(.xc "ErrandError")] true) (.k (.str "count")) (.k (.str ""))))
    .skip))
    (.seq (.ret (.v 1))
    .skip)))⟩
def d__law_asked : Df := ⟨"_law_asked", top 20, ["program", "told", "e"], ["program"], t__law_asked⟩
def w__law_wrong_1 : S := (.seq (.set 7 (.fr (.bin .add (.v 7) (.b1 .list (.ix (.v 8) (.k (.int 1)))))))
    .skip)
def t__law_wrong : FD := ⟨3, 10, (.seq (.set 3 (.bin .mod (.v 2) (.b1 .len (.v 0))))
    (.seq (.set 4 (.ix (.v 0) (.v 3)))
    (.seq (.set 5 (.ix (.v 0) (.bin .mod (.bin .fdiv (.v 2) (.k (.int 4))) (.b1 .len (.v 0)))))
    (.seq (.ite (.cmp .eq (.v 1) (.k (.int 1))) (.seq (.set 4 (.tup (.cons (.ix (.v 5) (.k (.int 0))) (.cons (.ix (.v 4) (.k (.int 1))) (.cons (.ix (.v 4) (.k (.int 2))) .nil)))))
    .skip) .skip)
    (.seq (.ite (.cmp .eq (.v 1) (.k (.int 2))) (.seq (.set 6 (.b1 .list (.ix (.v 4) (.k (.int 1)))))
    (.seq (.setI (.v 6) (.bin .mod (.bin .fdiv (.v 2) (.k (.int 16))) (.b1 .len (.v 6))) (.ix (.v 6) (.bin .mod (.bin .fdiv (.v 2) (.k (.int 64))) (.b1 .len (.v 6)))))
    (.seq (.set 4 (.tup (.cons (.ix (.v 4) (.k (.int 0))) (.cons (.b1 .tuple (.v 6)) (.cons (.ix (.v 4) (.k (.int 2))) .nil)))))
    .skip))) .skip)
    (.seq (.ite (.cmp .gt (.v 1) (.k (.int 2))) (.seq (.set 7 (.fr (.lst (.cons (.k (.str "zz")) (.cons (.ix (.v 5) (.k (.int 0))) .nil)))))
    (.seq (.for1 8 (.v 0) w__law_wrong_1)
    (.seq (.set 9 (.lst (.cons (.bin .mod (.bin .fdiv (.v 2) (.k (.int 16))) (.k (.int 12))) (.cons (.ix (.v 7) (.bin .mod (.bin .fdiv (.v 2) (.k (.int 384))) (.b1 .len (.v 7)))) .nil))))
    (.seq (.set 4 (.tup (.cons (.ix (.v 4) (.k (.int 0))) (.cons (.ix (.v 4) (.k (.int 1))) (.cons (.call "_law_spoilt" (.cons (.ix (.v 4) (.k (.int 2))) (.cons (.bw 9) (.cons (.bin .mod (.bin .fdiv (.v 2) (.k (.int 192))) (.k (.int 2))) .nil)))) .nil)))))
    .skip)))) .skip)
    (.seq (.ret (.fr (.bin .add (.bin .add (.fr (.sl (.v 0) .no (.v 3))) (.lst (.cons (.v 4) .nil))) (.sl (.v 0) (.bin .add (.v 3) (.k (.int 1))) .no))))
    .skip)))))))⟩
def d__law_wrong : Df := ⟨"_law_wrong", top 21, ["program", "way", "cell", "at", "errand", "other", "row", "some", "one", "spot"], ["program", "way", "cell"], t__law_wrong⟩
def w_law_1 : S := (.seq (.set 5 (.bin .mod (.bin .fdiv (.v 3) (.bin .mul (.k (.int 5)) (.bin .add (.bin .add (.k (.int 1)) (.bin .mul (.k (.int 6)) (.v 4))) (.bin .mul (.k (.int 30)) (.bin .fdiv (.v 4) (.k (.int 2))))))) (.k (.int 6))))
    (.seq (.set 2 (.call "_law_wrong" (.cons (.v 2) (.cons (.v 5) (.cons (.bin .fdiv (.call "_law_cell_at" (.cons (.rw 0) (.cons (.bin .add (.k (.int 1)) (.bin .mod (.v 4) (.k (.int 2)))) .nil))) (.bin .add (.k (.int 1)) (.bin .mul (.k (.int 99)) (.bin .fdiv (.v 4) (.k (.int 2)))))) .nil)))))
    .skip))
def t_law : FD := ⟨1, 9, (.seq (.set 1 (.lst (.cons (.k (.int 3)) (.cons (.k (.int 10)) .nil))))
    (.seq (.set 2 (.call "_law_drawn" (.cons (.rw 0) (.cons (.bw 1) (.cons (.k (.int 4)) (.cons (.k (.int 5)) .nil))))))
    (.seq (.set 3 (.call "_law_cell_at" (.cons (.rw 0) (.cons (.k (.int 0)) .nil))))
    (.seq (.for1 4 (.rg1 (.ix (.lst (.cons (.k (.int 0)) (.cons (.k (.int 1)) (.cons (.k (.int 2)) (.cons (.k (.int 2)) (.cons (.k (.int 3)) .nil)))))) (.bin .mod (.v 3) (.k (.int 5))))) w_law_1)
    (.seq (.set 6 (.call "_law_due" (.cons (.v 2) .nil)))
    (.seq (.set 7 (.fr (.b1 .list (.v 2))))
    (.seq (.set 8 (.call "_law_asked" (.cons (.v 2) .nil)))
    (.seq (.ite (.an (.isi (.v 6) [.int] true) (.nt (.call "_law_whole" (.cons (.v 8) .nil)))) (.seq (.ret (.k (.bool false)))
    .skip) .skip)
    (.seq (.ret (.an (.cmp .eq (.v 8) (.v 6)) (.an (.cmp .eq (.call "_law_asked" (.cons (.v 2) .nil)) (.v 6)) (.cmp .eq (.v 2) (.v 7)))))
    .skip)))))))))⟩
def d_law : Df := ⟨"law", top 22, ["script", "spot", "program", "cell", "turn", "way", "due", "kept", "found"], ["script"], t_law⟩
def txt : Txt := ⟨[d_parts_of, d_counts_of, d_looked_saying, d_looked, d__law_cell_at, d__law_whole, d__law_names, d__law_next, d__law_saying, d__law_drawn, d__law_spoilt, d__law_first, d__law_due, d__law_asked, d__law_wrong, d_law], [], ["ErrandError", "Twice", "NoSuch", "WrongCount"], ["NoSuch", "WrongCount", "Twice"], [], [], []⟩
end K04

namespace K04
open PySem PySem.Spec PyProof.Rows L2 DL
theorem txt_ok : txt.ok = true := by decide +kernel
theorem all_mk {l : PySem.W.OpenLaw} {w : World} {K : PySem.W.Frag} {h : Heap} {mg : Str → Option Value} {fa : Addr} (X : K.In h) (G : h.Ns mainGlobals mg) (hfa : mg "law" = some (.ref fa))
    {od1 an1 : Option Addr} {sl1 : Array (Option Value)} {f1 : Addr} {oc1 kV1 dc1 pm1 cd1 ct1 : Value}
    (a1 : PySem.W.nsIn K mainGlobals "parts_of" = some (some (.ref f1))) (l1 : K.lookup f1 = some ⟨oc1, od1, .func (PySem.W.fnOf "parts_of" "parts_of" (defArgs (top 6)) (defBody (top 6)) (defScope (top 6)) .none kV1 dc1 pm1 an1 cd1 ct1), sl1⟩) (c1 : PySem.W.codeIn K cd1 "parts_of" = true) (k1 : PySem.W.keepIn K (.ref f1) = true)
    {od2 an2 : Option Addr} {sl2 : Array (Option Value)} {f2 : Addr} {oc2 kV2 dc2 pm2 cd2 ct2 : Value}
    (a2 : PySem.W.nsIn K mainGlobals "counts_of" = some (some (.ref f2))) (l2 : K.lookup f2 = some ⟨oc2, od2, .func (PySem.W.fnOf "counts_of" "counts_of" (defArgs (top 7)) (defBody (top 7)) (defScope (top 7)) .none kV2 dc2 pm2 an2 cd2 ct2), sl2⟩) (c2 : PySem.W.codeIn K cd2 "counts_of" = true) (k2 : PySem.W.keepIn K (.ref f2) = true)
    {od3 an3 : Option Addr} {sl3 : Array (Option Value)} {f3 : Addr} {oc3 kV3 dc3 pm3 cd3 ct3 : Value}
    (a3 : PySem.W.nsIn K mainGlobals "looked_saying" = some (some (.ref f3))) (l3 : K.lookup f3 = some ⟨oc3, od3, .func (PySem.W.fnOf "looked_saying" "looked_saying" (defArgs (top 8)) (defBody (top 8)) (defScope (top 8)) .none kV3 dc3 pm3 an3 cd3 ct3), sl3⟩) (c3 : PySem.W.codeIn K cd3 "looked_saying" = true) (k3 : PySem.W.keepIn K (.ref f3) = true)
    {od4 an4 : Option Addr} {sl4 : Array (Option Value)} {f4 : Addr} {oc4 kV4 dc4 pm4 cd4 ct4 : Value}
    (a4 : PySem.W.nsIn K mainGlobals "looked" = some (some (.ref f4))) (l4 : K.lookup f4 = some ⟨oc4, od4, .func (PySem.W.fnOf "looked" "looked" (defArgs (top 9)) (defBody (top 9)) (defScope (top 9)) .none kV4 dc4 pm4 an4 cd4 ct4), sl4⟩) (c4 : PySem.W.codeIn K cd4 "looked" = true) (k4 : PySem.W.keepIn K (.ref f4) = true)
    {od5 an5 : Option Addr} {sl5 : Array (Option Value)} {f5 : Addr} {oc5 kV5 dc5 pm5 cd5 ct5 : Value}
    (a5 : PySem.W.nsIn K mainGlobals "_law_cell_at" = some (some (.ref f5))) (l5 : K.lookup f5 = some ⟨oc5, od5, .func (PySem.W.fnOf "_law_cell_at" "_law_cell_at" (defArgs (top 11)) (defBody (top 11)) (defScope (top 11)) .none kV5 dc5 pm5 an5 cd5 ct5), sl5⟩) (c5 : PySem.W.codeIn K cd5 "_law_cell_at" = true) (k5 : PySem.W.keepIn K (.ref f5) = true)
    {od6 an6 : Option Addr} {sl6 : Array (Option Value)} {f6 : Addr} {oc6 kV6 dc6 pm6 cd6 ct6 : Value}
    (a6 : PySem.W.nsIn K mainGlobals "_law_whole" = some (some (.ref f6))) (l6 : K.lookup f6 = some ⟨oc6, od6, .func (PySem.W.fnOf "_law_whole" "_law_whole" (defArgs (top 12)) (defBody (top 12)) (defScope (top 12)) .none kV6 dc6 pm6 an6 cd6 ct6), sl6⟩) (c6 : PySem.W.codeIn K cd6 "_law_whole" = true) (k6 : PySem.W.keepIn K (.ref f6) = true)
    {od7 an7 : Option Addr} {sl7 : Array (Option Value)} {f7 : Addr} {oc7 kV7 dc7 pm7 cd7 ct7 : Value}
    (a7 : PySem.W.nsIn K mainGlobals "_law_names" = some (some (.ref f7))) (l7 : K.lookup f7 = some ⟨oc7, od7, .func (PySem.W.fnOf "_law_names" "_law_names" (defArgs (top 13)) (defBody (top 13)) (defScope (top 13)) .none kV7 dc7 pm7 an7 cd7 ct7), sl7⟩) (c7 : PySem.W.codeIn K cd7 "_law_names" = true) (k7 : PySem.W.keepIn K (.ref f7) = true)
    {od8 an8 : Option Addr} {sl8 : Array (Option Value)} {f8 : Addr} {oc8 kV8 dc8 pm8 cd8 ct8 : Value}
    (a8 : PySem.W.nsIn K mainGlobals "_law_next" = some (some (.ref f8))) (l8 : K.lookup f8 = some ⟨oc8, od8, .func (PySem.W.fnOf "_law_next" "_law_next" (defArgs (top 14)) (defBody (top 14)) (defScope (top 14)) .none kV8 dc8 pm8 an8 cd8 ct8), sl8⟩) (c8 : PySem.W.codeIn K cd8 "_law_next" = true) (k8 : PySem.W.keepIn K (.ref f8) = true)
    {od9 an9 : Option Addr} {sl9 : Array (Option Value)} {f9 : Addr} {oc9 kV9 dc9 pm9 cd9 ct9 : Value}
    (a9 : PySem.W.nsIn K mainGlobals "_law_saying" = some (some (.ref f9))) (l9 : K.lookup f9 = some ⟨oc9, od9, .func (PySem.W.fnOf "_law_saying" "_law_saying" (defArgs (top 15)) (defBody (top 15)) (defScope (top 15)) .none kV9 dc9 pm9 an9 cd9 ct9), sl9⟩) (c9 : PySem.W.codeIn K cd9 "_law_saying" = true) (k9 : PySem.W.keepIn K (.ref f9) = true)
    {od10 an10 : Option Addr} {sl10 : Array (Option Value)} {f10 : Addr} {oc10 kV10 dc10 pm10 cd10 ct10 : Value}
    (a10 : PySem.W.nsIn K mainGlobals "_law_drawn" = some (some (.ref f10))) (l10 : K.lookup f10 = some ⟨oc10, od10, .func (PySem.W.fnOf "_law_drawn" "_law_drawn" (defArgs (top 16)) (defBody (top 16)) (defScope (top 16)) .none kV10 dc10 pm10 an10 cd10 ct10), sl10⟩) (c10 : PySem.W.codeIn K cd10 "_law_drawn" = true) (k10 : PySem.W.keepIn K (.ref f10) = true)
    {od11 an11 : Option Addr} {sl11 : Array (Option Value)} {f11 : Addr} {oc11 kV11 dc11 pm11 cd11 ct11 : Value}
    (a11 : PySem.W.nsIn K mainGlobals "_law_spoilt" = some (some (.ref f11))) (l11 : K.lookup f11 = some ⟨oc11, od11, .func (PySem.W.fnOf "_law_spoilt" "_law_spoilt" (defArgs (top 17)) (defBody (top 17)) (defScope (top 17)) .none kV11 dc11 pm11 an11 cd11 ct11), sl11⟩) (c11 : PySem.W.codeIn K cd11 "_law_spoilt" = true) (k11 : PySem.W.keepIn K (.ref f11) = true)
    {od12 an12 : Option Addr} {sl12 : Array (Option Value)} {f12 : Addr} {oc12 kV12 dc12 pm12 cd12 ct12 : Value}
    (a12 : PySem.W.nsIn K mainGlobals "_law_first" = some (some (.ref f12))) (l12 : K.lookup f12 = some ⟨oc12, od12, .func (PySem.W.fnOf "_law_first" "_law_first" (defArgs (top 18)) (defBody (top 18)) (defScope (top 18)) .none kV12 dc12 pm12 an12 cd12 ct12), sl12⟩) (c12 : PySem.W.codeIn K cd12 "_law_first" = true) (k12 : PySem.W.keepIn K (.ref f12) = true)
    {od13 an13 : Option Addr} {sl13 : Array (Option Value)} {f13 : Addr} {oc13 kV13 dc13 pm13 cd13 ct13 : Value}
    (a13 : PySem.W.nsIn K mainGlobals "_law_due" = some (some (.ref f13))) (l13 : K.lookup f13 = some ⟨oc13, od13, .func (PySem.W.fnOf "_law_due" "_law_due" (defArgs (top 19)) (defBody (top 19)) (defScope (top 19)) .none kV13 dc13 pm13 an13 cd13 ct13), sl13⟩) (c13 : PySem.W.codeIn K cd13 "_law_due" = true) (k13 : PySem.W.keepIn K (.ref f13) = true)
    {od14 an14 : Option Addr} {sl14 : Array (Option Value)} {f14 : Addr} {oc14 kV14 dc14 pm14 cd14 ct14 : Value}
    (a14 : PySem.W.nsIn K mainGlobals "_law_asked" = some (some (.ref f14))) (l14 : K.lookup f14 = some ⟨oc14, od14, .func (PySem.W.fnOf "_law_asked" "_law_asked" (defArgs (top 20)) (defBody (top 20)) (defScope (top 20)) .none kV14 dc14 pm14 an14 cd14 ct14), sl14⟩) (c14 : PySem.W.codeIn K cd14 "_law_asked" = true) (k14 : PySem.W.keepIn K (.ref f14) = true)
    {od15 an15 : Option Addr} {sl15 : Array (Option Value)} {f15 : Addr} {oc15 kV15 dc15 pm15 cd15 ct15 : Value}
    (a15 : PySem.W.nsIn K mainGlobals "_law_wrong" = some (some (.ref f15))) (l15 : K.lookup f15 = some ⟨oc15, od15, .func (PySem.W.fnOf "_law_wrong" "_law_wrong" (defArgs (top 21)) (defBody (top 21)) (defScope (top 21)) .none kV15 dc15 pm15 an15 cd15 ct15), sl15⟩) (c15 : PySem.W.codeIn K cd15 "_law_wrong" = true) (k15 : PySem.W.keepIn K (.ref f15) = true)
    {od16 an16 : Option Addr} {sl16 : Array (Option Value)} {f16 : Addr} {oc16 kV16 dc16 pm16 cd16 ct16 : Value}
    (a16 : PySem.W.nsIn K mainGlobals "law" = some (some (.ref f16))) (l16 : K.lookup f16 = some ⟨oc16, od16, .func (PySem.W.fnOf "law" "law" (defArgs (top 22)) (defBody (top 22)) (defScope (top 22)) .none kV16 dc16 pm16 an16 cd16 ct16), sl16⟩) (c16 : PySem.W.codeIn K cd16 "law" = true) (k16 : PySem.W.keepIn K (.ref f16) = true)
    (z_len : PySem.W.nsIn K mainGlobals "len" = some none)
    (z_tuple : PySem.W.nsIn K mainGlobals "tuple" = some none)
    (z_list : PySem.W.nsIn K mainGlobals "list" = some none)
    (z_int : PySem.W.nsIn K mainGlobals "int" = some none)
    (z_any : PySem.W.nsIn K mainGlobals "any" = some none)
    (z_all : PySem.W.nsIn K mainGlobals "all" = some none)
    (z_max : PySem.W.nsIn K mainGlobals "max" = some none)
    (z_isinstance : PySem.W.nsIn K mainGlobals "isinstance" = some none)
    (z_range : PySem.W.nsIn K mainGlobals "range" = some none)
    (z_reversed : PySem.W.nsIn K mainGlobals "reversed" = some none)
    (z_zip : PySem.W.nsIn K mainGlobals "zip" = some none)
    (z_enumerate : PySem.W.nsIn K mainGlobals "enumerate" = some none)
    (z_bool : PySem.W.nsIn K mainGlobals "bool" = some none)
    (z_str : PySem.W.nsIn K mainGlobals "str" = some none)
    (z_ValueError : PySem.W.nsIn K mainGlobals "ValueError" = some none)
    (z_set : PySem.W.nsIn K mainGlobals "set" = some none)
    {x_ErrandError : Addr} (m_ErrandError : PySem.W.nsIn K mainGlobals "ErrandError" = some (some (.ref x_ErrandError))) (e_ErrandError : PySem.W.excIn K x_ErrandError [.type "ValueError", .type "Exception", .type "BaseException", .type "object"] "ValueError.__new__" = true) (p_ErrandError : PySem.W.keepIn K (.ref x_ErrandError) = true) (s_ErrandError : PySem.W.subIn K (.ref x_ErrandError) (.type "BaseException") = some true) (t_ErrandError : PySem.W.typeIn K (.ref x_ErrandError) = some (.type "type"))
    {x_Twice : Addr} (m_Twice : PySem.W.nsIn K mainGlobals "Twice" = some (some (.ref x_Twice))) (e_Twice : PySem.W.excIn K x_Twice [.type "ValueError", .type "Exception", .type "BaseException", .type "object"] "ValueError.__new__" = true) (p_Twice : PySem.W.keepIn K (.ref x_Twice) = true) (s_Twice : PySem.W.subIn K (.ref x_Twice) (.type "BaseException") = some true) (t_Twice : PySem.W.typeIn K (.ref x_Twice) = some (.type "type"))
    {x_NoSuch : Addr} (m_NoSuch : PySem.W.nsIn K mainGlobals "NoSuch" = some (some (.ref x_NoSuch))) (e_NoSuch : PySem.W.excIn K x_NoSuch [.type "ValueError", .type "Exception", .type "BaseException", .type "object"] "ValueError.__new__" = true) (p_NoSuch : PySem.W.keepIn K (.ref x_NoSuch) = true) (s_NoSuch : PySem.W.subIn K (.ref x_NoSuch) (.type "BaseException") = some true) (t_NoSuch : PySem.W.typeIn K (.ref x_NoSuch) = some (.type "type"))
    {x_WrongCount : Addr} (m_WrongCount : PySem.W.nsIn K mainGlobals "WrongCount" = some (some (.ref x_WrongCount))) (e_WrongCount : PySem.W.excIn K x_WrongCount [.type "ValueError", .type "Exception", .type "BaseException", .type "object"] "ValueError.__new__" = true) (p_WrongCount : PySem.W.keepIn K (.ref x_WrongCount) = true) (s_WrongCount : PySem.W.subIn K (.ref x_WrongCount) (.type "BaseException") = some true) (t_WrongCount : PySem.W.typeIn K (.ref x_WrongCount) = some (.type "type"))
    (xd_ErrandError : PySem.W.hasDictIn K x_ErrandError = true)
    (xd_Twice : PySem.W.hasDictIn K x_Twice = true)
    (xd_NoSuch : PySem.W.hasDictIn K x_NoSuch = true)
    (xd_WrongCount : PySem.W.hasDictIn K x_WrongCount = true)
    (xa_NoSuch : PySem.W.findIn K (.ref x_NoSuch) "__getattribute__" = some (some (.builtin "BaseException.__getattribute__"))) (xb_NoSuch : PySem.W.findIn K (.ref x_NoSuch) "__getattr__" = some none) (xe_NoSuch : PySem.W.findIn K (.ref x_NoSuch) "__class__" = some (some (.builtin "object.__class__"))) (xm_NoSuch : PySem.W.mroIn K x_NoSuch (.type "object") = some true)
    (xv_NoSuch : PySem.W.subIn K (.ref x_NoSuch) (.type "ValueError") = some true)
    (xo_NoSuch_ErrandError : PySem.W.subIn K (.ref x_NoSuch) (.ref x_ErrandError) = some true)
    (xo_NoSuch_Twice : PySem.W.subIn K (.ref x_NoSuch) (.ref x_Twice) = some false)
    (xo_NoSuch_NoSuch : PySem.W.subIn K (.ref x_NoSuch) (.ref x_NoSuch) = some true)
    (xo_NoSuch_WrongCount : PySem.W.subIn K (.ref x_NoSuch) (.ref x_WrongCount) = some false)
    (xa_WrongCount : PySem.W.findIn K (.ref x_WrongCount) "__getattribute__" = some (some (.builtin "BaseException.__getattribute__"))) (xb_WrongCount : PySem.W.findIn K (.ref x_WrongCount) "__getattr__" = some none) (xe_WrongCount : PySem.W.findIn K (.ref x_WrongCount) "__class__" = some (some (.builtin "object.__class__"))) (xm_WrongCount : PySem.W.mroIn K x_WrongCount (.type "object") = some true)
    (xv_WrongCount : PySem.W.subIn K (.ref x_WrongCount) (.type "ValueError") = some true)
    (xo_WrongCount_ErrandError : PySem.W.subIn K (.ref x_WrongCount) (.ref x_ErrandError) = some true)
    (xo_WrongCount_Twice : PySem.W.subIn K (.ref x_WrongCount) (.ref x_Twice) = some false)
    (xo_WrongCount_NoSuch : PySem.W.subIn K (.ref x_WrongCount) (.ref x_NoSuch) = some false)
    (xo_WrongCount_WrongCount : PySem.W.subIn K (.ref x_WrongCount) (.ref x_WrongCount) = some true)
    (xa_Twice : PySem.W.findIn K (.ref x_Twice) "__getattribute__" = some (some (.builtin "BaseException.__getattribute__"))) (xb_Twice : PySem.W.findIn K (.ref x_Twice) "__getattr__" = some none) (xe_Twice : PySem.W.findIn K (.ref x_Twice) "__class__" = some (some (.builtin "object.__class__"))) (xm_Twice : PySem.W.mroIn K x_Twice (.type "object") = some true)
    (xv_Twice : PySem.W.subIn K (.ref x_Twice) (.type "ValueError") = some true)
    (xo_Twice_ErrandError : PySem.W.subIn K (.ref x_Twice) (.ref x_ErrandError) = some true)
    (xo_Twice_Twice : PySem.W.subIn K (.ref x_Twice) (.ref x_Twice) = some true)
    (xo_Twice_NoSuch : PySem.W.subIn K (.ref x_Twice) (.ref x_NoSuch) = some false)
    (xo_Twice_WrongCount : PySem.W.subIn K (.ref x_Twice) (.ref x_WrongCount) = some false)
    (xn : PySem.W.specialIn K (.builtin "object.__class__") "__get__" = some (some (.builtin "getset_descriptor.__get__"))) (xt : PySem.W.takesIn K (.builtin "object.__class__") = some true) :
    ∃ fd : FuncData, (∀ (s : Shared) (v : Value), BindsTo s fd ⟨[v], []⟩ [("script", v)]) ∧ ∀ base : Heap, K.In base → base.Ns mainGlobals mg → FnOk l.prog w K mg base (L2.CX l.prog w) 201 fa fd ["script"] (spLaw (tbl txt.ds) 200 K) := by
  have e := hfa.symm.trans (PySem.W.mg_of X G a16)
  cases e
  have F1 := fun_mk (st := top 6) l1 c1 k1
  have T1 : TF K mg d_parts_of := ⟨_, _, F1, PySem.W.mg_of X G a1, F1.binds (ps := ["saying"]) fun _ _ _ _ _ _ us hl => match us, hl with | [_], _ => rfl⟩
  have F2 := fun_mk (st := top 7) l2 c2 k2
  have T2 : TF K mg d_counts_of := ⟨_, _, F2, PySem.W.mg_of X G a2, F2.binds (ps := ["program"]) fun _ _ _ _ _ _ us hl => match us, hl with | [_], _ => rfl⟩
  have F3 := fun_mk (st := top 8) l3 c3 k3
  have T3 : TF K mg d_looked_saying := ⟨_, _, F3, PySem.W.mg_of X G a3, F3.binds (ps := ["saying", "params", "counts"]) fun _ _ _ _ _ _ us hl => match us, hl with | [_, _, _], _ => rfl⟩
  have F4 := fun_mk (st := top 9) l4 c4 k4
  have T4 : TF K mg d_looked := ⟨_, _, F4, PySem.W.mg_of X G a4, F4.binds (ps := ["program"]) fun _ _ _ _ _ _ us hl => match us, hl with | [_], _ => rfl⟩
  have F5 := fun_mk (st := top 11) l5 c5 k5
  have T5 : TF K mg d__law_cell_at := ⟨_, _, F5, PySem.W.mg_of X G a5, F5.binds (ps := ["script", "k"]) fun _ _ _ _ _ _ us hl => match us, hl with | [_, _], _ => rfl⟩
  have F6 := fun_mk (st := top 12) l6 c6 k6
  have T6 : TF K mg d__law_whole := ⟨_, _, F6, PySem.W.mg_of X G a6, F6.binds (ps := ["found"]) fun _ _ _ _ _ _ us hl => match us, hl with | [_], _ => rfl⟩
  have F7 := fun_mk (st := top 13) l7 c7 k7
  have T7 : TF K mg d__law_names := ⟨_, _, F7, PySem.W.mg_of X G a7, F7.binds (ps := ["cell", "many"]) fun _ _ _ _ _ _ us hl => match us, hl with | [_, _], _ => rfl⟩
  have F8 := fun_mk (st := top 14) l8 c8 k8
  have T8 : TF K mg d__law_next := ⟨_, _, F8, PySem.W.mg_of X G a8, F8.binds (ps := ["script", "spot"]) fun _ _ _ _ _ _ us hl => match us, hl with | [_, _], _ => rfl⟩
  have F9 := fun_mk (st := top 15) l9 c9 k9
  have T9 : TF K mg d__law_saying := ⟨_, _, F9, PySem.W.mg_of X G a9, F9.binds (ps := ["script", "spot", "names", "counts", "params", "deep"]) fun _ _ _ _ _ _ us hl => match us, hl with | [_, _, _, _, _, _], _ => rfl⟩
  have F10 := fun_mk (st := top 16) l10 c10 k10
  have T10 : TF K mg d__law_drawn := ⟨_, _, F10, PySem.W.mg_of X G a10, F10.binds (ps := ["script", "spot", "most", "deep"]) fun _ _ _ _ _ _ us hl => match us, hl with | [_, _, _, _], _ => rfl⟩
  have F11 := fun_mk (st := top 17) l11 c11 k11
  have T11 : TF K mg d__law_spoilt := ⟨_, _, F11, PySem.W.mg_of X G a11, F11.binds (ps := ["saying", "at", "way"]) fun _ _ _ _ _ _ us hl => match us, hl with | [_, _, _], _ => rfl⟩
  have F12 := fun_mk (st := top 18) l12 c12 k12
  have T12 : TF K mg d__law_first := ⟨_, _, F12, PySem.W.mg_of X G a12, F12.binds (ps := ["saying", "params", "counts", "found"]) fun _ _ _ _ _ _ us hl => match us, hl with | [_, _, _, _], _ => rfl⟩
  have F13 := fun_mk (st := top 19) l13 c13 k13
  have T13 : TF K mg d__law_due := ⟨_, _, F13, PySem.W.mg_of X G a13, F13.binds (ps := ["program"]) fun _ _ _ _ _ _ us hl => match us, hl with | [_], _ => rfl⟩
  have F14 := fun_mk (st := top 20) l14 c14 k14
  have T14 : TF K mg d__law_asked := ⟨_, _, F14, PySem.W.mg_of X G a14, F14.binds (ps := ["program"]) fun _ _ _ _ _ _ us hl => match us, hl with | [_], _ => rfl⟩
  have F15 := fun_mk (st := top 21) l15 c15 k15
  have T15 : TF K mg d__law_wrong := ⟨_, _, F15, PySem.W.mg_of X G a15, F15.binds (ps := ["program", "way", "cell"]) fun _ _ _ _ _ _ us hl => match us, hl with | [_, _, _], _ => rfl⟩
  have F16 := fun_mk (st := top 22) l16 c16 k16
  have T16 : TF K mg d_law := ⟨_, _, F16, PySem.W.mg_of X G a16, F16.binds (ps := ["script"]) fun _ _ _ _ _ _ us hl => match us, hl with | [_], _ => rfl⟩
  have A0 : Facts txt.cf K mg 0 (fun c => if c = "ErrandError" then x_ErrandError else if c = "Twice" then x_Twice else if c = "NoSuch" then x_NoSuch else if c = "WrongCount" then x_WrongCount else 0) := by
    refine ⟨rfl, fun x hx => ?_, fun n p hc => ?_, (fun z => nomatch z), fun c hc => ?_, fun c hc d hd => ?_, fun c hc => ?_⟩
    · simp only [List.mem_cons, List.not_mem_nil, or_false] at hx
      rcases hx with rfl | rfl | rfl | rfl | rfl | rfl | rfl | rfl | rfl | rfl | rfl | rfl | rfl | rfl | rfl | rfl
      · exact PySem.W.mg_none_of X G z_len
      · exact PySem.W.mg_none_of X G z_tuple
      · exact PySem.W.mg_none_of X G z_list
      · exact PySem.W.mg_none_of X G z_int
      · exact PySem.W.mg_none_of X G z_any
      · exact PySem.W.mg_none_of X G z_all
      · exact PySem.W.mg_none_of X G z_max
      · exact PySem.W.mg_none_of X G z_isinstance
      · exact PySem.W.mg_none_of X G z_range
      · exact PySem.W.mg_none_of X G z_reversed
      · exact PySem.W.mg_none_of X G z_zip
      · exact PySem.W.mg_none_of X G z_enumerate
      · exact PySem.W.mg_none_of X G z_bool
      · exact PySem.W.mg_none_of X G z_str
      · exact PySem.W.mg_none_of X G z_ValueError
      · exact PySem.W.mg_none_of X G z_set
    · cases hc
    · simp only [Txt.cf, txt, List.mem_cons, List.not_mem_nil, or_false] at hc
      rcases hc with rfl | rfl | rfl | rfl
      · exact ⟨"ValueError", "ValueError.__new__", "ValueError.__init__", _, PySem.F.excBase_ValueError, e_ErrandError, PySem.W.mg_of X G m_ErrandError, p_ErrandError, s_ErrandError, t_ErrandError⟩
      · exact ⟨"ValueError", "ValueError.__new__", "ValueError.__init__", _, PySem.F.excBase_ValueError, e_Twice, PySem.W.mg_of X G m_Twice, p_Twice, s_Twice, t_Twice⟩
      · exact ⟨"ValueError", "ValueError.__new__", "ValueError.__init__", _, PySem.F.excBase_ValueError, e_NoSuch, PySem.W.mg_of X G m_NoSuch, p_NoSuch, s_NoSuch, t_NoSuch⟩
      · exact ⟨"ValueError", "ValueError.__new__", "ValueError.__init__", _, PySem.F.excBase_ValueError, e_WrongCount, PySem.W.mg_of X G m_WrongCount, p_WrongCount, s_WrongCount, t_WrongCount⟩
    · simp only [Txt.cf, txt, List.mem_cons, List.not_mem_nil, or_false] at hc hd
      rcases hc with rfl | rfl | rfl
      · rcases hd with rfl | rfl | rfl | rfl
        · exact PySem.W.exm_ref s_ErrandError xd_ErrandError t_ErrandError xo_NoSuch_ErrandError
        · exact PySem.W.exm_ref s_Twice xd_Twice t_Twice xo_NoSuch_Twice
        · exact PySem.W.exm_ref s_NoSuch xd_NoSuch t_NoSuch xo_NoSuch_NoSuch
        · exact PySem.W.exm_ref s_WrongCount xd_WrongCount t_WrongCount xo_NoSuch_WrongCount
      · rcases hd with rfl | rfl | rfl | rfl
        · exact PySem.W.exm_ref s_ErrandError xd_ErrandError t_ErrandError xo_WrongCount_ErrandError
        · exact PySem.W.exm_ref s_Twice xd_Twice t_Twice xo_WrongCount_Twice
        · exact PySem.W.exm_ref s_NoSuch xd_NoSuch t_NoSuch xo_WrongCount_NoSuch
        · exact PySem.W.exm_ref s_WrongCount xd_WrongCount t_WrongCount xo_WrongCount_WrongCount
      · rcases hd with rfl | rfl | rfl | rfl
        · exact PySem.W.exm_ref s_ErrandError xd_ErrandError t_ErrandError xo_Twice_ErrandError
        · exact PySem.W.exm_ref s_Twice xd_Twice t_Twice xo_Twice_Twice
        · exact PySem.W.exm_ref s_NoSuch xd_NoSuch t_NoSuch xo_Twice_NoSuch
        · exact PySem.W.exm_ref s_WrongCount xd_WrongCount t_WrongCount xo_Twice_WrongCount
    · simp only [Txt.cf, txt, List.mem_cons, List.not_mem_nil, or_false] at hc
      rcases hc with rfl | rfl | rfl
      · refine ⟨⟨xa_NoSuch, xb_NoSuch, s_NoSuch, xd_NoSuch, xe_NoSuch, xn, xt, xm_NoSuch⟩, fun t ht => ?_⟩
        cases t <;> first | (cases ht; done) | skip
        · exact kit_ve xv_NoSuch
        · rename_i d
          have hd : d ∈ txt.cf.xcs := of_decide_eq_true ht
          simp only [Txt.cf, txt, List.mem_cons, List.not_mem_nil, or_false] at hd
          rcases hd with rfl | rfl | rfl | rfl
          · exact kit_cls xd_ErrandError t_ErrandError xo_NoSuch_ErrandError xo_NoSuch_NoSuch
          · exact kit_cls xd_Twice t_Twice xo_NoSuch_Twice xo_NoSuch_NoSuch
          · exact kit_cls xd_NoSuch t_NoSuch xo_NoSuch_NoSuch xo_NoSuch_NoSuch
          · exact kit_cls xd_WrongCount t_WrongCount xo_NoSuch_WrongCount xo_NoSuch_NoSuch
      · refine ⟨⟨xa_WrongCount, xb_WrongCount, s_WrongCount, xd_WrongCount, xe_WrongCount, xn, xt, xm_WrongCount⟩, fun t ht => ?_⟩
        cases t <;> first | (cases ht; done) | skip
        · exact kit_ve xv_WrongCount
        · rename_i d
          have hd : d ∈ txt.cf.xcs := of_decide_eq_true ht
          simp only [Txt.cf, txt, List.mem_cons, List.not_mem_nil, or_false] at hd
          rcases hd with rfl | rfl | rfl | rfl
          · exact kit_cls xd_ErrandError t_ErrandError xo_WrongCount_ErrandError xo_WrongCount_WrongCount
          · exact kit_cls xd_Twice t_Twice xo_WrongCount_Twice xo_WrongCount_WrongCount
          · exact kit_cls xd_NoSuch t_NoSuch xo_WrongCount_NoSuch xo_WrongCount_WrongCount
          · exact kit_cls xd_WrongCount t_WrongCount xo_WrongCount_WrongCount xo_WrongCount_WrongCount
      · refine ⟨⟨xa_Twice, xb_Twice, s_Twice, xd_Twice, xe_Twice, xn, xt, xm_Twice⟩, fun t ht => ?_⟩
        cases t <;> first | (cases ht; done) | skip
        · exact kit_ve xv_Twice
        · rename_i d
          have hd : d ∈ txt.cf.xcs := of_decide_eq_true ht
          simp only [Txt.cf, txt, List.mem_cons, List.not_mem_nil, or_false] at hd
          rcases hd with rfl | rfl | rfl | rfl
          · exact kit_cls xd_ErrandError t_ErrandError xo_Twice_ErrandError xo_Twice_Twice
          · exact kit_cls xd_Twice t_Twice xo_Twice_Twice xo_Twice_Twice
          · exact kit_cls xd_NoSuch t_NoSuch xo_Twice_NoSuch xo_Twice_Twice
          · exact kit_cls xd_WrongCount t_WrongCount xo_Twice_WrongCount xo_Twice_Twice
  exact ⟨_, fun s v => .of_eq rfl, fun base _ _ => Txt.law txt_ok trivial ⟨T1, T2, T3, T4, T5, T6, T7, T8, T9, T10, T11, T12, T13, T14, T15, T16, trivial⟩ trivial trivial A0 (d := d_law) (by simp [txt]) rfl rfl 200 F16⟩
end K04

namespace K04
open PySem PySem.Spec PyProof.Rows L2 DL
def cell (ns : List Int) (k : Nat) : Int := (ns[k]?).getD 0
theorem cell_at {Γ : Tbl} {n : Nat} (hΓ : Γ "_law_cell_at" = some t__law_cell_at) (ns : List Int) (k : Nat) (ki : Int) (hk : ki = k) (w : Nat) (r : DL.Env) :
    doCall ⟨run Γ (n + 1), w⟩ "_law_cell_at" [.rr 0, .va (.p (.int ki))] (.ro (.rl (ns.map PyData.int)) :: r) = .ok (.p (.int (cell ns k))) (.ro (.rl (ns.map PyData.int)) :: r) := by
  subst hk
  have hr : run Γ (n + 1) "_law_cell_at" [.ro (.rl (ns.map PyData.int)), .ow (.p (.int k))] = .ok (.p (.int (cell ns k))) [.ro (.rl (ns.map PyData.int)), .ow (.p (.int k))] := by
    rw [run_def hΓ rfl]
    by_cases h : k < ns.length
    · simp [t__law_cell_at, cell, h, atI, ixN, quiet, outOf, okQ, isP]
    · simp [t__law_cell_at, cell, h, outOf, okQ, isP, quiet]
  simp [doCall, lentOnce, slotsOf, slotOf, Sl.rd, giveBack, hr]
/-! ### the names -/
theorem len26 : (Str.ofString "abcdefghijklmnopqrstuvwxyz").cps.toList.length = 26 := by decide +kernel
theorem len26' : (Str.ofString "abcdefghijklmnopqrstuvwxyz").length = 26 := by decide +kernel
theorem len12 : (Str.ofString "abcdefghijkl").cps.toList.length = 12 := by decide +kernel
theorem len12' : (Str.ofString "abcdefghijkl").length = 12 := by decide +kernel
theorem len4' : (Str.ofString "abcd").length = 4 := by decide +kernel
theorem len0' : (Str.ofString "").length = 0 := by decide +kernel
theorem str_app_len (x y : Str) : (x ++ y).length = x.length + y.length := by
  show (Str.append x y).cps.size = _
  simp only [Str.append, Array.size_append]
  rfl
theorem one_len (c : Nat) : (⟨#[c]⟩ : Str).length = 1 := rfl
theorem line_le {n : Nat} (h : n ≤ 1000) : n ≤ sizeLine := big_line' (by omega)
/-- signs that a text may have -/
def sok (s : Str) : Prop := ∀ c ∈ s.cps.toList, 97 ≤ c ∧ c ≤ 122
/-- a name: letters, not many -/
def nok0 (s : Str) : Prop := sok s ∧ s.length ≤ 8
/-- it has a letter of the first twelve -/
def low12 (s : Str) : Prop := ∃ c ∈ s.cps.toList, c < 109
def nokL (s : Str) : Prop := nok0 s ∧ low12 s
abbrev nok (s : Str) : Prop := nokL s
theorem cut_sum (b : Str) (p : Int) (h0 : 0 ≤ p) (h1 : p ≤ b.length) : (cutS b none (some p)).length + (cutS b (some p) none).length = b.length := by
  have bl : b.cps.toList.length = b.length := by show b.cps.toList.length = b.cps.size; simp
  have e1 : HT.sIx b.length b.length (some p) = p.toNat := by
    rw [show p = ((p.toNat : Nat) : Int) by omega, HT.sIx_nat]
    simp
    omega
  have e2 : HT.sIx b.length 0 (some p) = p.toNat := by
    rw [show p = ((p.toNat : Nat) : Int) by omega, HT.sIx_nat]
    simp
    omega
  unfold cutS
  rw [e1, e2]
  show Array.size _ + Array.size _ = _
  simp only [List.size_toArray, List.length_take, List.length_drop, HT.sIx_none, bl]
  omega
theorem cut_four (b : Str) : (cutS b none (some 4)).length ≤ 4 := by
  have e1 : HT.sIx b.length b.length (some 4) ≤ 4 := by
    rw [show (4 : Int) = ((4 : Nat) : Int) by rfl, HT.sIx_nat]
    omega
  unfold cutS
  show Array.size _ ≤ _
  simp only [List.size_toArray, List.length_take, List.length_drop, HT.sIx_none]
  omega
theorem sok_app {x y : Str} (hx : sok x) (hy : sok y) : sok (x ++ y) := fun c hc => by
  have e : (x ++ y).cps.toList = x.cps.toList ++ y.cps.toList := by
    show (Str.append x y).cps.toList = _
    simp [Str.append]
  rw [e] at hc
  rcases List.mem_append.mp hc with h | h
  · exact hx c h
  · exact hy c h
theorem sok_cut {z : Str} (h : sok z) (lo hi : Option Int) : sok (cutS z lo hi) := fun c hc => by
  unfold cutS at hc
  simp only [List.toList_toArray] at hc
  exact h c (List.mem_of_mem_drop (List.mem_of_mem_take hc))
theorem sok_one {c : Nat} (h : 97 ≤ c ∧ c ≤ 122) : sok ⟨#[c]⟩ := fun d hd => by
  simp at hd
  subst hd
  exact h
theorem sok26 : sok (Str.ofString "abcdefghijklmnopqrstuvwxyz") := by unfold sok; decide +kernel
theorem sok12 : sok (Str.ofString "abcdefghijkl") := by unfold sok; decide +kernel
theorem sok4 : sok (Str.ofString "abcd") := by unfold sok; decide +kernel
theorem sok0 : sok (Str.ofString "") := by unfold sok; decide +kernel
theorem sok_lay {s : Str} (h : sok s) : PyData.canLay0 (.str s) = true := by
  simp only [PyData.canLay0, PyData.strOk]
  rw [Array.all_eq_true']
  intro c hc
  exact decide_eq_true (by have := h c (by simpa using hc); omega)
theorem atI_mem {α : Type} {l : List α} {j : Int} {x : α} (h : atI l j = some x) : x ∈ l := by
  unfold atI at h
  cases q : ixN l.length j with
  | none => rw [q] at h; cases h
  | some n => rw [q] at h; exact List.mem_of_getElem? h
theorem names_loop (C : Calls) (cell many : Sl) (pl fo tu : Sl) : ∀ (xs : List P) (b : Str) (v : Int) (k : Sl), dat k = true → sok b → b.length + xs.length ≤ 500 →
    ∃ (b' : Str) (v' : Int) (k' : Sl), b'.length ≤ b.length + xs.length ∧ sok b' ∧ forL (bFor1 C 4 w__law_names_1) xs [cell, many, .ow (.p (.str b)), .ow (.p (.int v)), k, pl, fo, tu] = .nx [cell, many, .ow (.p (.str b')), .ow (.p (.int v')), k', pl, fo, tu] ∧ dat k' = true
  | [], b, v, k, hk, ok, _ => ⟨b, v, k, by omega, ok, rfl, hk⟩
  | x :: xs, b, v, k, hk, ok, hl => by
    simp only [List.length_cons] at hl
    obtain ⟨c, hc⟩ := atI_some (l := (Str.ofString "abcdefghijklmnopqrstuvwxyz").cps.toList) (j := v % 26) (by omega) (by rw [len26]; omega)
    obtain ⟨b', v', k', h1, ok', h2, h3⟩ := names_loop C cell many pl fo tu xs (b ++ ⟨#[c]⟩) (v / 26) (.ow (.p x)) rfl (sok_app ok (sok_one (sok26 c (atI_mem hc)))) (by rw [str_app_len, one_len]; omega)
    refine ⟨b', v', k', by rw [str_app_len, one_len] at h1; simp only [List.length_cons]; omega, ok', ?_, h3⟩
    rw [forL_cons, ← h2]
    have l1 : b.length + (⟨#[c]⟩ : Str).length ≤ sizeLine := line_le (by rw [one_len]; omega)
    have l2 : (Str.ofString "abcdefghijklmnopqrstuvwxyz").length ≤ sizeLine := line_le (by rw [len26']; omega)
    simp [bdR_free, dat_free hk, w__law_names_1, hc, l1, l2]
def nm1 (b : Str) (pl : Int) (k : Nat) : Str := cutS b none (some pl) ++ ⟨#[((Str.ofString "abcdefghijkl").cps.toList[k]?).getD 0]⟩ ++ cutS b (some pl) none
def nm2 (b : Str) (k : Nat) : Str := cutS b none (some 4) ++ cutS (Str.ofString "abcd") none (some (k + 1))
def nm3 (b : Str) (k : Nat) : Str := cutS (Str.ofString "abcd") (some (3 - k)) none ++ cutS b none (some 4)
def onI (f : Nat → Str) (x : P) : P := match x with
  | .int k => .str (f k.toNat)
  | _ => .none
theorem map_onI (f : Nat → Str) (n : Nat) : ((List.range n).map fun (i : Nat) => PyData.int (i : Int)).map (onI f) = ((List.range n).map f).map PyData.str := by
  simp [onI, Function.comp_def]
theorem nd_map (f : Nat → Str) (m : Int) (N : Nat) (hm : m ≤ N) (h : ∀ i j, i < N → j < N → f i = f j → i = j) : ((List.range m.toNat).map f).Nodup := by
  unfold List.Nodup
  rw [List.pairwise_map]
  refine List.Pairwise.imp_of_mem (fun {a c} ha hc hlt e => ?_) List.pairwise_lt_range
  rw [List.mem_range] at ha hc
  have := h a c (by omega) (by omega) e
  omega
theorem cps_len {x y : Str} (h : x = y) : x.length = y.length := by rw [h]
theorem cut_abcd1 (k : Nat) (h : k < 4) : (cutS (Str.ofString "abcd") none (some ((k : Int) + 1))).length = k + 1 := by
  have hk : k = 0 ∨ k = 1 ∨ k = 2 ∨ k = 3 := by omega
  rcases hk with rfl | rfl | rfl | rfl <;> decide +kernel
theorem cut_abcd2 (k : Nat) (h : k < 4) : (cutS (Str.ofString "abcd") (some (3 - (k : Int))) none).length = k + 1 := by
  have hk : k = 0 ∨ k = 1 ∨ k = 2 ∨ k = 3 := by omega
  rcases hk with rfl | rfl | rfl | rfl <;> decide +kernel
theorem low_abcd1 (b : Str) (k : Nat) (h : k < 4) : low12 (nm2 b k) := by
  have hk : k = 0 ∨ k = 1 ∨ k = 2 ∨ k = 3 := by omega
  have e : 97 ∈ (cutS (Str.ofString "abcd") none (some ((k : Int) + 1))).cps.toList := by rcases hk with rfl | rfl | rfl | rfl <;> decide +kernel
  exact ⟨97, by unfold nm2; rw [show (cutS b none (some 4) ++ cutS (Str.ofString "abcd") none (some ((k : Int) + 1))).cps.toList = (cutS b none (some 4)).cps.toList ++ (cutS (Str.ofString "abcd") none (some ((k : Int) + 1))).cps.toList by
    show (Str.append _ _).cps.toList = _
    simp [Str.append]]; exact List.mem_append.mpr (.inr e), by omega⟩
theorem low_abcd2 (b : Str) (k : Nat) (h : k < 4) : low12 (nm3 b k) := by
  have hk : k = 0 ∨ k = 1 ∨ k = 2 ∨ k = 3 := by omega
  have e : 100 ∈ (cutS (Str.ofString "abcd") (some (3 - (k : Int))) none).cps.toList := by rcases hk with rfl | rfl | rfl | rfl <;> decide +kernel
  exact ⟨100, by unfold nm3; rw [show (cutS (Str.ofString "abcd") (some (3 - (k : Int))) none ++ cutS b none (some 4)).cps.toList = (cutS (Str.ofString "abcd") (some (3 - (k : Int))) none).cps.toList ++ (cutS b none (some 4)).cps.toList by
    show (Str.append _ _).cps.toList = _
    simp [Str.append]]; exact List.mem_append.mpr (.inl e), by omega⟩
theorem nm2_inj (b : Str) (i j : Nat) (hi : i < 4) (hj : j < 4) (h : nm2 b i = nm2 b j) : i = j := by
  have e := cps_len h
  simp only [nm2, str_app_len] at e
  rw [cut_abcd1 i hi, cut_abcd1 j hj] at e
  omega
theorem nm3_inj (b : Str) (i j : Nat) (hi : i < 4) (hj : j < 4) (h : nm3 b i = nm3 b j) : i = j := by
  have e := cps_len h
  simp only [nm3, str_app_len] at e
  rw [cut_abcd2 i hi, cut_abcd2 j hj] at e
  omega
theorem str_app_list (x y : Str) : (x ++ y).cps.toList = x.cps.toList ++ y.cps.toList := by
  show (Str.append x y).cps.toList = _
  simp [Str.append]
theorem let12 (k : Nat) (h : k < 12) : ((Str.ofString "abcdefghijkl").cps.toList[k]?).getD 0 = 97 + k := by
  have hk : k = 0 ∨ k = 1 ∨ k = 2 ∨ k = 3 ∨ k = 4 ∨ k = 5 ∨ k = 6 ∨ k = 7 ∨ k = 8 ∨ k = 9 ∨ k = 10 ∨ k = 11 := by omega
  rcases hk with rfl | rfl | rfl | rfl | rfl | rfl | rfl | rfl | rfl | rfl | rfl | rfl <;> decide +kernel
theorem nm1_inj (b : Str) (pl : Int) (i j : Nat) (hi : i < 12) (hj : j < 12) (h : nm1 b pl i = nm1 b pl j) : i = j := by
  have e : (nm1 b pl i).cps.toList = (nm1 b pl j).cps.toList := by rw [h]
  simp only [nm1, str_app_list, let12 i (by omega), let12 j (by omega)] at e
  have e2 := List.append_cancel_right e
  have e3 := List.append_cancel_left e2
  simp at e3
  omega
/-- the last two rows -/
theorem names_tail (C : Calls) (m v : Int) (h0 : 0 < m) (s0 s2 s3 s4 s5 : Sl) (l0 : List Str) (ok : (∀ s ∈ l0, nokL s) ∧ l0.Nodup) (hl : (l0.length : Int) = m) (hb : m ≤ 1000) :
    ∃ (l : List Str) (env : DL.Env), ((∀ s ∈ l, nokL s) ∧ l.Nodup) ∧ (l.length : Int) = m ∧ 2 ≤ env.length ∧ exec C (.seq (.set 7 (.bin .mod (.bin .fdiv (.v 0) (.k (.int 13))) (.v 1))) (.seq (.ret (.fr (.bin .add (.sl (.v 6) (.v 7) .no) (.sl (.v 6) .no (.v 7))))) .skip))
      [.ow (.p (.int v)), .ow (.p (.int m)), s2, s3, s4, s5, .ow (.p (.list (l0.map PyData.str))), .no] = .rt (.p (.list (l.map PyData.str))) env := by
  have t0 : 0 ≤ v / 13 % m := Int.emod_nonneg _ (by omega)
  have t1 : v / 13 % m < m := Int.emod_lt_of_pos _ h0
  have e2 : cutL (l0.map PyData.str) (some (v / 13 % m)) none = (l0.drop (v / 13 % m).toNat).map PyData.str := by
    rw [cutL_from _ _ t0 (by rw [List.length_map]; omega), List.map_drop]
  have e3 : cutL (l0.map PyData.str) none (some (v / 13 % m)) = (l0.take (v / 13 % m).toNat).map PyData.str := by
    rw [cutL_upto _ _ t0 (by rw [List.length_map]; omega), List.map_take]
  have b1 : l0.length - (v / 13 % m).toNat + min (v / 13 % m).toNat l0.length ≤ sizeLine := line_le (by omega)
  refine ⟨l0.drop (v / 13 % m).toNat ++ l0.take (v / 13 % m).toNat, [.ow (.p (.int v)), .ow (.p (.int m)), s2, s3, s4, s5, .ow (.p (.list (l0.map PyData.str))), .ow (.p (.int (v / 13 % m)))], ⟨(fun s hs => (List.mem_append.mp hs).elim (fun h => ok.1 s (List.mem_of_mem_drop h)) fun h => ok.1 s (List.mem_of_mem_take h)), List.perm_append_comm.nodup_iff.mp (by rw [List.take_append_drop]; exact ok.2)⟩, by simp; omega, by simp, ?_⟩
  simp [h0, e2, e3, quiet, b1, -List.map_drop, -List.map_take]
section
variable {Γ : Tbl} {n : Nat}
theorem names_gives12 (hΓ : Γ "_law_names" = some t__law_names) (v m : Int) (h0 : 0 < m) (h1 : m ≤ 12) : ∃ l : List Str, (l.length : Int) = m ∧ ((∀ s ∈ l, nokL s) ∧ l.Nodup) ∧ Gives Γ (n + 1) "_law_names" [.int v, .int m] (.list (l.map PyData.str)) := by
  obtain ⟨b, v1, k1, hb, okb, e1, hk1⟩ := names_loop ⟨run Γ n, wfuel⟩ (.ow (.p (.int v))) (.ow (.p (.int m))) .no .no .no (rangeP 0 (v % 8).toNat) (Str.ofString "") (v / 8) .no rfl sok0 (by rw [rangeP_len, len0']; omega)
  have r1 : (m).natAbs < 4611686018427387904 := by omega
  have r2 : (m).natAbs < 4611686018427387904 := by omega
  have q1 : (v % 8).natAbs < 4611686018427387904 := by omega
  have q2 : (v % 8).natAbs < 4611686018427387904 := by omega
  have b7 : b.length ≤ 7 := by rw [rangeP_len, len0'] at hb; omega
  have bl : b.length ≤ sizeLine := line_le (by omega)
  have bp : (0 : Int) < b.length + 1 := by omega
  have main : ∃ (l : List Str) (env : DL.Env), ((∀ s ∈ l, nokL s) ∧ l.Nodup) ∧ (l.length : Int) = m ∧ 2 ≤ env.length ∧ exec ⟨run Γ n, wfuel⟩ t__law_names.body [.ow (.p (.int v)), .ow (.p (.int m)), .no, .no, .no, .no, .no, .no] = .rt (.p (.list (l.map PyData.str))) env := by
    simp [len0'] at e1
    have pl0 : 0 ≤ v / 11 % (b.length + 1) := Int.emod_nonneg _ (by omega)
    have g1 : ∀ x ∈ (List.range m.toNat).map (fun (i : Nat) => PyData.int (i : Int)), lcF 4 (ev ⟨run Γ n, wfuel⟩ (.fr (.bin .add (.bin .add (.sl (.v 2) .no (.v 5)) (.ix (.k (.str "abcdefghijkl")) (.v 4))) (.sl (.v 2) (.v 5) .no)))) x [.ow (.p (.int v)), .ow (.p (.int m)), .ow (.p (.str b)), .ow (.p (.int v1)), .no, .ow (.p (.int (v / 11 % (b.length + 1)))), .no, .no] =
        .ok (onI (nm1 b (v / 11 % (b.length + 1))) x) [.ow (.p (.int v)), .ow (.p (.int m)), .ow (.p (.str b)), .ow (.p (.int v1)), .no, .ow (.p (.int (v / 11 % (b.length + 1)))), .no, .no] := fun x hx => by
      obtain ⟨k, hk, rfl⟩ := List.mem_map.mp hx
      rw [List.mem_range] at hk
      have c1 := cutS_len b none (some (v / 11 % (b.length + 1)))
      have c2 := cutS_len b (some (v / 11 % (b.length + 1))) none
      have hl12 : k < (Str.ofString "abcdefghijkl").cps.toList.length := by rw [len12]; omega
      have h12 : (Str.ofString "abcdefghijkl").cps.toList[k]? = some ((Str.ofString "abcdefghijkl").cps.toList[k]) := List.getElem?_eq_getElem hl12
      have h13 : atI (Str.ofString "abcdefghijkl").cps.toList (k : Int) = some ((Str.ofString "abcdefghijkl").cps.toList[k]) := by
        rw [atI_nat (by omega) (by omega), Int.toNat_natCast, h12]
      have l1 : (Str.ofString "abcdefghijkl").length ≤ sizeLine := line_le (by rw [len12']; omega)
      have l2 : (cutS b none (some (v / 11 % (b.length + 1)))).length + (⟨#[(Str.ofString "abcdefghijkl").cps.toList[k]]⟩ : Str).length ≤ sizeLine := line_le (by rw [one_len]; omega)
      have l3 : (cutS b none (some (v / 11 % (b.length + 1))) ++ (⟨#[(Str.ofString "abcdefghijkl").cps.toList[k]]⟩ : Str)).length + (cutS b (some (v / 11 % (b.length + 1))) none).length ≤ sizeLine := line_le (by rw [str_app_len, one_len]; omega)
      simp only [onI, nm1, Int.toNat_natCast, h12, Option.getD_some]
      generalize (Str.ofString "abcdefghijkl").cps.toList[k] = cc at h13 l2 l3 ⊢
      simp [h13, l1, l2, l3, bl]
    have g2 : ∀ (s6 : Sl), ∀ x ∈ (List.range m.toNat).map (fun (i : Nat) => PyData.int (i : Int)), lcF 4 (ev ⟨run Γ n, wfuel⟩ (.fr (.bin .add (.sl (.v 2) .no (.k (.int 4))) (.sl (.k (.str "abcd")) .no (.bin .add (.v 4) (.k (.int 1))))))) x [.ow (.p (.int v)), .ow (.p (.int m)), .ow (.p (.str b)), .ow (.p (.int v1)), .no, .ow (.p (.int (v / 11 % (b.length + 1)))), s6, .no] =
        .ok (onI (nm2 b) x) [.ow (.p (.int v)), .ow (.p (.int m)), .ow (.p (.str b)), .ow (.p (.int v1)), .no, .ow (.p (.int (v / 11 % (b.length + 1)))), s6, .no] := fun s6 x hx => by
      obtain ⟨k, hk, rfl⟩ := List.mem_map.mp hx
      have c1 := cutS_len b none (some 4)
      have c2 := cutS_len (Str.ofString "abcd") none (some ((k : Int) + 1))
      rw [len4'] at c2
      have l1 : (Str.ofString "abcd").length ≤ sizeLine := line_le (by rw [len4']; omega)
      have l2 : (cutS b none (some 4)).length + (cutS (Str.ofString "abcd") none (some ((k : Int) + 1))).length ≤ sizeLine := line_le (by omega)
      simp only [onI, nm2, Int.toNat_natCast]
      simp [l1, l2, bl]
    have g3 : ∀ (s6 : Sl), ∀ x ∈ (List.range m.toNat).map (fun (i : Nat) => PyData.int (i : Int)), lcF 4 (ev ⟨run Γ n, wfuel⟩ (.fr (.bin .add (.sl (.k (.str "abcd")) (.bin .sub (.k (.int 3)) (.v 4)) .no) (.sl (.v 2) .no (.k (.int 4)))))) x [.ow (.p (.int v)), .ow (.p (.int m)), .ow (.p (.str b)), .ow (.p (.int v1)), .no, .ow (.p (.int (v / 11 % (b.length + 1)))), s6, .no] =
        .ok (onI (nm3 b) x) [.ow (.p (.int v)), .ow (.p (.int m)), .ow (.p (.str b)), .ow (.p (.int v1)), .no, .ow (.p (.int (v / 11 % (b.length + 1)))), s6, .no] := fun s6 x hx => by
      obtain ⟨k, hk, rfl⟩ := List.mem_map.mp hx
      have c1 := cutS_len b none (some 4)
      have c2 := cutS_len (Str.ofString "abcd") (some (3 - (k : Int))) none
      rw [len4'] at c2
      have l1 : (Str.ofString "abcd").length ≤ sizeLine := line_le (by rw [len4']; omega)
      have l2 : (cutS (Str.ofString "abcd") (some (3 - (k : Int))) none).length + (cutS b none (some 4)).length ≤ sizeLine := line_le (by omega)
      simp only [onI, nm3, Int.toNat_natCast]
      simp [l1, l2, bl]
    have k1ok : ∀ s ∈ (List.range m.toNat).map (nm1 b (v / 11 % (b.length + 1))), nokL s := fun s hs => by
      obtain ⟨k, hk, rfl⟩ := List.mem_map.mp hs
      rw [List.mem_range] at hk
      have hl12 : k < (Str.ofString "abcdefghijkl").cps.toList.length := by rw [len12]; omega
      have h12 : (Str.ofString "abcdefghijkl").cps.toList[k]? = some ((Str.ofString "abcdefghijkl").cps.toList[k]) := List.getElem?_eq_getElem hl12
      have lw := let12 k (by omega)
      rw [h12, Option.getD_some] at lw
      unfold nm1
      rw [h12]
      have c1 := cut_sum b (v / 11 % (b.length + 1)) pl0 (by have := Int.emod_lt_of_pos (v / 11) bp; omega)
      refine ⟨⟨sok_app (sok_app (sok_cut okb _ _) (sok_one (sok12 _ (List.getElem_mem hl12)))) (sok_cut okb _ _), by rw [str_app_len, str_app_len, one_len]; omega⟩, 97 + k, ?_, by omega⟩
      rw [str_app_list, str_app_list, Option.getD_some, lw]
      simp
    have k2ok : m < 5 → ∀ s ∈ (List.range m.toNat).map (nm2 b), nokL s := fun m5 s hs => by
      obtain ⟨k, hk, rfl⟩ := List.mem_map.mp hs
      rw [List.mem_range] at hk
      have c1 := cut_four b
      have c2 := cut_abcd1 k (by omega)
      exact ⟨⟨sok_app (sok_cut okb _ _) (sok_cut sok4 _ _), by unfold nm2; rw [str_app_len]; omega⟩, low_abcd1 b k (by omega)⟩
    have k3ok : m < 5 → ∀ s ∈ (List.range m.toNat).map (nm3 b), nokL s := fun m5 s hs => by
      obtain ⟨k, hk, rfl⟩ := List.mem_map.mp hs
      rw [List.mem_range] at hk
      have c1 := cut_four b
      have c2 := cut_abcd2 k (by omega)
      exact ⟨⟨sok_app (sok_cut sok4 _ _) (sok_cut okb _ _), by unfold nm3; rw [str_app_len]; omega⟩, low_abcd2 b k (by omega)⟩
    have T := fun s0 s2 s3 s4 s5 l0 ok hl => names_tail ⟨run Γ n, wfuel⟩ m v h0 s0 s2 s3 s4 s5 l0 ok hl (by omega)
    simp only [t__law_names]
    generalize (S.seq (S.set 7 (.bin .mod (.bin .fdiv (.v 0) (.k (.int 13))) (.v 1))) (S.seq (.ret (.fr (.bin .add (.sl (.v 6) (.v 7) .no) (.sl (.v 6) .no (.v 7))))) .skip)) = tl at T ⊢
    simp [q1, q2, e1, bl, bp, bdR_free, r1, r2, hk1]
    rw [lcLoop_map _ _ g1 (by simp; omega)]
    by_cases m5 : m < 5
    · by_cases k1' : v / 17 % 3 = 1
      · simp [k1', m5, map_onI, -List.map_map, hk1, r1, r2]
        rw [lcLoop_map _ _ (g2 _) (by simp; omega)]
        simp [map_onI, -List.map_map, m5, k1']
        (obtain ⟨l, e, a0, a1, a2, a3⟩ := T .no _ _ _ _ _ ⟨k2ok m5, nd_map (nm2 b) m 4 (by omega) (nm2_inj b)⟩ (show ((List.map (nm2 b) (List.range m.toNat)).length : Int) = m by simp; omega); exact ⟨l, a0, a1, e, a2, a3⟩)
      · by_cases k2' : v / 17 % 3 = 2
        · simp [k1', k2', m5, map_onI, -List.map_map, hk1, r1, r2]
          rw [lcLoop_map _ _ (g3 _) (by simp; omega)]
          simp [map_onI, -List.map_map]
          (obtain ⟨l, e, a0, a1, a2, a3⟩ := T .no _ _ _ _ _ ⟨k3ok m5, nd_map (nm3 b) m 4 (by omega) (nm3_inj b)⟩ (show ((List.map (nm3 b) (List.range m.toNat)).length : Int) = m by simp; omega); exact ⟨l, a0, a1, e, a2, a3⟩)
        · simp [k1', k2', m5, map_onI, -List.map_map, hk1, r1, r2]
          (obtain ⟨l, e, a0, a1, a2, a3⟩ := T .no _ _ _ _ _ ⟨k1ok, nd_map (nm1 b _) m 12 (by omega) (nm1_inj b _)⟩ (show ((List.map (nm1 b (v / 11 % (b.length + 1))) (List.range m.toNat)).length : Int) = m by simp; omega); exact ⟨l, a0, a1, e, a2, a3⟩)
    · simp [m5, map_onI, -List.map_map, hk1, r1, r2]
      (obtain ⟨l, e, a0, a1, a2, a3⟩ := T .no _ _ _ _ _ ⟨k1ok, nd_map (nm1 b _) m 12 (by omega) (nm1_inj b _)⟩ (show ((List.map (nm1 b (v / 11 % (b.length + 1))) (List.range m.toNat)).length : Int) = m by simp; omega); exact ⟨l, a0, a1, e, a2, a3⟩)
  obtain ⟨l, env, ok, hl, he, hx⟩ := main
  exact ⟨l, hl, ok, gives_of (env := env) hΓ rfl hx (Nat.ble_eq_true_of_le he)⟩
theorem names_gives8 (hΓ : Γ "_law_names" = some t__law_names) (v m : Int) (h0 : 0 < m) (h1 : m ≤ 8) : ∃ l : List Str, (l.length : Int) = m ∧ ((∀ s ∈ l, nokL s) ∧ l.Nodup) ∧ Gives Γ (n + 1) "_law_names" [.int v, .int m] (.list (l.map PyData.str)) := names_gives12 hΓ v m h0 (by omega)
theorem names_gives (hΓ : Γ "_law_names" = some t__law_names) (v m : Int) (h0 : 0 < m) (h1 : m ≤ 4) : ∃ l : List Str, (l.length : Int) = m ∧ ((∀ s ∈ l, nok s) ∧ l.Nodup) ∧ Gives Γ (n + 1) "_law_names" [.int v, .int m] (.list (l.map PyData.str)) := by
  obtain ⟨l, a, ⟨b, c⟩, d⟩ := names_gives8 (n := n) hΓ v m h0 (by omega)
  exact ⟨l, a, ⟨fun s hs => b s hs, c⟩, d⟩
end
/-! ### sayings by cells -/
/-- a saying at most d deep over these errands and parameters -/
def isSay (nm : List Str) (ct : List Nat) (ps : List Str) : Nat → P → Prop
  | 0, _ => False
  | d + 1, x => (∃ s ∈ ps, x = .tuple [.str "name", .str s]) ∨ x = .tuple [.str "bud"] ∨ (∃ y, isSay nm ct ps d y ∧ (x = .tuple [.str "left", y] ∨ x = .tuple [.str "right", y])) ∨
      (∃ ys : List P, ys.length = 2 ∧ (∀ y ∈ ys, isSay nm ct ps d y) ∧ x = .tuple (.str "pair" :: ys)) ∨ (∃ ys : List P, ys.length = 3 ∧ (∀ y ∈ ys, isSay nm ct ps d y) ∧ x = .tuple (.str "fork" :: ys)) ∨
      ∃ (i : Nat) (f : Str) (ys : List P), nm[i]? = some f ∧ ct[i]? = some ys.length ∧ (∀ y ∈ ys, isSay nm ct ps d y) ∧ x = .tuple [.str "send", .str f, .tuple ys]
abbrev strsL (l : List Str) : P := .list (l.map PyData.str)
abbrev strsT (l : List Str) : P := .tuple (l.map PyData.str)
abbrev natsL (l : List Nat) : P := .list (l.map fun (c : Nat) => PyData.int (c : Int))
abbrev spotD (s c : Nat) : D := .ml [.int (s : Int), .int (c : Int)]
section
variable {Γ : Tbl} {n : Nat}
theorem next_run (g1 : Γ "_law_cell_at" = some t__law_cell_at) (g2 : Γ "_law_next" = some t__law_next) (ns : List Int) (s : Nat) (tl : List P) :
    run Γ (n + 2) "_law_next" [.ro (.rl (ns.map PyData.int)), .bo (.ml (.int (s : Int) :: tl))] = .ok (.p (.int (cell ns s))) [.ro (.rl (ns.map PyData.int)), .bo (.ml (.int ((s + 1 : Nat) : Int) :: tl))] := by
  have hc := fun w r => cell_at (n := n) g1 ns s (((s + 1 : Nat) : Int) - 1) (by omega) w r
  rw [run_def g2 rfl]
  simp only [Int.natCast_add, Int.cast_ofNat_Int] at hc ⊢
  simp [t__law_next, quiet, atI, ixN, outOf] at hc ⊢
  simp [hc]
theorem next_bo (g1 : Γ "_law_cell_at" = some t__law_cell_at) (g2 : Γ "_law_next" = some t__law_next) (ns : List Int) (s : Nat) (tl : List P) (w : Nat) (r : DL.Env) :
    doCall ⟨run Γ (n + 2), w⟩ "_law_next" [.rr 0, .br 1] (.ro (.rl (ns.map PyData.int)) :: .bo (.ml (.int (s : Int) :: tl)) :: r) = .ok (.p (.int (cell ns s))) (.ro (.rl (ns.map PyData.int)) :: .bo (.ml (.int ((s + 1 : Nat) : Int) :: tl)) :: r) := by
  have hr := next_run (n := n) g1 g2 ns s tl
  simp [doCall, lentOnce, slotsOf, slotOf, Sl.rd, giveBack, hr]
theorem next_ow (g1 : Γ "_law_cell_at" = some t__law_cell_at) (g2 : Γ "_law_next" = some t__law_next) (ns : List Int) (s : Nat) (tl : List P) (w : Nat) (r : DL.Env) :
    doCall ⟨run Γ (n + 2), w⟩ "_law_next" [.rr 0, .br 1] (.ro (.rl (ns.map PyData.int)) :: .ow (.ml (.int (s : Int) :: tl)) :: r) = .ok (.p (.int (cell ns s))) (.ro (.rl (ns.map PyData.int)) :: .ow (.ml (.int ((s + 1 : Nat) : Int) :: tl)) :: r) := by
  have hr := next_run (n := n) g1 g2 ns s tl
  simp [doCall, lentOnce, slotsOf, slotOf, Sl.rd, giveBack, hr]
end

section
variable {Γ : Tbl} {n : Nat}
/-- the sayings of a row, one after another -/
theorem row_loop' (w : Nat) (ns : List Int) (nm : List Str) (ct : List Nat) (ps : List Str) (d : Nat) (F : Nat → Nat → Prop)
    (ih : ∀ s c : Nat, ∃ (x : P) (s' c' : Nat) (o2 o3 o4 o5 : Sl), isSay nm ct ps d x ∧ run Γ n "_law_saying" [.ro (.rl (ns.map PyData.int)), .bo (spotD s c), .ow (.p (strsL nm)), .ow (.p (natsL ct)), .ow (.p (strsT ps)), .ow (.p (.int (d : Int)))] = .ok (.p x) [.ro (.rl (ns.map PyData.int)), .bo (spotD s' c'), o2, o3, o4, o5])
    (e6 e7 e8 e9 : Sl) : ∀ (xs acc : List P) (s c : Nat), acc.length + xs.length < 1000 → ∃ (ys : List P) (s' c' : Nat), ys.length = xs.length ∧ (∀ y ∈ ys, isSay nm ct ps d y) ∧
      lcLoop (lcF 11 (ev ⟨run Γ n, w⟩ (.call "_law_saying" (.cons (.rw 0) (.cons (.bw 1) (.cons (.v 2) (.cons (.v 3) (.cons (.v 4) (.cons (.bin .sub (.v 5) (.k (.int 1))) .nil))))))))) xs acc
        [.ro (.rl (ns.map PyData.int)), .bo (spotD s c), .ow (.p (strsL nm)), .ow (.p (natsL ct)), .ow (.p (strsT ps)), .ow (.p (.int ((d : Int) + 1))), e6, e7, e8, e9, .no, .no] =
        .ok (acc ++ ys) [.ro (.rl (ns.map PyData.int)), .bo (spotD s' c'), .ow (.p (strsL nm)), .ow (.p (natsL ct)), .ow (.p (strsT ps)), .ow (.p (.int ((d : Int) + 1))), e6, e7, e8, e9, .no, .no]
  | [], acc, s, c, _ => ⟨[], s, c, rfl, (by simp), by simp [lcLoop]⟩
  | x :: xs, acc, s, c, hl => by
    simp only [List.length_cons] at hl
    obtain ⟨y, s1, c1, o2, o3, o4, o5, hy, hr⟩ := ih s c
    obtain ⟨ys, s', c', h1, h2, h3⟩ := row_loop' w ns nm ct ps d F ih e6 e7 e8 e9 xs (acc ++ [y]) s1 c1 (by simp; omega)
    refine ⟨y :: ys, s', c', by simp [h1], fun z hz => ?_, ?_⟩
    · rcases List.mem_cons.mp hz with rfl | hz
      · exact hy
      · exact h2 z hz
    · have hc := call_rbo (w := w) (env := [.ro (.rl (ns.map PyData.int)), .bo (spotD s c), .ow (.p (strsL nm)), .ow (.p (natsL ct)), .ow (.p (strsT ps)), .ow (.p (.int ((d : Int) + 1))), e6, e7, e8, e9, .no, .ow (.p x)]) (xs := [strsL nm, natsL ct, strsT ps, .int (d : Int)]) (i := 0) (j := 1) hr rfl (by decide) rfl rfl
      simp only [List.map_cons, List.map_nil, List.set_cons_succ, List.set_cons_zero] at hc
      have hf : lcF 11 (ev ⟨run Γ n, w⟩ (.call "_law_saying" (.cons (.rw 0) (.cons (.bw 1) (.cons (.v 2) (.cons (.v 3) (.cons (.v 4) (.cons (.bin .sub (.v 5) (.k (.int 1))) .nil)))))))) x
          [.ro (.rl (ns.map PyData.int)), .bo (spotD s c), .ow (.p (strsL nm)), .ow (.p (natsL ct)), .ow (.p (strsT ps)), .ow (.p (.int ((d : Int) + 1))), e6, e7, e8, e9, .no, .no] =
          .ok y [.ro (.rl (ns.map PyData.int)), .bo (spotD s1 c1), .ow (.p (strsL nm)), .ow (.p (natsL ct)), .ow (.p (strsT ps)), .ow (.p (.int ((d : Int) + 1))), e6, e7, e8, e9, .no, .no] := by
        have e : (d : Int) + 1 - 1 = d := by omega
        simp [e, hc]
      simp only [lcLoop]
      rw [hf]
      simp only
      rw [if_pos (big_line (by omega)), h3]
      simp
/-- what a call of _law_saying gives, at the depth d -/
def SayAt (Γ : Tbl) (n : Nat) (ns : List Int) (nm : List Str) (ct : List Nat) (ps : List Str) (d : Nat) : Prop := ∀ s c : Nat, ∃ (x : P) (s' c' : Nat) (o2 o3 o4 o5 : Sl), isSay nm ct ps d x ∧
  run Γ n "_law_saying" [.ro (.rl (ns.map PyData.int)), .bo (spotD s c), .ow (.p (strsL nm)), .ow (.p (natsL ct)), .ow (.p (strsT ps)), .ow (.p (.int (d : Int)))] = .ok (.p x) [.ro (.rl (ns.map PyData.int)), .bo (spotD s' c'), o2, o3, o4, o5]
theorem say_step (g1 : Γ "_law_cell_at" = some t__law_cell_at) (g2 : Γ "_law_next" = some t__law_next) (g3 : Γ "_law_saying" = some t__law_saying) (ns : List Int) (nm : List Str) (ct : List Nat) (ps : List Str) (hn : 0 < nm.length) (hn2 : nm.length < 1000) (hct : ct.length = nm.length) (hps : 0 < ps.length) (hps2 : ps.length < 1000) (small : ∀ c ∈ ct, c < 100)
    (d : Nat) (ih : d = 0 ∨ SayAt Γ (n + 2) ns nm ct ps d) : SayAt Γ (n + 3) ns nm ct ps (d + 1) := fun s c => by
  have nx := next_bo (n := n) g1 g2 ns s [.int (c : Int)] wfuel
  have e5 : ((d + 1 : Nat) : Int) = (d : Int) + 1 := by omega
  obtain ⟨v, hv⟩ : ∃ v, cell ns s = v := ⟨_, rfl⟩
  rw [hv] at nx
  have lp : opB1 .len (.p (strsT ps)) = some (.p (.int ps.length)) := by simp only [strsT, len_t, List.length_map]
  have ln : opB1 .len (.p (strsL nm)) = some (.p (.int nm.length)) := by simp only [strsL, len_l, List.length_map]
  have pp : (0 : Int) < ps.length := by omega
  have np : (0 : Int) < nm.length := by omega
  have i0 : 0 ≤ v / 9 % (ps.length : Int) := Int.emod_nonneg _ (by omega)
  have i1 : v / 9 % (ps.length : Int) < ps.length := Int.emod_lt_of_pos _ pp
  have j0 : 0 ≤ v / 9 % (nm.length : Int) := Int.emod_nonneg _ (by omega)
  have j1 : v / 9 % (nm.length : Int) < nm.length := Int.emod_lt_of_pos _ np
  by_cases hA : d = 0 ∨ v % 9 = 0
  · have hlt : (v / 9 % (ps.length : Int)).toNat < ps.length := by omega
    refine ⟨.tuple [.str "name", .str (ps[(v / 9 % (ps.length : Int)).toNat])], s + 1, c, .ow (.p (strsL nm)), .ow (.p (natsL ct)), .ow (.p (strsT ps)), .ow (.p (.int ((d + 1 : Nat) : Int))), .inl ⟨_, List.getElem_mem hlt, rfl⟩, ?_⟩
    have hat : atI (ps.map PyData.str) (v / 9 % (ps.length : Int)) = some (.str (ps[(v / 9 % (ps.length : Int)).toNat])) := by
      rw [atI_nat i0 (by rw [List.length_map]; omega)]
      simp [hlt]
    have kx : ∀ (e : E) env, kIx2 e (.p (strsT ps)) (.p (.int (v / 9 % (ps.length : Int)))) env = R.of (some (.p (.str (ps[(v / 9 % (ps.length : Int)).toNat])))) env := fun _ _ => by
      simp only [strsT, kIx2_t, hat, Option.map_some]
    rw [run_def g3 rfl]
    rcases hA with rfl | h0
    · simp [t__law_saying, nx, outOf, lp, hps, kx]
    · by_cases hd : (d : Int) + 1 < 2
      · simp [t__law_saying, nx, outOf, lp, hps, kx, hd]
      · simp [t__law_saying, nx, outOf, lp, hps, kx, hd, h0]
  · have hd0 : d ≠ 0 := fun h => hA (.inl h)
    have k0 : v % 9 ≠ 0 := fun h => hA (.inr h)
    have hd : ¬ ((d : Int) + 1 < 2) := by omega
    have ih := ih.resolve_left hd0
    by_cases k1 : v % 9 = 1
    · refine ⟨.tuple [.str "bud"], s + 1, c, .ow (.p (strsL nm)), .ow (.p (natsL ct)), .ow (.p (strsT ps)), .ow (.p (.int ((d + 1 : Nat) : Int))), .inr (.inl rfl), ?_⟩
      rw [run_def g3 rfl]
      simp [t__law_saying, nx, outOf, hd, k1]
    · by_cases k23 : v % 9 = 2 ∨ v % 9 = 3
      · obtain ⟨y, s1, c1, o2, o3, o4, o5, hy, hr⟩ := ih (s + 1) c
        obtain ⟨sp, hsp⟩ : ∃ sp : Int, ((s + 1 : Nat) : Int) = sp := ⟨_, rfl⟩
        simp only [spotD] at hr
        rw [hsp] at nx hr
        have hc := fun e6 e7 e8 e9 e10 e11 => call_rbo (w := wfuel) (env := [.ro (.rl (ns.map PyData.int)), .bo (.ml [.int sp, .int (c : Int)]), .ow (.p (strsL nm)), .ow (.p (natsL ct)), .ow (.p (strsT ps)), .ow (.p (.int ((d : Int) + 1))), e6, e7, e8, e9, e10, e11]) (xs := [strsL nm, natsL ct, strsT ps, .int (d : Int)]) (i := 0) (j := 1) hr rfl (by decide) rfl rfl
        simp only [List.map_cons, List.map_nil, List.set_cons_succ, List.set_cons_zero] at hc
        have ed : (d : Int) + 1 - 1 = d := by omega
        rcases k23 with h | h
        · refine ⟨.tuple [.str "left", y], s1, c1, .ow (.p (strsL nm)), .ow (.p (natsL ct)), .ow (.p (strsT ps)), .ow (.p (.int ((d + 1 : Nat) : Int))), .inr (.inr (.inl ⟨y, hy, .inl rfl⟩)), ?_⟩
          rw [run_def g3 rfl, e5]
          simp [t__law_saying, nx, outOf, hd, h, ed, hc, atI, ixN, quiet]
        · refine ⟨.tuple [.str "right", y], s1, c1, .ow (.p (strsL nm)), .ow (.p (natsL ct)), .ow (.p (strsT ps)), .ow (.p (.int ((d + 1 : Nat) : Int))), .inr (.inr (.inl ⟨y, hy, .inr rfl⟩)), ?_⟩
          rw [run_def g3 rfl, e5]
          simp [t__law_saying, nx, outOf, hd, h, ed, hc, atI, ixN, quiet]
      · have k2 : v % 9 ≠ 2 := fun h => k23 (.inl h)
        have k3 : v % 9 ≠ 3 := fun h => k23 (.inr h)
        have v0 : 0 ≤ v % 9 := Int.emod_nonneg _ (by omega)
        have v1 : v % 9 < 9 := Int.emod_lt_of_pos _ (by omega)
        by_cases k4 : v % 9 = 4
        · obtain ⟨ys, s', c', hl, hy, E⟩ := row_loop' (n := n + 2) wfuel ns nm ct ps d (fun _ _ => True) ih (.ow (.p (.int v))) (.ow (.p (.int 4))) (.ow (.p (.int 2))) (.ow (.p (.int (v / 9 % (nm.length : Int))))) ((List.range 2).map fun (i : Nat) => PyData.int (i : Int)) [] (s + 1) c (by simp)
          obtain ⟨sp, hsp⟩ : ∃ sp : Int, ((s + 1 : Nat) : Int) = sp := ⟨_, rfl⟩
          simp only [spotD] at E
          rw [hsp] at nx E
          have hl2 : ys.length = 2 := by simpa using hl
          have b1 : 1 + ys.length ≤ sizeLine := big_line' (by omega)
          refine ⟨.tuple (.str "pair" :: ys), s', c', .ow (.p (strsL nm)), .ow (.p (natsL ct)), .ow (.p (strsT ps)), .ow (.p (.int ((d + 1 : Nat) : Int))), .inr (.inr (.inr (.inl ⟨ys, hl2, hy, rfl⟩))), ?_⟩
          rw [run_def g3 rfl, e5]
          simp [t__law_saying, nx, outOf, hd, k4, ln, hn]
          rw [E]
          simp [k4, b1]
        · by_cases k56 : v % 9 = 5 ∨ v % 9 = 6
          · obtain ⟨ys, s', c', hl, hy, E⟩ := row_loop' (n := n + 2) wfuel ns nm ct ps d (fun _ _ => True) ih (.ow (.p (.int v))) (.ow (.p (.int (v % 9)))) (.ow (.p (.int 3))) (.ow (.p (.int (v / 9 % (nm.length : Int))))) ((List.range 3).map fun (i : Nat) => PyData.int (i : Int)) [] (s + 1) c (by simp)
            obtain ⟨sp, hsp⟩ : ∃ sp : Int, ((s + 1 : Nat) : Int) = sp := ⟨_, rfl⟩
            simp only [spotD] at E
            rw [hsp] at nx E
            have hl2 : ys.length = 3 := by simpa using hl
            have b1 : 1 + ys.length ≤ sizeLine := big_line' (by omega)
            refine ⟨.tuple (.str "fork" :: ys), s', c', .ow (.p (strsL nm)), .ow (.p (natsL ct)), .ow (.p (strsT ps)), .ow (.p (.int ((d + 1 : Nat) : Int))), .inr (.inr (.inr (.inr (.inl ⟨ys, hl2, hy, rfl⟩)))), ?_⟩
            rw [run_def g3 rfl, e5]
            rcases k56 with h | h
            · rw [h] at E
              simp [t__law_saying, nx, outOf, hd, h, ln, hn]
              rw [E]
              simp [b1]
            · rw [h] at E
              simp [t__law_saying, nx, outOf, hd, h, ln, hn]
              rw [E]
              simp [b1]
          · have h78 : v % 9 = 7 ∨ v % 9 = 8 := by omega
            by_cases hc0 : c = 0
            · refine ⟨.tuple [.str "bud"], s + 1, c, .ow (.p (strsL nm)), .ow (.p (natsL ct)), .ow (.p (strsT ps)), .ow (.p (.int ((d + 1 : Nat) : Int))), .inr (.inl rfl), ?_⟩
              rw [run_def g3 rfl]
              rcases h78 with h | h <;> (simp [t__law_saying, nx, outOf, hd, h, ln, hn, quiet, atI, ixN]; simp [hc0])
            · have jlt : (v / 9 % (nm.length : Int)).toNat < nm.length := by omega
              have jlt2 : (v / 9 % (nm.length : Int)).toNat < ct.length := by omega
              generalize hj : (v / 9 % (nm.length : Int)).toNat = j at jlt jlt2
              have ej : v / 9 % (nm.length : Int) = (j : Int) := by omega
              have cs := small _ (List.getElem_mem jlt2)
              obtain ⟨ys, s', c', hl, hy, E⟩ := row_loop' (n := n + 2) wfuel ns nm ct ps d (fun _ _ => True) ih (.ow (.p (.int v))) (.ow (.p (.int (v % 9)))) (.ow (.p (.int (ct[j] : Int)))) (.ow (.p (.int (j : Int)))) ((List.range ct[j]).map fun (i : Nat) => PyData.int (i : Int)) [] (s + 1) (c - 1) (by simp; omega)
              obtain ⟨sp, hsp⟩ : ∃ sp : Int, ((s + 1 : Nat) : Int) = sp := ⟨_, rfl⟩
              simp only [spotD] at E
              rw [show ((c - 1 : Nat) : Int) = (c : Int) - 1 by omega] at E
              rw [hsp] at nx E
              have hl2 : ys.length = ct[j] := by simpa using hl
              have rq := fun env => rg1D_nat (q := ct[j]) env (by omega)
              have ax : atI (nm.map PyData.str) (j : Int) = some (.str nm[j]) := by
                rw [atI_nat (by omega) (by simp; omega)]
                simp [jlt]
              have cx : atI (ct.map fun (c : Nat) => PyData.int (c : Int)) (j : Int) = some (.int (ct[j] : Int)) := by
                rw [atI_nat (by omega) (by simp; omega)]
                simp [jlt2]
              have kx : ∀ (e : DL.E) env, kIx2 e (.p (strsL nm)) (.p (.int (j : Int))) env = R.of (some (.p (.str nm[j]))) env := fun _ _ => by
                simp only [strsL, kIx2_l, ax, Option.map_some]
              have kc : ∀ (e : DL.E) env, kIx2 e (.p (natsL ct)) (.p (.int (j : Int))) env = R.of (some (.p (.int (ct[j] : Int)))) env := fun _ _ => by
                simp only [natsL, kIx2_l, cx, Option.map_some]
              refine ⟨.tuple [.str "send", .str nm[j], .tuple ys], s', c', .ow (.p (strsL nm)), .ow (.p (natsL ct)), .ow (.p (strsT ps)), .ow (.p (.int ((d + 1 : Nat) : Int))), .inr (.inr (.inr (.inr (.inr ⟨j, nm[j], ys, by simp [jlt], by simp [jlt2, hl2], hy, rfl⟩)))), ?_⟩
              rw [run_def g3 rfl, e5]
              rcases h78 with h | h
              · rw [h] at E
                simp [t__law_saying, nx, outOf, hd, h, ln, hn, hc0, quiet, atI, ixN, ej, kc, rq, -rg1D_i]
                rw [E]
                simp [kx]
              · rw [h] at E
                simp [t__law_saying, nx, outOf, hd, h, ln, hn, hc0, quiet, atI, ixN, ej, kc, rq, -rg1D_i]
                rw [E]
                simp [kx]
theorem say_all (g1 : Γ "_law_cell_at" = some t__law_cell_at) (g2 : Γ "_law_next" = some t__law_next) (g3 : Γ "_law_saying" = some t__law_saying) (ns : List Int) (nm : List Str) (ct : List Nat) (ps : List Str) (hn : 0 < nm.length) (hn2 : nm.length < 1000) (hct : ct.length = nm.length) (hps : 0 < ps.length) (hps2 : ps.length < 1000) (small : ∀ c ∈ ct, c < 100) (m : Nat) :
    ∀ d : Nat, SayAt Γ (m + d + 3) ns nm ct ps (d + 1)
  | 0 => say_step (n := m) g1 g2 g3 ns nm ct ps hn hn2 hct hps hps2 small 0 (.inl rfl)
  | d + 1 => say_step (n := m + d + 1) g1 g2 g3 ns nm ct ps hn hn2 hct hps hps2 small (d + 1) (.inr (say_all g1 g2 g3 ns nm ct ps hn hn2 hct hps hps2 small m d))
end
/-! ### programs by cells -/
/-- an errand by these names -/
def isErr (nm : List Str) (ct : List Nat) (dd : Nat) (i : Nat) (x : P) : Prop := ∃ (f : Str) (ps : List Str) (b : P), nm[i]? = some f ∧ ct[i]? = some ps.length ∧ 0 < ps.length ∧ ps.length ≤ 4 ∧ (∀ s ∈ ps, nok s) ∧ ps.Nodup ∧ isSay nm ct ps dd b ∧ x = .tuple [.str f, strsT ps, b]
structure Nms (nm : List Str) (ct : List Nat) : Prop where
  pos : 0 < nm.length
  le : nm.length ≤ 4
  ok : ∀ s ∈ nm, nok s
  nd : nm.Nodup
  ctl : ct.length = nm.length
  sm : ∀ c ∈ ct, 0 < c ∧ c ≤ 4
def isProg (nm : List Str) (ct : List Nat) (dd : Nat) (pr : List P) : Prop := pr.length = nm.length ∧ ∀ i x, pr[i]? = some x → isErr nm ct dd i x
/-- the parameters of the errand i -/
def mineOf (q : List Str) (i c : Nat) : List Str := (q.drop i ++ q.take i).take c
theorem mine_ok {q : List Str} (hq : q.length = 4) (ok : (∀ s ∈ q, nok s) ∧ q.Nodup) {i c : Nat} (hi : i < 4) (hc : 0 < c ∧ c ≤ 4) : (mineOf q i c).length = c ∧ (∀ s ∈ mineOf q i c, nok s) ∧ (mineOf q i c).Nodup := by
  have hm : ∀ s ∈ mineOf q i c, s ∈ q := fun s hs => by
    rcases List.mem_append.mp (List.mem_of_mem_take hs) with h | h
    · exact List.mem_of_mem_drop h
    · exact List.mem_of_mem_take h
  refine ⟨by simp [mineOf]; omega, fun s hs => ok.1 s (hm s hs), ?_⟩
  have h1 : (q.drop i ++ q.take i).Nodup := List.perm_append_comm.nodup_iff.mp (by rw [List.take_append_drop]; exact ok.2)
  exact h1.sublist (List.take_sublist _ _)
section
variable {Γ : Tbl} {n : Nat}
theorem drawn_loopB (w : Nat) (ns : List Int) (nm : List Str) (ct : List Nat) (q : List Str) (dd : Nat) (N : Nms nm ct) (hq : q.length = 4) (okq : (∀ s ∈ q, nok s) ∧ q.Nodup)
    (say : ∀ ps : List Str, 0 < ps.length → ps.length ≤ 4 → SayAt Γ n ns nm ct ps dd) (e2 e4 e5 : Sl) : ∀ (r i s c : Nat) (acc : List P) (k0 m0 : Sl), i + r = nm.length → acc.length = i → (∀ j x, acc[j]? = some x → isErr nm ct dd j x) → free k0 = true → free m0 = true →
    ∃ (acc' : List P) (s' c' : Nat) (k' m' : Sl), isProg nm ct dd acc' ∧
      forL (bFor1 ⟨run Γ n, w⟩ 10 w__law_drawn_1) ((List.range' i r).map fun (k : Nat) => PyData.int (k : Int))
        [.ro (.rl (ns.map PyData.int)), .bo (spotD s c), e2, .ow (.p (.int (dd : Int))), e4, e5, .ow (.p (strsL nm)), .ow (.p (strsL q)), .ow (.p (natsL ct)), .ow (.ml acc), k0, m0] =
        .nx [.ro (.rl (ns.map PyData.int)), .bo (spotD s' c'), e2, .ow (.p (.int (dd : Int))), e4, e5, .ow (.p (strsL nm)), .ow (.p (strsL q)), .ow (.p (natsL ct)), .ow (.ml acc'), k', m']
  | 0, i, s, c, acc, k0, m0, hi, ha, hh, _, _ => ⟨acc, s, c, k0, m0, ⟨by omega, hh⟩, rfl⟩
  | r + 1, i, s, c, acc, k0, m0, hi, ha, hh, hk, hm => by
    have i4 : i < nm.length := by omega
    have ilt : i < 4 := by have := N.le; omega
    have ic : i < ct.length := by rw [N.ctl]; exact i4
    have hc := N.sm _ (List.getElem_mem ic)
    obtain ⟨m1, m2, m3⟩ := mine_ok hq okq ilt hc
    obtain ⟨b, s1, c1, o2, o3, o4, o5, hb, hr⟩ := say (mineOf q i ct[i]) (by omega) (by omega) s c
    have E1 : isErr nm ct dd i (.tuple [.str nm[i], strsT (mineOf q i ct[i]), b]) := ⟨nm[i], mineOf q i ct[i], b, by simp [i4], by rw [m1]; simp [ic], by omega, by omega, m2, m3, hb, rfl⟩
    obtain ⟨acc', s', c', k', m', h1, h2⟩ := drawn_loopB w ns nm ct q dd N hq okq say e2 e4 e5 r (i + 1) s1 c1 (acc ++ [.tuple [.str nm[i], strsT (mineOf q i ct[i]), b]]) (.ow (.p (.int (i : Int)))) (.ow (.p (strsT (mineOf q i ct[i])))) (by omega) (by simp [ha]) (fun j x hx => by
      rcases Nat.lt_or_ge j acc.length with h | h
      · exact hh j x (by rw [List.getElem?_append_left h] at hx; exact hx)
      · rw [List.getElem?_append_right h] at hx
        have hj : j - acc.length = 0 := by
          have := (List.getElem?_eq_some_iff.mp hx).1
          simp at this; omega
        rw [hj, List.getElem?_cons_zero] at hx
        cases hx
        have : j = i := by omega
        rw [this]
        exact E1) rfl rfl
    refine ⟨acc', s', c', k', m', h1, ?_⟩
    rw [List.range'_succ, List.map_cons, forL_cons, ← h2]
    have hcall := call_rbo (w := w) (env := [.ro (.rl (ns.map PyData.int)), .bo (spotD s c), e2, .ow (.p (.int (dd : Int))), e4, e5, .ow (.p (strsL nm)), .ow (.p (strsL q)), .ow (.p (natsL ct)), .ow (.ml acc), .ow (.p (.int (i : Int))), .ow (.p (strsT (mineOf q i ct[i])))])
      (xs := [strsL nm, natsL ct, strsT (mineOf q i ct[i]), .int (dd : Int)]) (i := 0) (j := 1) hr rfl (by decide) rfl rfl
    simp only [List.map_cons, List.map_nil, List.set_cons_succ, List.set_cons_zero] at hcall
    have e4' : (i : Int) % 4 = i := by omega
    have x1 : atI (nm.map PyData.str) (i : Int) = some (.str nm[i]) := by
      rw [atI_nat (by omega) (by simp; omega)]
      simp [i4]
    have x2 : atI (ct.map fun (c : Nat) => PyData.int (c : Int)) (i : Int) = some (.int (ct[i] : Int)) := by
      rw [atI_nat (by omega) (by simp; omega)]
      simp [ic]
    have k1 : ∀ (e : DL.E) env, kIx2 e (.p (strsL nm)) (.p (.int (i : Int))) env = R.of (some (.p (.str nm[i]))) env := fun _ _ => by
      simp only [strsL, kIx2_l, x1, Option.map_some]
    have k2 : ∀ (e : DL.E) env, kIx2 e (.p (natsL ct)) (.p (.int (i : Int))) env = R.of (some (.p (.int (ct[i] : Int)))) env := fun _ _ => by
      simp only [natsL, kIx2_l, x2, Option.map_some]
    have y1 : opSl (.p (strsL q)) (some (i : Int)) none = some (.ml ((q.drop i).map PyData.str)) := by
      simp only [strsL, opSl_l]
      rw [cutL_from _ _ (by omega) (by simp; omega), Int.toNat_natCast, List.map_drop]
    have y2 : opSl (.p (strsL q)) none (some (i : Int)) = some (.ml ((q.take i).map PyData.str)) := by
      simp only [strsL, opSl_l]
      rw [cutL_upto _ _ (by omega) (by simp; omega), Int.toNat_natCast, List.map_take]
    have y3 : cutL ((q.drop i).map PyData.str ++ (q.take i).map PyData.str) none (some (ct[i] : Int)) = (mineOf q i ct[i]).map PyData.str := by
      rw [cutL_upto _ _ (by omega) (by simp; omega), Int.toNat_natCast, ← List.map_append, ← List.map_take]
      rfl
    have y4 : ((q.drop i).map PyData.str).length + ((q.take i).map PyData.str).length ≤ sizeLine := line_le (by simp; omega)
    have y5 : acc.length < sizeLine := big_line (by have := N.le; omega)
    generalize mineOf q i ct[i] = mi at *
    generalize ct[i] = cti at *
    generalize nm[i] = nmi at *
    simp [bdR_free, hk, hm, w__law_drawn_1, e4', y1, y2, -List.map_drop, -List.map_take, -List.length_map, y4, k2, quiet, y3, k1, hcall, y5]
end
section
variable {Γ : Tbl} {n : Nat}
theorem four_of {q : List Str} (h : (q.length : Int) = 4) : q.length = 4 := by omega
theorem drawn_runB (g1 : Γ "_law_cell_at" = some t__law_cell_at) (g2 : Γ "_law_next" = some t__law_next) (g3 : Γ "_law_saying" = some t__law_saying) (g4 : Γ "_law_names" = some t__law_names) (g5 : Γ "_law_drawn" = some t__law_drawn)
    (ns : List Int) (s c m d k : Nat) (hm : 0 < m) (hm4 : m ≤ 4) : ∃ (nm : List Str) (ct : List Nat) (pr : List P) (s' c' : Nat) (o2 o3 : Sl), Nms nm ct ∧ nm.length ≤ m ∧ isProg nm ct (d + 1) pr ∧
      run Γ (k + d + 4) "_law_drawn" [.ro (.rl (ns.map PyData.int)), .bo (spotD s c), .ow (.p (.int (m : Int))), .ow (.p (.int ((d + 1 : Nat) : Int)))] = .ok (.p (.list pr)) [.ro (.rl (ns.map PyData.int)), .bo (spotD s' c'), o2, o3] := by
  have nx1 := next_bo (n := k + d + 1) g1 g2 ns s [.int (c : Int)] wfuel
  have nx2 := next_bo (n := k + d + 1) g1 g2 ns (s + 1) [.int (c : Int)] wfuel
  obtain ⟨v, hv⟩ : ∃ v, cell ns s = v := ⟨_, rfl⟩
  obtain ⟨u, hu⟩ : ∃ v, cell ns (s + 1) = v := ⟨_, rfl⟩
  rw [hv] at nx1
  rw [hu] at nx2
  have a0 : 0 ≤ v % (m : Int) := Int.emod_nonneg _ (by omega)
  have a1 : v % (m : Int) < m := Int.emod_lt_of_pos _ (by omega)
  obtain ⟨nm, n1, ⟨n2, n3⟩, hn⟩ := names_gives (Γ := Γ) (n := k + d + 2) g4 (v / m % 100000000000000) (1 + v % m) (by omega) (by omega)
  obtain ⟨q, q1, okq, hq⟩ := names_gives (Γ := Γ) (n := k + d + 2) g4 (u % 100000000000000) 4 (by omega) (by omega)
  have q4 : q.length = 4 := by omega
  have nml : nm.length = (1 + v % m).toNat := by omega
  let ctf : Nat → Nat := fun i => (1 + v / (7 * ((i : Int) + 1)) % 4).toNat
  have hct : ∀ i : Nat, ((ctf i : Nat) : Int) = 1 + v / (7 * ((i : Int) + 1)) % 4 := fun i => by
    have h0 : 0 ≤ v / (7 * ((i : Int) + 1)) % 4 := Int.emod_nonneg _ (by omega)
    show (((1 + v / (7 * ((i : Int) + 1)) % 4).toNat : Nat) : Int) = _
    omega
  have hct2 : ∀ i : Nat, 0 < ctf i ∧ ctf i ≤ 4 := fun i => by
    have h0 : 0 ≤ v / (7 * ((i : Int) + 1)) % 4 := Int.emod_nonneg _ (by omega)
    have h1 : v / (7 * ((i : Int) + 1)) % 4 < 4 := Int.emod_lt_of_pos _ (by omega)
    have := hct i
    omega
  have N : Nms nm ((List.range nm.length).map ctf) := ⟨by omega, by omega, n2, n3, by simp, fun c hc => by
    obtain ⟨i, _, rfl⟩ := List.mem_map.mp hc
    exact hct2 i⟩
  have say : ∀ ps : List Str, 0 < ps.length → ps.length ≤ 4 → SayAt Γ (k + d + 3) ns nm ((List.range nm.length).map ctf) ps (d + 1) := fun ps h1 h2 =>
    say_all g1 g2 g3 ns nm _ ps N.pos (by have := N.le; omega) N.ctl h1 (by omega) (fun c hc => by have := N.sm c hc; omega) k d
  obtain ⟨pr, s', c', k', m', hp, hl⟩ := drawn_loopB wfuel ns nm _ q (d + 1) N q4 okq say (.ow (.p (.int (m : Int)))) (.ow (.p (.int v))) (.ow (.p (.int (1 + v % m)))) nm.length 0 (s + 1 + 1) c [] .no .no (by omega) rfl (fun j x h => by simp at h) rfl rfl
  refine ⟨nm, _, pr, s', c', .ow (.p (.int (m : Int))), .ow (.p (.int ((d + 1 : Nat) : Int))), N, by omega, hp, ?_⟩
  have lc : ∀ (C : Calls) (e9 e11 : Sl), lcLoop (lcF 10 (ev C (.bin .add (.k (.int 1)) (.bin .mod (.bin .fdiv (.v 4) (.bin .mul (.k (.int 7)) (.bin .add (.v 10) (.k (.int 1))))) (.k (.int 4)))))) ((List.range nm.length).map fun (i : Nat) => PyData.int (i : Int)) []
      [.ro (.rl (ns.map PyData.int)), .bo (spotD (s + 1 + 1) c), .ow (.p (.int (m : Int))), .ow (.p (.int ((d + 1 : Nat) : Int))), .ow (.p (.int v)), .ow (.p (.int (1 + v % m))), .ow (.p (strsL nm)), .ow (.p (strsL q)), .no, e9, .no, e11] =
      .ok ([] ++ (List.range nm.length).map fun i => PyData.int ((ctf i : Nat) : Int)) [.ro (.rl (ns.map PyData.int)), .bo (spotD (s + 1 + 1) c), .ow (.p (.int (m : Int))), .ow (.p (.int ((d + 1 : Nat) : Int))), .ow (.p (.int v)), .ow (.p (.int (1 + v % m))), .ow (.p (strsL nm)), .ow (.p (strsL q)), .no, e9, .no, e11] := fun C e9 e11 => by
    refine lcLoop_idx _ _ (fun i hi => ?_) (by have := N.le; simp; omega)
    rw [List.mem_range] at hi
    have := N.le
    have b1 : (0 : Int) < 7 * ((i : Int) + 1) ∧ 7 * ((i : Int) + 1) < 1073741824 := by omega
    have b2 : big 7 = true := by decide
    simp only [spotD]
    generalize ((s + 1 + 1 : Nat) : Int) = A
    generalize ((d + 1 : Nat) : Int) = B
    simp [b1.1, b1.2, b2, hct i]
  have rq := fun env => rg1D_nat (q := nm.length) env (by have := N.le; omega)
  have e1 : (nm.length : Int) = 1 + v % m := n1
  rw [run_def g5 rfl]
  have hnc := hn.c2 (w := wfuel)
  have hqc := hq.c2 (w := wfuel)
  have nat : natsL ((List.range nm.length).map ctf) = .list ((List.range nm.length).map fun i => PyData.int ((ctf i : Nat) : Int)) := by
    simp [natsL, Function.comp_def]
  rw [nat] at hl
  have hm9 : (m : Int) < 1073741824 := by omega
  simp only [spotD] at nx1 nx2 lc hl ⊢
  rw [← List.range_eq_range'] at hl
  simp only [e1] at rq
  generalize ((s + 1 + 1 : Nat) : Int) = A at *
  generalize ((s + 1 : Nat) : Int) = A1 at *
  generalize ((d + 1 : Nat) : Int) = B at *
  simp [t__law_drawn, nx1, nx2, hnc, hqc, hm, hm9, rq, lc, hl, outOf, -rg1D_i]
end
/-! ### sayings as data of our own, and their texts -/
inductive K where
  | pair | fork | send (f : List Nat)
mutual
inductive Sy where
  | nm (w : List Nat) | bud | un (r : Bool) (x : Sy) | row (k : K) (l : Sys)
inductive Sys where
  | nil | cons (x : Sy) (l : Sys)
end
def K.mk : K → List P → P
  | .pair, l => .tuple (.str "pair" :: l)
  | .fork, l => .tuple (.str "fork" :: l)
  | .send f, l => .tuple [.str "send", .str (st f), .tuple l]
def K.op : K → List Nat
  | .pair => [91]
  | .fork => [123]
  | .send f => f ++ [40]
def K.cl : K → Nat
  | .pair => 93
  | .fork => 125
  | .send _ => 41
mutual
def Sy.p : Sy → P
  | .nm w => .tuple [.str "name", .str (st w)]
  | .bud => .tuple [.str "bud"]
  | .un r x => .tuple [.str (if r = true then "right" else "left"), x.p]
  | .row k l => k.mk l.ps
def Sys.ps : Sys → List P
  | .nil => []
  | .cons x l => x.p :: l.ps
end
mutual
/-- a saying's text -/
def Sy.cs : Sy → List Nat
  | .nm w => w
  | .bud => [45]
  | .un r x => (if r = true then 62 else 60) :: x.cs
  | .row k l => k.op ++ (l.cs ++ [k.cl])
def Sys.cs : Sys → List Nat
  | .nil => []
  | .cons x l => x.cs ++ l.tl
def Sys.tl : Sys → List Nat
  | .nil => []
  | .cons x l => 32 :: (x.cs ++ l.tl)
end
def Sys.len : Sys → Nat
  | .nil => 0
  | .cons _ l => l.len + 1
def isLow (c : Nat) : Bool := decide (97 ≤ c) && decide (c ≤ 122)
def wordB (w : List Nat) : Bool := w.all isLow && decide (1 ≤ w.length) && decide (w.length ≤ 8)
def K.fits : K → Nat → Bool
  | .pair, n => n == 2
  | .fork, n => n == 3
  | .send _, n => decide (n ≤ 4)
theorem fits_four {k : K} {n : Nat} (h : k.fits n = true) : n ≤ 4 := by
  cases k <;> simp [K.fits] at h <;> omega
def K.ok : K → Bool
  | .send f => wordB f
  | _ => true
mutual
/-- names are words, rows fit -/
def Sy.ok : Sy → Bool
  | .nm w => wordB w
  | .bud => true
  | .un _ x => x.ok
  | .row k l => k.ok && k.fits l.len && decide (0 < l.len) && l.ok
def Sys.ok : Sys → Bool
  | .nil => true
  | .cons x l => x.ok && l.ok
end
mutual
def Sy.dep : Sy → Nat
  | .nm _ => 1
  | .bud => 1
  | .un _ x => x.dep + 1
  | .row _ l => l.dep + 1
def Sys.dep : Sys → Nat
  | .nil => 0
  | .cons x l => max x.dep l.dep
end
theorem Sys.ps_len : ∀ l : Sys, l.ps.length = l.len
  | .nil => rfl
  | .cons x l => by simp only [Sys.ps, Sys.len, List.length_cons, Sys.ps_len l]
/-! ### the reader -/
/-- the sayings up to a sign, read by f -/
def prow (f : List Nat → Option (Sy × List Nat)) (stop : Nat) : Nat → List Nat → Option (Sys × List Nat)
  | 0, _ => none
  | n + 1, cs => match f cs with
    | none => none
    | some (_, []) => none
    | some (x, c :: r) => if c = stop then some (.cons x .nil, r) else if c = 32 then (match prow f stop n r with
      | none => none
      | some (l, q) => some (.cons x l, q)) else none
def rowK (f : List Nat → Option (Sy × List Nat)) (k : K) (r : List Nat) : Option (Sy × List Nat) := match prow f k.cl (r.length + 1) r with
  | none => none
  | some (l, q) => if k.fits l.len = true then some (.row k l, q) else none
/-- what a word begins -/
def wordK (f : List Nat → Option (Sy × List Nat)) (w : List Nat) : List Nat → Option (Sy × List Nat)
  | [] => some (.nm w, [])
  | c :: q => if c = 40 then rowK f (.send w) q else some (.nm w, c :: q)
/-- a saying at most d deep at the head of a text -/
def psay : Nat → List Nat → Option (Sy × List Nat)
  | 0, _ => none
  | _ + 1, [] => none
  | d + 1, c :: r => if c = 45 then some (.bud, r)
    else if c = 60 ∨ c = 62 then (match psay d r with
      | none => none
      | some (x, q) => some (.un (decide (c = 62)) x, q))
    else if c = 91 then rowK (psay d) .pair r
    else if c = 123 then rowK (psay d) .fork r
    else if wordB ((c :: r).takeWhile isLow) = true then wordK (psay d) ((c :: r).takeWhile isLow) ((c :: r).dropWhile isLow) else none
/-- what stands behind a name's text -/
def edge : List Nat → Prop
  | [] => True
  | c :: _ => isLow c = false ∧ c ≠ 40
theorem low_facts {c : Nat} (h : isLow c = true) : c ≠ 45 ∧ c ≠ 60 ∧ c ≠ 62 ∧ c ≠ 91 ∧ c ≠ 123 ∧ c ≠ 32 ∧ c ≠ 58 ∧ c ≠ 40 := by
  simp only [isLow, Bool.and_eq_true, decide_eq_true_eq] at h
  omega
theorem word_cons {w : List Nat} (h : wordB w = true) : ∃ c r, w = c :: r ∧ isLow c = true := by
  cases w with
  | nil => simp [wordB] at h
  | cons c r =>
    simp only [wordB, Bool.and_eq_true, List.all_cons] at h
    exact ⟨c, r, rfl, h.1.1.1⟩
theorem word_all {w : List Nat} (h : wordB w = true) : w.all isLow = true := by
  simp only [wordB, Bool.and_eq_true] at h
  exact h.1.1
theorem take_word {w q : List Nat} (h : w.all isLow = true) (hq : ∀ c r, q = c :: r → isLow c = false) : (w ++ q).takeWhile isLow = w ∧ (w ++ q).dropWhile isLow = q := by
  induction w with
  | nil =>
    cases q with
    | nil => simp
    | cons c r => simp [List.takeWhile_cons, List.dropWhile_cons, hq c r rfl]
  | cons c w ih =>
    simp only [List.all_cons, Bool.and_eq_true] at h
    have := ih h.2
    simp [List.takeWhile_cons, List.dropWhile_cons, h.1, this]
theorem psay_word (d : Nat) {w q : List Nat} (h : wordB w = true) (hq : ∀ c r, q = c :: r → isLow c = false) : psay (d + 1) (w ++ q) = wordK (psay d) w q := by
  obtain ⟨c, r, rfl, hc⟩ := word_cons h
  have f := low_facts hc
  have t := take_word (word_all h) hq
  simp only [List.cons_append] at t ⊢
  simp only [psay]
  rw [if_neg f.1, if_neg (by omega), if_neg f.2.2.2.1, if_neg f.2.2.2.2.1, t.1, t.2, if_pos h]
theorem psay_nm (d : Nat) {w q : List Nat} (h : wordB w = true) (hq : edge q) : psay (d + 1) (w ++ q) = some (.nm w, q) := by
  rw [psay_word d h (fun c r e => by subst e; exact hq.1)]
  cases q with
  | nil => rfl
  | cons c r =>
    have : c ≠ 40 := hq.2
    simp [wordK, this]
theorem psay_send (d : Nat) {w q : List Nat} (h : wordB w = true) : psay (d + 1) (w ++ 40 :: q) = rowK (psay d) (.send w) q := by
  rw [psay_word d h (fun c r e => by cases e; rfl)]
  simp [wordK]
/-- the head of a row -/
theorem psay_op (d : Nat) (k : K) (q : List Nat) (h : k.ok = true) : psay (d + 1) (k.op ++ q) = rowK (psay d) k q := by
  cases k with
  | pair => rfl
  | fork => rfl
  | send f =>
    have := psay_send d (q := q) h
    simpa [K.op] using this
/-- no saying's text is empty, and each row's text is as long as its count at least -/
theorem cs_pos : ∀ x : Sy, x.ok = true → 0 < x.cs.length
  | .nm w, h => by
    obtain ⟨c, r, rfl, _⟩ := word_cons h
    simp [Sy.cs]
  | .bud, _ => by simp [Sy.cs]
  | .un r x, _ => by simp [Sy.cs]
  | .row k l, _ => by simp only [Sy.cs, List.length_append, List.length_cons]; omega
theorem edge_sep (q : List Nat) : edge (32 :: q) := by simp [edge, isLow]
theorem edge_cl (k : K) (q : List Nat) : edge (k.cl :: q) := by cases k <;> simp [edge, isLow, K.cl]
theorem cl_ne (k : K) : (32 : Nat) ≠ k.cl := by cases k <;> simp [K.cl]
theorem prow_cut {f : List Nat → Option (Sy × List Nat)} {stop n : Nat} {x : Sy} {cs r : List Nat} (h : f cs = some (x, stop :: r)) : prow f stop (n + 1) cs = some (.cons x .nil, r) := by
  simp [prow, h]
theorem prow_more {f : List Nat → Option (Sy × List Nat)} {stop n : Nat} {x : Sy} {cs r : List Nat} (h : f cs = some (x, 32 :: r)) (hs : (32 : Nat) ≠ stop) : prow f stop (n + 1) cs = (match prow f stop n r with
      | none => none
      | some (l, q) => some (.cons x l, q)) := by
  simp [prow, h, hs]
theorem prow_none {f : List Nat → Option (Sy × List Nat)} {stop n : Nat} {cs : List Nat} (h : f cs = none) : prow f stop (n + 1) cs = none := by
  simp [prow, h]
mutual
/-- a text read back; where it is too deep, it is none -/
theorem psay_cs : ∀ (x : Sy) (d : Nat) (q : List Nat), x.ok = true → edge q → psay d (x.cs ++ q) = if x.dep ≤ d then some (x, q) else none
  | .nm w, 0, q, h, hq => by simp [psay, Sy.dep]
  | .nm w, d + 1, q, h, hq => by
    have hd : (Sy.nm w).dep ≤ d + 1 := by simp [Sy.dep]
    rw [if_pos hd]
    exact psay_nm d h hq
  | .bud, 0, q, h, hq => by simp [psay, Sy.dep]
  | .bud, d + 1, q, h, hq => by simp [psay, Sy.cs, Sy.dep]
  | .un r x, 0, q, h, hq => by simp [psay, Sy.dep]
  | .un r x, d + 1, q, h, hq => by
    have ih := psay_cs x d q h hq
    simp only [Sy.cs, List.cons_append]
    have e : ∀ c : Nat, (c = 60 ∨ c = 62) → psay (d + 1) (c :: (x.cs ++ q)) = (match psay d (x.cs ++ q) with
      | none => none
      | some (x, q) => some (.un (decide (c = 62)) x, q)) := fun c hc => by
      simp only [psay]
      rw [if_neg (by omega), if_pos hc]
    rw [e _ (by cases r <;> simp), ih]
    by_cases hd : x.dep ≤ d
    · have : (Sy.un r x).dep ≤ d + 1 := by simp only [Sy.dep]; omega
      rw [if_pos hd, if_pos this]
      cases r <;> rfl
    · have : ¬ (Sy.un r x).dep ≤ d + 1 := by simp only [Sy.dep]; omega
      rw [if_neg hd, if_neg this]
  | .row k l, 0, q, h, hq => by simp [psay, Sy.dep]
  | .row k l, d + 1, q, h, hq => by
    simp only [Sy.ok, Bool.and_eq_true, decide_eq_true_eq] at h
    simp only [Sy.cs, List.append_assoc, List.cons_append, List.nil_append]
    rw [psay_op d k _ h.1.1.1]
    cases l with
    | nil => simp [Sys.len] at h
    | cons x l =>
      have ho := h.2
      have := prow_cs x l k d (((Sys.cons x l).cs ++ k.cl :: q).length + 1) q h.2 (by
        have := len_cs (.cons x l) h.2
        simp only [List.length_append, List.length_cons]
        omega)
      unfold rowK
      rw [this]
      by_cases hd : (Sys.cons x l).dep ≤ d
      · have : (Sy.row k (.cons x l)).dep ≤ d + 1 := by
          show (Sys.cons x l).dep + 1 ≤ d + 1
          omega
        rw [if_pos hd, if_pos this]
        simp only
        rw [if_pos h.1.1.2]
      · have : ¬ (Sy.row k (.cons x l)).dep ≤ d + 1 := by
          show ¬ (Sys.cons x l).dep + 1 ≤ d + 1
          omega
        rw [if_neg hd, if_neg this]
theorem prow_cs : ∀ (x : Sy) (l : Sys) (k : K) (d n : Nat) (q : List Nat), (Sys.cons x l).ok = true → (Sys.cons x l).len ≤ n → prow (psay d) k.cl n ((Sys.cons x l).cs ++ k.cl :: q) = if (Sys.cons x l).dep ≤ d then some (.cons x l, q) else none
  | x, l, k, d, 0, q, h, hn => by simp [Sys.len] at hn
  | x, .nil, k, d, n + 1, q, h, hn => by
    simp only [Sys.ok, Bool.and_true] at h
    have ih := psay_cs x d (k.cl :: q) h (edge_cl k q)
    simp only [Sys.cs, Sys.tl, List.append_nil, Sys.dep, Nat.max_zero]
    by_cases hd : x.dep ≤ d
    · rw [if_pos hd] at ih ⊢
      exact prow_cut ih
    · rw [if_neg hd] at ih ⊢
      exact prow_none ih
  | x, .cons y l, k, d, n + 1, q, h, hn => by
    simp only [Sys.ok, Bool.and_eq_true] at h
    have ih := psay_cs x d (32 :: ((Sys.cons y l).cs ++ k.cl :: q)) h.1 (edge_sep _)
    have ih2 := prow_cs y l k d n q (by simp [Sys.ok, h.2.1, h.2.2]) (by simp only [Sys.len] at hn ⊢; omega)
    have e : (Sys.cons x (.cons y l)).cs ++ k.cl :: q = x.cs ++ 32 :: ((Sys.cons y l).cs ++ k.cl :: q) := by simp [Sys.cs, Sys.tl]
    rw [e]
    by_cases hd : x.dep ≤ d
    · rw [if_pos hd] at ih
      rw [prow_more ih (cl_ne k), ih2]
      by_cases hd2 : (Sys.cons y l).dep ≤ d
      · have : (Sys.cons x (.cons y l)).dep ≤ d := by
          simp only [Sys.dep] at hd2 ⊢
          omega
        rw [if_pos hd2, if_pos this]
      · have : ¬ (Sys.cons x (.cons y l)).dep ≤ d := by
          simp only [Sys.dep] at hd2 ⊢
          omega
        rw [if_neg hd2, if_neg this]
    · have : ¬ (Sys.cons x (.cons y l)).dep ≤ d := by
        simp only [Sys.dep]
        omega
      rw [if_neg hd] at ih
      rw [if_neg this]
      exact prow_none ih
theorem len_cs : ∀ l : Sys, l.ok = true → l.len ≤ l.cs.length + 1
  | .nil, _ => by simp [Sys.len]
  | .cons x l, h => by
    simp only [Sys.ok, Bool.and_eq_true] at h
    have := len_tl l h.2
    simp only [Sys.len, Sys.cs, List.length_append]
    omega
theorem len_tl : ∀ l : Sys, l.ok = true → l.len ≤ l.tl.length
  | .nil, _ => by simp [Sys.len]
  | .cons x l, h => by
    simp only [Sys.ok, Bool.and_eq_true] at h
    have := len_tl l h.2
    simp only [Sys.len, Sys.tl, List.length_append, List.length_cons]
    omega
end
/-! ### lines, read by a pure reader -/
/-- up to the first colon and blank, and what stands behind -/
def cutAt : List Nat → Option (List Nat × List Nat)
  | [] => none
  | c :: r => if c = 58 ∧ r.head? = some 32 then some ([], r.tail) else (cutAt r).map fun p => (c :: p.1, p.2)
/-- the words between blanks -/
def splitB : List Nat → List (List Nat)
  | [] => [[]]
  | c :: r => if c = 32 then [] :: splitB r else match splitB r with
    | [] => [[c]]
    | w :: ws => (c :: w) :: ws
/-- words, a blank between them -/
def jn : List (List Nat) → List Nat
  | [] => []
  | [w] => w
  | w :: v :: ws => w ++ 32 :: jn (v :: ws)
def fiveB (ws : List (List Nat)) : Bool := decide (2 ≤ ws.length) && decide (ws.length ≤ 5) && ws.all wordB
def pline (cs : List Nat) : Option (List (List Nat) × Sy) := match cutAt cs with
  | none => none
  | some (h, t) => if fiveB (splitB h) = true then (match psay 12 t with
    | some (x, []) => some (splitB h, x)
    | _ => none) else none
theorem cutAt_eq : ∀ {cs h t : List Nat}, cutAt cs = some (h, t) → cs = h ++ 58 :: 32 :: t
  | [], h, t, e => by simp [cutAt] at e
  | c :: r, h, t, e => by
    simp only [cutAt] at e
    by_cases hc : c = 58 ∧ r.head? = some 32
    · rw [if_pos hc] at e
      cases e
      obtain ⟨rfl, h2⟩ := hc
      cases r with
      | nil => cases h2
      | cons d r =>
        cases h2
        rfl
    · rw [if_neg hc] at e
      cases hr : cutAt r with
      | none => rw [hr] at e; cases e
      | some p =>
        rw [hr] at e
        cases e
        rw [cutAt_eq (h := p.1) (t := p.2) hr]
        rfl
/-- no colon and blank at a place -/
def colAt (cs : List Nat) (i : Nat) : Prop := (cs.drop i).take 2 = [58, 32]
theorem cutAt_first : ∀ {cs h t : List Nat}, cutAt cs = some (h, t) → ∀ i, i < h.length → ¬ colAt cs i
  | [], h, t, e, i, hi => by simp [cutAt] at e
  | c :: r, h, t, e, i, hi => by
    simp only [cutAt] at e
    by_cases hc : c = 58 ∧ r.head? = some 32
    · rw [if_pos hc] at e
      cases e
      simp at hi
    · rw [if_neg hc] at e
      cases hr : cutAt r with
      | none => rw [hr] at e; cases e
      | some p =>
        rw [hr] at e
        cases e
        cases i with
        | zero =>
          intro h2
          apply hc
          simp only [colAt, List.drop_zero] at h2
          cases r with
          | nil => simp at h2
          | cons d r => simp at h2; simp [h2]
        | succ i =>
          simp only [List.length_cons] at hi
          exact cutAt_first (h := p.1) (t := p.2) hr i (by omega)
theorem cutAt_none : ∀ {cs : List Nat}, cutAt cs = none → ∀ i, ¬ colAt cs i
  | [], e, i => by simp [colAt]
  | c :: r, e, i => by
    simp only [cutAt] at e
    by_cases hc : c = 58 ∧ r.head? = some 32
    · rw [if_pos hc] at e; cases e
    · rw [if_neg hc] at e
      cases hr : cutAt r with
      | some p => rw [hr] at e; cases e
      | none =>
        cases i with
        | zero =>
          intro h2
          apply hc
          simp only [colAt, List.drop_zero] at h2
          cases r with
          | nil => simp at h2
          | cons d r => simp at h2; simp [h2]
        | succ i => exact cutAt_none hr i
theorem cutAt_pre : ∀ (h t : List Nat), (∀ c ∈ h, c ≠ 58) → cutAt (h ++ 58 :: 32 :: t) = some (h, t)
  | [], t, _ => by simp [cutAt]
  | c :: h, t, hh => by
    have ih := cutAt_pre h t fun d hd => hh d (by simp [hd])
    simp only [List.cons_append, cutAt]
    rw [if_neg (by intro h2; exact hh c (by simp) h2.1), ih]
    rfl
theorem split_ne (l : List Nat) : splitB l ≠ [] := by
  cases l with
  | nil => simp [splitB]
  | cons c r =>
    simp only [splitB]
    by_cases hc : c = 32
    · simp [hc]
    · rw [if_neg hc]
      cases splitB r <;> simp
theorem split_app : ∀ (w x : List Nat), (∀ c ∈ w, c ≠ 32) → splitB (w ++ 32 :: x) = w :: splitB x
  | [], x, _ => by simp [splitB]
  | c :: w, x, h => by
    have ih := split_app w x fun d hd => h d (by simp [hd])
    simp only [List.cons_append, splitB]
    rw [if_neg (h c (by simp)), ih]
theorem split_one : ∀ (w : List Nat), (∀ c ∈ w, c ≠ 32) → splitB w = [w]
  | [], _ => rfl
  | c :: w, h => by
    have ih := split_one w fun d hd => h d (by simp [hd])
    simp only [splitB]
    rw [if_neg (h c (by simp)), ih]
theorem split_jn : ∀ (ws : List (List Nat)), ws ≠ [] → (∀ w ∈ ws, ∀ c ∈ w, c ≠ 32) → splitB (jn ws) = ws
  | [], h, _ => absurd rfl h
  | [w], _, h => split_one w (h w (by simp))
  | w :: v :: ws, _, h => by
    simp only [jn]
    rw [split_app w _ (h w (by simp)), split_jn (v :: ws) (by simp) fun u hu => h u (by simp [List.mem_cons] at hu ⊢; right; exact hu)]
/-! ### find, split, partition by the pure reader -/
theorem s_colb : Str.ofString ": " = DL.st [58, 32] := by decide +kernel
theorem at_col (cs : List Nat) (i : Nat) : StrLaws.At (DL.st cs) (DL.st [58, 32]) (DL.st cs).length i ↔ colAt cs i := by
  unfold StrLaws.At colAt
  rw [StrLaws.subAt_eq, st_cps, st_cps, st_len, st_len]
  simp only [List.length_cons, List.length_nil, Nat.zero_add, beq_iff_eq]
  constructor
  · intro h; exact h.2
  · intro h
    refine ⟨?_, h⟩
    have := congrArg List.length h
    simp at this
    omega
theorem colAt_mid (h t : List Nat) : colAt (h ++ 58 :: 32 :: t) h.length := by simp [colAt]
theorem find_col (cs : List Nat) : Txt.find (DL.st cs) (DL.st [58, 32]) = (match cutAt cs with
    | none => -1
    | some p => (p.1.length : Int)) := by
  rcases PyProof.Rows.find_whole (DL.st cs) (DL.st [58, 32]) with ⟨e, hn⟩ | ⟨i, e, hi, hn⟩
  · rw [e]
    cases hc : cutAt cs with
    | none => rfl
    | some p =>
      have := cutAt_eq (h := p.1) (t := p.2) hc
      refine absurd ((at_col cs p.1.length).mpr ?_) (hn _)
      rw [this]
      exact colAt_mid _ _
  · rw [e]
    rw [at_col] at hi
    cases hc : cutAt cs with
    | none => exact absurd hi (cutAt_none hc i)
    | some p =>
      have h1 := cutAt_eq (h := p.1) (t := p.2) hc
      have h2 := cutAt_first (h := p.1) (t := p.2) hc i
      have h3 := hn p.1.length
      rw [at_col] at h3
      have h4 : ¬ p.1.length < i := fun hl => h3 hl (by rw [h1]; exact colAt_mid _ _)
      have h5 : ¬ i < p.1.length := fun hl => h2 hl hi
      simp only
      omega
theorem join_list (c : Nat) : ∀ ps : List Str, (Str.join ⟨#[c]⟩ ps).cps.toList = (match ps with
    | [] => []
    | p :: r => r.foldl (fun a q => a ++ c :: q.cps.toList) p.cps.toList)
  | [] => rfl
  | [p] => rfl
  | p :: q :: r => by
    have ih := join_list c (q :: r)
    show (p ++ (⟨#[c]⟩ : Str) ++ Str.join ⟨#[c]⟩ (q :: r)).cps.toList = _
    rw [str_app_list, str_app_list, ih]
    have g : ∀ (r : List Str) (a b : List Nat), a ++ r.foldl (fun a q => a ++ c :: q.cps.toList) b = r.foldl (fun a q => a ++ c :: q.cps.toList) (a ++ b) := fun r => by
      induction r with
      | nil => intro a b; rfl
      | cons x r ih => intro a b; simp only [List.foldl_cons]; rw [ih]; simp
    simp only [List.foldl_cons]
    rw [g]
    simp
theorem jn_fold : ∀ (w : List Nat) (ws : List (List Nat)), jn (w :: ws) = ws.foldl (fun a q => a ++ 32 :: q) w
  | w, [] => rfl
  | w, v :: ws => by
    have g : ∀ (r : List (List Nat)) (a b : List Nat), a ++ r.foldl (fun a q => a ++ 32 :: q) b = r.foldl (fun a q => a ++ 32 :: q) (a ++ b) := fun r => by
      induction r with
      | nil => intro a b; rfl
      | cons x r ih => intro a b; simp only [List.foldl_cons]; rw [ih]; simp
    show w ++ 32 :: jn (v :: ws) = _
    rw [jn_fold v ws]
    simp only [List.foldl_cons]
    rw [show w ++ 32 :: ws.foldl (fun a q => a ++ 32 :: q) v = (w ++ [32]) ++ ws.foldl (fun a q => a ++ 32 :: q) v by simp, g]
    simp
theorem join_jn (ps : List Str) : (Str.join (DL.st [32]) ps).cps.toList = jn (ps.map fun p => p.cps.toList) := by
  have h := join_list 32 ps
  rw [show DL.st [32] = (⟨#[32]⟩ : Str) from rfl, h]
  cases ps with
  | nil => rfl
  | cons p r =>
    simp only [List.map_cons]
    rw [jn_fold, List.foldl_map]
theorem st_self (z : Str) : DL.st z.cps.toList = z := by
  show (⟨z.cps.toList.toArray⟩ : Str) = z
  simp
theorem split_st (cs : List Nat) : Txt.split (DL.st cs) (DL.st [32]) = (splitB cs).map DL.st := by
  have h1 := StrLaws.join_split (DL.st cs) (DL.st [32])
  have h2 := StrLaws.split_free (DL.st cs) 32
  have h3 := PyProof.Rows.split_pos (DL.st cs) (DL.st [32])
  rw [show (⟨#[32]⟩ : Str) = DL.st [32] from rfl] at h2
  generalize Txt.split (DL.st cs) (DL.st [32]) = ps at h1 h2 h3
  have h4 : jn (ps.map fun p => p.cps.toList) = cs := by
    rw [← join_jn, h1, st_cps]
  have h5 := split_jn (ps.map fun p => p.cps.toList) (by
    cases ps with
    | nil => simp at h3
    | cons p r => simp) (fun w hw c hc => by
    obtain ⟨p, hp, rfl⟩ := List.mem_map.mp hw
    intro e
    subst e
    exact h2 p hp hc)
  rw [h4] at h5
  rw [h5, List.map_map]
  have : (DL.st ∘ fun p : Str => p.cps.toList) = id := by
    funext p
    exact st_self p
  rw [this, List.map_id]
theorem read_find (x y : Str) : read1 .find (.p (.str x)) (.p (.str y)) = some (.p (.int (Txt.find x y))) := rfl
theorem read_split (x y : Str) : read1 .split (.p (.str x)) (.p (.str y)) = if (y.length == 0) = false ∧ x.length + 2 ≤ sizeLine then some (.ml ((Txt.split x y).map PyData.str)) else none := rfl
/-- the part ahead of a place -/
theorem cut_up {z : Str} {h r : List Nat} {b : Int} (hz : z = DL.st (h ++ r)) (hb : b = h.length) (hl : z.length ≤ 16777216) : opSl (.p (.str z)) none (some b) = some (.p (.str (DL.st h))) := by
  subst hb
  rw [opSl_s, if_pos (big_line' hl)]
  congr 3
  subst hz
  have e2 : HT.sIx (DL.st (h ++ r)).length (DL.st (h ++ r)).length (some (h.length : Int)) = h.length := by
    rw [HT.sIx_nat, st_len]; simp
  unfold cutS
  rw [e2, HT.sIx_none, st_cps]
  simp [DL.st]
abbrev strsOf (ws : List (List Nat)) : List P := ws.map fun w => PyData.str (DL.st w)
/-- the errand of a line -/
def lnP (ws : List (List Nat)) (x : Sy) : P := match ws with
  | [] => .none
  | w :: r => .tuple [.str (DL.st w), .tuple (strsOf r), x.p]
/-! ### sayings shown -/
@[simp] theorem kn_name_bud : (Str.ofString "name" = Str.ofString "bud") = False := eq_false (by decide +kernel)
@[simp] theorem kn_name_left : (Str.ofString "name" = Str.ofString "left") = False := eq_false (by decide +kernel)
@[simp] theorem kn_name_right : (Str.ofString "name" = Str.ofString "right") = False := eq_false (by decide +kernel)
@[simp] theorem kn_name_send : (Str.ofString "name" = Str.ofString "send") = False := eq_false (by decide +kernel)
@[simp] theorem kn_name_pair : (Str.ofString "name" = Str.ofString "pair") = False := eq_false (by decide +kernel)
@[simp] theorem kn_name_fork : (Str.ofString "name" = Str.ofString "fork") = False := eq_false (by decide +kernel)
@[simp] theorem kn_bud_name : (Str.ofString "bud" = Str.ofString "name") = False := eq_false (by decide +kernel)
@[simp] theorem kn_bud_left : (Str.ofString "bud" = Str.ofString "left") = False := eq_false (by decide +kernel)
@[simp] theorem kn_bud_right : (Str.ofString "bud" = Str.ofString "right") = False := eq_false (by decide +kernel)
@[simp] theorem kn_bud_send : (Str.ofString "bud" = Str.ofString "send") = False := eq_false (by decide +kernel)
@[simp] theorem kn_bud_pair : (Str.ofString "bud" = Str.ofString "pair") = False := eq_false (by decide +kernel)
@[simp] theorem kn_bud_fork : (Str.ofString "bud" = Str.ofString "fork") = False := eq_false (by decide +kernel)
@[simp] theorem kn_left_name : (Str.ofString "left" = Str.ofString "name") = False := eq_false (by decide +kernel)
@[simp] theorem kn_left_bud : (Str.ofString "left" = Str.ofString "bud") = False := eq_false (by decide +kernel)
@[simp] theorem kn_left_right : (Str.ofString "left" = Str.ofString "right") = False := eq_false (by decide +kernel)
@[simp] theorem kn_left_send : (Str.ofString "left" = Str.ofString "send") = False := eq_false (by decide +kernel)
@[simp] theorem kn_left_pair : (Str.ofString "left" = Str.ofString "pair") = False := eq_false (by decide +kernel)
@[simp] theorem kn_left_fork : (Str.ofString "left" = Str.ofString "fork") = False := eq_false (by decide +kernel)
@[simp] theorem kn_right_name : (Str.ofString "right" = Str.ofString "name") = False := eq_false (by decide +kernel)
@[simp] theorem kn_right_bud : (Str.ofString "right" = Str.ofString "bud") = False := eq_false (by decide +kernel)
@[simp] theorem kn_right_left : (Str.ofString "right" = Str.ofString "left") = False := eq_false (by decide +kernel)
@[simp] theorem kn_right_send : (Str.ofString "right" = Str.ofString "send") = False := eq_false (by decide +kernel)
@[simp] theorem kn_right_pair : (Str.ofString "right" = Str.ofString "pair") = False := eq_false (by decide +kernel)
@[simp] theorem kn_right_fork : (Str.ofString "right" = Str.ofString "fork") = False := eq_false (by decide +kernel)
@[simp] theorem kn_send_name : (Str.ofString "send" = Str.ofString "name") = False := eq_false (by decide +kernel)
@[simp] theorem kn_send_bud : (Str.ofString "send" = Str.ofString "bud") = False := eq_false (by decide +kernel)
@[simp] theorem kn_send_left : (Str.ofString "send" = Str.ofString "left") = False := eq_false (by decide +kernel)
@[simp] theorem kn_send_right : (Str.ofString "send" = Str.ofString "right") = False := eq_false (by decide +kernel)
@[simp] theorem kn_send_pair : (Str.ofString "send" = Str.ofString "pair") = False := eq_false (by decide +kernel)
@[simp] theorem kn_send_fork : (Str.ofString "send" = Str.ofString "fork") = False := eq_false (by decide +kernel)
@[simp] theorem kn_pair_name : (Str.ofString "pair" = Str.ofString "name") = False := eq_false (by decide +kernel)
@[simp] theorem kn_pair_bud : (Str.ofString "pair" = Str.ofString "bud") = False := eq_false (by decide +kernel)
@[simp] theorem kn_pair_left : (Str.ofString "pair" = Str.ofString "left") = False := eq_false (by decide +kernel)
@[simp] theorem kn_pair_right : (Str.ofString "pair" = Str.ofString "right") = False := eq_false (by decide +kernel)
@[simp] theorem kn_pair_send : (Str.ofString "pair" = Str.ofString "send") = False := eq_false (by decide +kernel)
@[simp] theorem kn_pair_fork : (Str.ofString "pair" = Str.ofString "fork") = False := eq_false (by decide +kernel)
@[simp] theorem kn_fork_name : (Str.ofString "fork" = Str.ofString "name") = False := eq_false (by decide +kernel)
@[simp] theorem kn_fork_bud : (Str.ofString "fork" = Str.ofString "bud") = False := eq_false (by decide +kernel)
@[simp] theorem kn_fork_left : (Str.ofString "fork" = Str.ofString "left") = False := eq_false (by decide +kernel)
@[simp] theorem kn_fork_right : (Str.ofString "fork" = Str.ofString "right") = False := eq_false (by decide +kernel)
@[simp] theorem kn_fork_send : (Str.ofString "fork" = Str.ofString "send") = False := eq_false (by decide +kernel)
@[simp] theorem kn_fork_pair : (Str.ofString "fork" = Str.ofString "pair") = False := eq_false (by decide +kernel)
def Sys.L : Sys → List Sy
  | .nil => []
  | .cons x l => x :: l.L
theorem Sys.ps_L : ∀ l : Sys, l.ps = l.L.map Sy.p
  | .nil => rfl
  | .cons x l => by simp only [Sys.ps, Sys.L, List.map_cons, Sys.ps_L l]
theorem Sys.tl_L : ∀ l : Sys, l.tl = (l.L.map fun x => 32 :: x.cs).flatten
  | .nil => rfl
  | .cons x l => by simp only [Sys.tl, Sys.L, List.map_cons, List.flatten_cons, Sys.tl_L l, List.cons_append]
theorem jn_cons (w : List Nat) (ws : List (List Nat)) : jn (w :: ws) = w ++ (ws.map fun v => 32 :: v).flatten := by
  induction ws generalizing w with
  | nil => simp [jn]
  | cons v ws ih =>
    simp only [jn]
    rw [ih]
    simp
theorem Sys.cs_L (l : Sys) : l.cs = jn (l.L.map Sy.cs) := by
  cases l with
  | nil => rfl
  | cons x l =>
    rw [Sys.L, List.map_cons, jn_cons]
    simp only [Sys.cs, Sys.tl_L, List.map_map]
    rfl
theorem Sys.len_L : ∀ l : Sys, l.L.length = l.len
  | .nil => rfl
  | .cons x l => by simp only [Sys.L, Sys.len, List.length_cons, Sys.len_L l]
theorem Sys.dep_L : ∀ (l : Sys), ∀ x ∈ l.L, x.dep ≤ l.dep
  | .nil, x, h => by simp [Sys.L] at h
  | .cons y l, x, h => by
    simp only [Sys.dep]
    rcases List.mem_cons.mp h with rfl | h
    · exact Nat.le_max_left _ _
    · exact Nat.le_trans (Sys.dep_L l x h) (Nat.le_max_right _ _)
theorem Sys.tl_len : ∀ (l : Sys), l.L.length ≤ l.tl.length ∧ ∀ x ∈ l.L, x.cs.length ≤ l.tl.length
  | .nil => by simp [Sys.L]
  | .cons y l => by
    have ih := Sys.tl_len l
    simp only [Sys.tl, Sys.L, List.length_cons, List.length_append]
    refine ⟨by omega, fun x h => ?_⟩
    rcases List.mem_cons.mp h with rfl | h
    · omega
    · have := ih.2 x h
      omega
theorem Sys.cs_len (l : Sys) : l.L.length ≤ l.cs.length + 1 ∧ ∀ x ∈ l.L, x.cs.length ≤ l.cs.length := by
  cases l with
  | nil => simp [Sys.L]
  | cons y l =>
    have ih := Sys.tl_len l
    simp only [Sys.cs, Sys.L, List.length_cons, List.length_append]
    refine ⟨by omega, fun x h => ?_⟩
    rcases List.mem_cons.mp h with rfl | h
    · omega
    · have := ih.2 x h
      omega
theorem Sys.ok_L : ∀ (l : Sys), l.ok = true → ∀ x ∈ l.L, x.ok = true
  | .nil, _, x, h => by simp [Sys.L] at h
  | .cons y l, ho, x, h => by
    simp only [Sys.ok, Bool.and_eq_true] at ho
    rcases List.mem_cons.mp h with rfl | h
    · exact ho.1
    · exact Sys.ok_L l ho.2 x h
/-! joined texts -/
theorem strsP_map {α : Type} : ∀ (l : List α) (f : α → Str), strsP (l.map fun a => PyData.str (f a)) = some (l.map f)
  | [], _ => rfl
  | x :: l, f => by
    rw [List.map_cons]
    simp only [strsP]
    rw [strsP_map l f]
    rfl
theorem join_txt (ws : List (List Nat)) : Txt.join (DL.st [32]) (ws.map DL.st) = DL.st (jn ws) := by
  show Builtin.Str.glued (DL.st [32]) (ws.map DL.st) = _
  rw [StrLaws.glued_eq_join]
  have h := join_jn (ws.map DL.st)
  rw [List.map_map] at h
  have : ((fun p : Str => p.cps.toList) ∘ DL.st) = id := by
    funext w
    exact st_cps w
  rw [this, List.map_id] at h
  rw [← h, st_self]
theorem jn_len : ∀ ws : List (List Nat), (ws.map List.length).sum + ws.length ≤ (jn ws).length + 1
  | [] => by simp [jn]
  | [w] => by simp [jn]
  | w :: v :: ws => by
    have := jn_len (v :: ws)
    simp only [jn, List.map_cons, List.sum_cons, List.length_cons, List.length_append] at this ⊢
    omega
theorem read_join (x : Str) (a : D) : read1 .join (.p (.str x)) a = rdJoin x a := rfl
theorem rd_join {α : Type} (l : List α) (f : α → List Nat) (h : (jn (l.map f)).length ≤ 10000000) : read1 .join (.p (.str (DL.st [32]))) (.ml (l.map fun a => PyData.str (DL.st (f a)))) = some (.p (.str (DL.st (jn (l.map f))))) := by
  have h1 := strsP_map l fun a => DL.st (f a)
  have h2 := jn_len (l.map f)
  have h3 : joinLen (DL.st [32]) (l.map fun a => DL.st (f a)) ≤ 16777216 := by
    unfold joinLen
    rw [List.map_map]
    have : (Str.length ∘ fun a => DL.st (f a)) = List.length ∘ f := by
      funext a
      exact st_len _
    rw [this, ← List.map_map, List.length_map, st_len]
    simp only [List.length_map, List.length_cons, List.length_nil] at h2 ⊢
    omega
  rw [read_join]
  unfold rdJoin
  simp only [joinArg, seqL, h1]
  rw [if_pos h3]
  have h4 := join_txt (l.map f)
  rw [List.map_map] at h4
  have h5 : (DL.st ∘ f) = fun a => DL.st (f a) := rfl
  rw [h5] at h4
  rw [h4]
theorem ev_dix (C : Calls) (kvs : List (Str × Str)) (i : E) (env : DL.Env) : ev C (.dix kvs i) env = (ev C i env).bind fun d env => R.of (dixD kvs d) env := rfl
theorem ev_strip (C : Calls) (o : E) (env : DL.Env) : ev C (.m0 .strip o) env = (ev C o env).bind fun d env => R.of (read0 .strip d) env := rfl
theorem evB_dix (C : Calls) (kvs : List (Str × Str)) (i : E) (env : DL.Env) : evB C (.dix kvs i) env = ev C (.dix kvs i) env := evB_pl C env rfl
theorem read_strip (x : Str) : read0 .strip (.p (.str x)) = if x.length ≤ sizeLine then some (.p (.str (Txt.strip x))) else none := rfl
theorem strip32 : Txt.strip (DL.st [32]) = DL.st [] := by decide +kernel
theorem strip93 : Txt.strip (DL.st [93]) = DL.st [93] := by decide +kernel
theorem strip125 : Txt.strip (DL.st [125]) = DL.st [125] := by decide +kernel
/-! ### data that may be laid -/
theorem int_b (b : Bool) : opB1 .int (.p (.bool b)) = some (.p (.int (if b then 1 else 0))) := rfl
theorem opIn_strs (x : Str) (l : List Str) : opIn (.p (.str x)) (.p (strsL l)) = some (decide (x ∈ l)) := by
  have h1 : (l.map PyData.str).all isFlat = true := by
    rw [List.all_eq_true]
    intro y hy
    obtain ⟨s, _, rfl⟩ := List.mem_map.mp hy
    rfl
  show (if isFlat (.str x) = true ∧ (l.map PyData.str).all isFlat = true then some ((l.map PyData.str).any fun y => decide (y = .str x)) else _) = _
  rw [if_pos ⟨rfl, h1⟩]
  congr 1
  rw [Bool.eq_iff_iff]
  simp
theorem lay_all {α : Type} : ∀ (l : List α) (f : α → P), (∀ a ∈ l, PyData.canLay0 (f a) = true) → PyData.canLayAll0 (l.map f) = true
  | [], _, _ => rfl
  | x :: l, f, h => by
    rw [List.map_cons, PyData.canLayAll0, h x (by simp), lay_all l f fun a ha => h a (by simp [ha])]
    rfl
theorem depth_all {α : Type} (d : Nat) : ∀ (l : List α) (f : α → P), (∀ a ∈ l, PyData.depth (f a) ≤ d) → PyData.depthAll (l.map f) ≤ d
  | [], _, _ => Nat.zero_le _
  | x :: l, f, h => by
    rw [List.map_cons, PyData.depthAll]
    have h1 := h x (by simp)
    have h2 := depth_all d l f fun a ha => h a (by simp [ha])
    omega
/-- data of a small depth that may be laid -/
def okP (d : Nat) (x : P) : Prop := PyData.canLay0 x = true ∧ PyData.depth x ≤ d
theorem okP.shaped {d : Nat} {x : P} (h : okP d x) (hd : d ≤ 64) : SeqAt.shaped x = true := by
  unfold SeqAt.shaped
  rw [h.1]
  have := h.2
  simp
  omega
theorem okP.str {s : Str} (h : ∀ c ∈ s.cps.toList, c < 1114112) (d : Nat) : okP (d + 1) (.str s) := by
  refine ⟨?_, by simp [PyData.depth]⟩
  simp only [PyData.canLay0, PyData.strOk]
  rw [Array.all_eq_true']
  intro c hc
  exact decide_eq_true (h c (by simpa using hc))
theorem okP.int (i : Int) (d : Nat) : okP (d + 1) (.int i) := ⟨rfl, by simp [PyData.depth]⟩
theorem okP.list {d : Nat} {l : List P} (h : ∀ x ∈ l, okP d x) : okP (d + 1) (.list l) := by
  have h1 := lay_all l id fun a ha => (h a ha).1
  have h2 := depth_all d l id fun a ha => (h a ha).2
  rw [List.map_id] at h1 h2
  exact ⟨h1, by simp only [PyData.depth]; omega⟩
theorem okP.tuple {d : Nat} {l : List P} (h : ∀ x ∈ l, okP d x) : okP (d + 1) (.tuple l) := by
  have h1 := lay_all l id fun a ha => (h a ha).1
  have h2 := depth_all d l id fun a ha => (h a ha).2
  rw [List.map_id] at h1 h2
  exact ⟨h1, by simp only [PyData.depth]; omega⟩
theorem okP.up {d e : Nat} (h : d ≤ e) {x : P} (hx : okP d x) : okP e x := ⟨hx.1, by have := hx.2; omega⟩
theorem okP.same {d : Nat} {x : P} (h : okP d x) (hd : d ≤ 64) : opEq (.p x) (.p x) = some true := by
  show eqP _ _ = some true
  unfold eqP
  rw [if_pos (.inr ⟨h.shaped hd, h.shaped hd⟩), SeqAt.eqv_refl _ h.1]
theorem sok_cp {s : Str} (h : sok s) : ∀ c ∈ s.cps.toList, c < 1114112 := fun c hc => by have := h c hc; omega
/-! ### from drawn sayings to our own -/
theorem word_lt {w : List Nat} (h : wordB w = true) : ∀ c ∈ (DL.st w).cps.toList, c < 1114112 := fun c hc => by
  rw [st_cps] at hc
  have := List.all_eq_true.mp (word_all h) c hc
  simp only [isLow, Bool.and_eq_true, decide_eq_true_eq] at this
  omega
mutual
theorem sy_okP : ∀ x : Sy, x.ok = true → okP (2 * x.dep + 1) x.p
  | .nm w, h => by
    refine okP.tuple fun y hy => ?_
    simp only [List.mem_cons, List.not_mem_nil, or_false] at hy
    rcases hy with rfl | rfl
    · exact okP.str (by decide +kernel) 1
    · exact okP.str (word_lt h) 1
  | .bud, _ => by
    refine okP.tuple fun y hy => ?_
    simp only [List.mem_cons, List.not_mem_nil, or_false] at hy
    subst hy
    exact okP.str (by decide +kernel) 1
  | .un r x, h => by
    have ih := sy_okP x h
    refine okP.tuple (d := 2 * x.dep + 2) fun y hy => ?_
    simp only [List.mem_cons, List.not_mem_nil, or_false] at hy
    rcases hy with rfl | rfl
    · cases r <;> exact okP.str (by decide +kernel) _
    · exact ih.up (by omega)
  | .row k l, h => by
    simp only [Sy.ok, Bool.and_eq_true] at h
    have ih := sys_okP l h.2
    cases k with
    | pair =>
      refine okP.tuple (d := 2 * l.dep + 2) fun y hy => ?_
      rcases List.mem_cons.mp hy with rfl | hy
      · exact okP.str (by decide +kernel) _
      · exact (ih y hy).up (by omega)
    | fork =>
      refine okP.tuple (d := 2 * l.dep + 2) fun y hy => ?_
      rcases List.mem_cons.mp hy with rfl | hy
      · exact okP.str (by decide +kernel) _
      · exact (ih y hy).up (by omega)
    | send f =>
      refine okP.tuple (d := 2 * l.dep + 2) fun y hy => ?_
      simp only [List.mem_cons, List.not_mem_nil, or_false] at hy
      rcases hy with rfl | rfl | rfl
      · exact okP.str (by decide +kernel) _
      · exact okP.str (word_lt h.1.1.1) _
      · exact okP.tuple (d := 2 * l.dep + 1) ih
theorem sys_okP : ∀ l : Sys, l.ok = true → ∀ y ∈ l.ps, okP (2 * l.dep + 1) y
  | .nil, _ => fun y hy => by simp [Sys.ps] at hy
  | .cons x l, h => fun y hy => by
    simp only [Sys.ok, Bool.and_eq_true] at h
    have h1 := sy_okP x h.1
    have h2 := sys_okP l h.2
    have m1 := Nat.le_max_left x.dep l.dep
    have m2 := Nat.le_max_right x.dep l.dep
    rcases List.mem_cons.mp hy with rfl | hy
    · exact h1.up (by simp only [Sys.dep]; omega)
    · exact (h2 y hy).up (by simp only [Sys.dep]; omega)
end
theorem ln_okP (w : List Nat) (ws : List (List Nat)) (x : Sy) (hw : (w :: ws).all wordB = true) (hx : x.ok = true) (d : Nat) (hd : 2 * x.dep + 1 ≤ d + 2) : okP (d + 3) (lnP (w :: ws) x) := by
  simp only [List.all_cons, Bool.and_eq_true] at hw
  refine okP.tuple (d := d + 2) fun y hy => ?_
  simp only [List.mem_cons, List.not_mem_nil, or_false] at hy
  rcases hy with rfl | rfl | rfl
  · exact okP.str (word_lt hw.1) _
  · refine okP.tuple (d := d + 1) fun y hy => ?_
    obtain ⟨v, hv, rfl⟩ := List.mem_map.mp hy
    exact okP.str (word_lt (List.all_eq_true.mp hw.2 v hv)) _
  · exact (sy_okP x hx).up hd
theorem nok_word {s : Str} (h : nok s) : wordB s.cps.toList = true := by
  obtain ⟨⟨h1, h2⟩, c, hc, h3⟩ := h
  simp only [wordB, Bool.and_eq_true, List.all_eq_true, decide_eq_true_eq]
  have hl : s.cps.toList.length = s.length := by show s.cps.toList.length = s.cps.size; simp
  refine ⟨⟨fun c hc => ?_, ?_⟩, by omega⟩
  · have := h1 c hc
    simp [isLow, this]
  · have := List.length_pos_of_mem hc
    omega
def Sys.of : List Sy → Sys
  | [] => .nil
  | x :: l => .cons x (Sys.of l)
theorem of_ps : ∀ l : List Sy, (Sys.of l).ps = l.map Sy.p
  | [] => rfl
  | x :: l => by simp only [Sys.of, Sys.ps, List.map_cons, of_ps l]
theorem of_len : ∀ l : List Sy, (Sys.of l).len = l.length
  | [] => rfl
  | x :: l => by simp only [Sys.of, Sys.len, List.length_cons, of_len l]
theorem of_ok : ∀ l : List Sy, (∀ x ∈ l, x.ok = true) → (Sys.of l).ok = true
  | [], _ => rfl
  | x :: l, h => by simp only [Sys.of, Sys.ok, Bool.and_eq_true]; exact ⟨h x (by simp), of_ok l fun y hy => h y (by simp [hy])⟩
theorem of_dep (d : Nat) : ∀ l : List Sy, (∀ x ∈ l, x.dep ≤ d) → (Sys.of l).dep ≤ d
  | [], _ => Nat.zero_le _
  | x :: l, h => by
    simp only [Sys.of, Sys.dep]
    exact Nat.max_le.mpr ⟨h x (by simp), of_dep d l fun y hy => h y (by simp [hy])⟩
theorem list_of {d : Nat} {nm : List Str} {ct : List Nat} {ps : List Str} (ih : ∀ x, isSay nm ct ps d x → ∃ y : Sy, y.p = x ∧ y.dep ≤ d ∧ y.ok = true) : ∀ ys : List P, (∀ y ∈ ys, isSay nm ct ps d y) → ∃ l : List Sy, l.map Sy.p = ys ∧ (∀ x ∈ l, x.dep ≤ d) ∧ ∀ x ∈ l, x.ok = true
  | [], _ => ⟨[], rfl, by simp, by simp⟩
  | y :: ys, h => by
    obtain ⟨x, e, h1, h2⟩ := ih y (h y (by simp))
    obtain ⟨l, e', h1', h2'⟩ := list_of ih ys fun z hz => h z (by simp [hz])
    refine ⟨x :: l, by rw [List.map_cons, e, e'], fun z hz => ?_, fun z hz => ?_⟩
    · rcases List.mem_cons.mp hz with rfl | hz
      · exact h1
      · exact h1' z hz
    · rcases List.mem_cons.mp hz with rfl | hz
      · exact h2
      · exact h2' z hz
theorem sy_of {nm : List Str} {ct : List Nat} {ps : List Str} (hn : ∀ s ∈ nm, nok s) (hp : ∀ s ∈ ps, nok s) (hc : ∀ c ∈ ct, 0 < c ∧ c ≤ 4) : ∀ (d : Nat) (x : P), isSay nm ct ps d x → ∃ y : Sy, y.p = x ∧ y.dep ≤ d ∧ y.ok = true
  | 0, x, h => h.elim
  | d + 1, x, h => by
    have ih := sy_of hn hp hc d
    rcases h with ⟨s, hs, rfl⟩ | rfl | ⟨y, hy, h⟩ | ⟨ys, hl, hy, rfl⟩ | ⟨ys, hl, hy, rfl⟩ | ⟨i, f, ys, hf, hct, hy, rfl⟩
    · exact ⟨.nm s.cps.toList, by simp only [Sy.p, st_self], by simp [Sy.dep], nok_word (hp s hs)⟩
    · exact ⟨.bud, rfl, by simp [Sy.dep], rfl⟩
    · obtain ⟨z, e, h1, h2⟩ := ih y hy
      rcases h with rfl | rfl
      · exact ⟨.un false z, by simp [Sy.p, e], by simp [Sy.dep]; omega, h2⟩
      · exact ⟨.un true z, by simp [Sy.p, e], by simp [Sy.dep]; omega, h2⟩
    · obtain ⟨l, e, h1, h2⟩ := list_of ih ys hy
      have ll : l.length = 2 := by rw [← hl, ← e, List.length_map]
      refine ⟨.row .pair (Sys.of l), by simp only [Sy.p, K.mk, of_ps, e], by have := of_dep d l h1; simp only [Sy.dep]; omega, ?_⟩
      simp [Sy.ok, K.ok, K.fits, of_len, ll, of_ok l h2]
    · obtain ⟨l, e, h1, h2⟩ := list_of ih ys hy
      have ll : l.length = 3 := by rw [← hl, ← e, List.length_map]
      refine ⟨.row .fork (Sys.of l), by simp only [Sy.p, K.mk, of_ps, e], by have := of_dep d l h1; simp only [Sy.dep]; omega, ?_⟩
      simp [Sy.ok, K.ok, K.fits, of_len, ll, of_ok l h2]
    · obtain ⟨l, e, h1, h2⟩ := list_of ih ys hy
      have ll : l.length = ys.length := by rw [← e, List.length_map]
      have hc4 := hc _ (List.mem_of_getElem? hct)
      refine ⟨.row (.send f.cps.toList) (Sys.of l), by simp only [Sy.p, K.mk, of_ps, e, st_self], by have := of_dep d l h1; simp only [Sy.dep]; omega, ?_⟩
      have hw := nok_word (hn f (List.mem_of_getElem? hf))
      simp [Sy.ok, K.ok, K.fits, of_len, ll, of_ok l h2, hw]
      omega
/-! lengths -/
mutual
theorem cs_bound : ∀ x : Sy, x.ok = true → x.cs.length + 1 ≤ 12 * 5 ^ x.dep
  | .nm w, h => by
    simp only [Sy.ok, wordB, Bool.and_eq_true, decide_eq_true_eq] at h
    simp only [Sy.cs, Sy.dep]
    omega
  | .bud, _ => by simp [Sy.cs, Sy.dep]
  | .un r x, h => by
    have ih := cs_bound x h
    simp only [Sy.cs, Sy.dep, List.length_cons, Nat.pow_succ]
    omega
  | .row k l, h => by
    simp only [Sy.ok, Bool.and_eq_true] at h
    have ih := tl_bound l h.2
    have l4 := fits_four h.1.1.2
    have hp : 0 < 5 ^ l.dep := Nat.pos_of_ne_zero (by simp)
    have ho : k.op.length ≤ 9 := by
      cases k with
      | send f =>
        have := h.1.1.1
        simp only [K.ok, wordB, Bool.and_eq_true, decide_eq_true_eq] at this
        simp only [K.op, List.length_append, List.length_cons, List.length_nil]
        omega
      | _ => simp [K.op]
    have hm : l.len * (12 * 5 ^ l.dep) ≤ 4 * (12 * 5 ^ l.dep) := Nat.mul_le_mul_right _ l4
    have hcl : l.cs.length ≤ l.tl.length := by cases l <;> simp [Sys.cs, Sys.tl]
    simp only [Sy.cs, Sy.dep, List.length_append, List.length_cons, List.length_nil, Nat.pow_succ]
    omega
theorem tl_bound : ∀ l : Sys, l.ok = true → l.tl.length ≤ l.len * (12 * 5 ^ l.dep)
  | .nil, _ => by simp [Sys.tl]
  | .cons x l, h => by
    simp only [Sys.ok, Bool.and_eq_true] at h
    have h1 := cs_bound x h.1
    have h2 := tl_bound l h.2
    have p1 : 5 ^ x.dep ≤ 5 ^ (max x.dep l.dep) := Nat.pow_le_pow_right (by omega) (Nat.le_max_left _ _)
    have p2 : 5 ^ l.dep ≤ 5 ^ (max x.dep l.dep) := Nat.pow_le_pow_right (by omega) (Nat.le_max_right _ _)
    have m2 : l.len * (12 * 5 ^ l.dep) ≤ l.len * (12 * 5 ^ (max x.dep l.dep)) := Nat.mul_le_mul_left _ (Nat.mul_le_mul_left _ p2)
    have e : (l.len + 1) * (12 * 5 ^ (max x.dep l.dep)) = l.len * (12 * 5 ^ (max x.dep l.dep)) + 12 * 5 ^ (max x.dep l.dep) := Nat.succ_mul _ _
    simp only [Sys.tl, Sys.len, Sys.dep, List.length_cons, List.length_append]
    rw [e]
    omega
end
theorem cs_small {x : Sy} {d : Nat} (h : x.ok = true) (hd : x.dep ≤ d) : x.cs.length + 1 ≤ 12 * 5 ^ d := by
  have h1 := cs_bound x h
  have h2 : 5 ^ x.dep ≤ 5 ^ d := Nat.pow_le_pow_right (by omega) hd
  omega
/-- an errand drawn -/
theorem err_sy {nm : List Str} {ct : List Nat} (N : Nms nm ct) {d i : Nat} {x : P} (h : isErr nm ct d i x) : ∃ (w : List Nat) (ps : List (List Nat)) (y : Sy), x = lnP (w :: ps) y ∧ fiveB (w :: ps) = true ∧ y.ok = true ∧ y.dep ≤ d ∧ y.cs.length ≤ 12 * 5 ^ d := by
  obtain ⟨f, ps, b, h1, h2, h3, h4, h5, h6, h7, rfl⟩ := h
  obtain ⟨y, e, y1, y2⟩ := sy_of N.ok h5 N.sm d b h7
  have hf := N.ok f (List.mem_of_getElem? h1)
  have hps : (ps.map fun s : Str => s.cps.toList).all wordB = true := by
    rw [List.all_eq_true]
    intro w hw
    obtain ⟨s, hs, rfl⟩ := List.mem_map.mp hw
    exact nok_word (h5 s hs)
  refine ⟨f.cps.toList, ps.map fun s => s.cps.toList, y, ?_, ?_, y2, y1, ?_⟩
  · have : ((fun w => PyData.str (DL.st w)) ∘ fun s : Str => s.cps.toList) = PyData.str := by
      funext s
      simp only [Function.comp_apply, st_self]
    simp only [lnP, st_self, strsOf, List.map_map, this, e]
  · simp only [fiveB, List.length_cons, List.length_map, List.all_cons, hps, nok_word hf, Bool.and_true, Bool.and_eq_true, decide_eq_true_eq]
    omega
  · have := cs_small y2 y1
    omega
/-! ### what is wrong in a saying -/
inductive Ev where
  | snd | such | cnt
  deriving DecidableEq
def Ev.f : Ev → Bool
  | .snd => false
  | _ => true
def Ev.c : Ev → String
  | .such => "NoSuch"
  | .cnt => "WrongCount"
  | .snd => ""
def hdE (kvs : List (P × P)) (k : K) (n : Nat) : List Ev := match k with
  | .send f => .snd :: (match dget kvs (.str (DL.st f)) with
    | none => [.such]
    | some v => if v = .int (n : Int) then [] else [.cnt])
  | _ => []
mutual
def evs (ps : List (List Nat)) (kvs : List (P × P)) : Sy → List Ev
  | .nm w => if w ∈ ps then [] else [.such]
  | .bud => []
  | .un _ x => evs ps kvs x
  | .row k l => hdE kvs k l.len ++ evl ps kvs l
def evl (ps : List (List Nat)) (kvs : List (P × P)) : Sys → List Ev
  | .nil => []
  | .cons x l => evs ps kvs x ++ evl ps kvs l
end
theorem evl_L (ps : List (List Nat)) (kvs : List (P × P)) : ∀ l : Sys, evl ps kvs l = l.L.flatMap (evs ps kvs)
  | .nil => rfl
  | .cons x l => by simp only [evl, Sys.L, List.flatMap_cons, evl_L ps kvs l]
/-- faults; sends -/
def flt (es : List Ev) : List Ev := es.filter Ev.f
def sn (es : List Ev) : Nat := es.countP fun e => !e.f
theorem flt_app (a b : List Ev) : flt (a ++ b) = flt a ++ flt b := List.filter_append ..
theorem sn_app (a b : List Ev) : sn (a ++ b) = sn a + sn b := List.countP_append
theorem sn_len : ∀ {es : List Ev}, flt es = [] → sn es = es.length
  | [], _ => rfl
  | e :: es, h => by
    cases e with
    | snd =>
      have := sn_len (es := es) (by simpa [flt, Ev.f] using h)
      simp only [sn, List.countP_cons, Ev.f, Bool.not_false, if_true, List.length_cons] at this ⊢
      omega
    | such => simp [flt, Ev.f] at h
    | cnt => simp [flt, Ev.f] at h
theorem call_exv {Γ : Tbl} {n w : Nat} {f c : String} {xs : List P} {env : DL.Env} (h : run Γ n f (xs.map fun x => .ow (.p x)) = .ex c) : doCall ⟨run Γ n, w⟩ f (xs.map fun x => .va (.p x)) env = .ex c env := by
  have lo : ∀ xs : List P, lentOnce (xs.map fun x => AV.va (.p x)) = true := fun xs => by
    induction xs with
    | nil => rfl
    | cons x r ih => exact ih
  have so : ∀ xs : List P, slotsOf env (xs.map fun x => AV.va (.p x)) = some (xs.map fun x => .ow (.p x)) := fun xs => by
    induction xs with
    | nil => rfl
    | cons x r ih => simp only [List.map_cons, slotsOf, slotOf, ih, Option.map_some]
  have lb : ∀ xs : List P, lostBy env (xs.map fun x => AV.va (.p x)) = env := fun xs => by
    induction xs with
    | nil => rfl
    | cons x r ih => exact ih
  unfold doCall
  rw [if_pos (lo xs), so xs]
  simp only [h, lb]
/-- refused with the class c -/
def FailsC (Γ : Tbl) (n : Nat) (f : String) (xs : List P) (c : String) : Prop := run Γ n f (xs.map fun x => .ow (.p x)) = .ex c
theorem FailsC.c1 {Γ : Tbl} {n : Nat} {f c : String} {x : P} (h : FailsC Γ n f [x] c) (w : Nat) (env : DL.Env) : doCall ⟨run Γ n, w⟩ f [.va (.p x)] env = .ex c env := call_exv (xs := [x]) h
theorem FailsC.c3 {Γ : Tbl} {n : Nat} {f c : String} {x y z : P} (h : FailsC Γ n f [x, y, z] c) (w : Nat) (env : DL.Env) : doCall ⟨run Γ n, w⟩ f [.va (.p x), .va (.p y), .va (.p z)] env = .ex c env := call_exv (xs := [x, y, z]) h
theorem failsC_of {Γ : Tbl} {n : Nat} {f c : String} {fd : FD} {xs : List P} {env : DL.Env} (h : Γ f = some fd) (hl : xs.length = fd.np) (hb : exec ⟨run Γ n, wfuel⟩ fd.body ((xs.map fun x => .ow (.p x)) ++ List.replicate (fd.nn - fd.np) .no) = .ex c env) : FailsC Γ (n + 1) f xs c := by
  unfold FailsC
  rw [run_def h (by simpa using hl), hb]
  rfl
/-- how many sends, or the first fault -/
def Out (Γ : Tbl) (n : Nat) (f : String) (xs : List P) (es : List Ev) : Prop := (flt es = [] ∧ Gives Γ n f xs (.int (sn es : Nat))) ∨ ∃ e r, flt es = e :: r ∧ FailsC Γ n f xs e.c
theorem kIx2_d (i : E) (kvs : List (P × P)) (s : Str) (env : DL.Env) : kIx2 i (.p (.dict kvs)) (.p (.str s)) env = R.of ((dget kvs (.str s)).map D.p) env := by
  unfold kIx2 ixD
  rfl
theorem opIn_d (kvs : List (P × P)) (s : Str) : opIn (.p (.str s)) (.p (.dict kvs)) = some (dget kvs (.str s)).isSome := rfl
theorem opIn_ps (ps : List (List Nat)) (w : List Nat) : opIn (.p (.str (DL.st w))) (.p (.tuple (strsOf ps))) = some (decide (w ∈ ps)) := by
  have f1 : (strsOf ps).all isFlat = true := by simp [strsOf, isFlat]
  show (if isFlat (.str (DL.st w)) = true ∧ (strsOf ps).all isFlat = true then some ((strsOf ps).any fun y => decide (y = .str (DL.st w))) else none) = _
  rw [if_pos ⟨rfl, f1⟩]
  congr 1
  rw [Bool.eq_iff_iff]
  simp [strsOf]
/-- the numbers of a table -/
def kInt (kvs : List (P × P)) : Prop := ∀ k v, dget kvs k = some v → ∃ c : Nat, v = .int (c : Int)
section
variable {Γ : Tbl} {n : Nat}
theorem prt_leaf (g : Γ "parts_of" = some t_parts_of) (x : Sy) (h : (∃ w, x = .nm w) ∨ x = .bud) : Gives Γ (n + 1) "parts_of" [x.p] (.list []) := by
  refine gives_of (env := [.ow (.p x.p)]) g rfl ?_ rfl
  rcases h with ⟨w, rfl⟩ | rfl
  · simp [t_parts_of, Sy.p, at0]
  · simp [t_parts_of, Sy.p, at0]
theorem prt_un (g : Γ "parts_of" = some t_parts_of) (r : Bool) (x : Sy) : Gives Γ (n + 1) "parts_of" [(Sy.un r x).p] (.list [x.p]) := by
  refine gives_of (env := [.ow (.p (Sy.un r x).p)]) g rfl ?_ rfl
  cases r <;> simp [t_parts_of, Sy.p, at0]
theorem prt_row (g : Γ "parts_of" = some t_parts_of) (k : K) (l : Sys) : Gives Γ (n + 1) "parts_of" [(Sy.row k l).p] (.list l.ps) := by
  refine gives_of (env := [.ow (.p (Sy.row k l).p)]) g rfl ?_ rfl
  cases k <;> simp [t_parts_of, Sy.p, K.mk, at0, at2]
theorem lk_loop (w : Nat) (e0 : Sl) (PS CD : P) (ev : Sy → List Ev) : ∀ (L : List Sy) (acc : Nat) (k4 : Sl), (∀ y ∈ L, Out Γ n "looked_saying" [y.p, PS, CD] (ev y)) → free k4 = true →
    (∃ k', flt (L.flatMap ev) = [] ∧ forL (bFor1 ⟨run Γ n, w⟩ 4 w_looked_saying_1) (L.map Sy.p) [e0, .ow (.p PS), .ow (.p CD), .ow (.p (.int (acc : Int))), k4] = .nx [e0, .ow (.p PS), .ow (.p CD), .ow (.p (.int ((acc + sn (L.flatMap ev) : Nat) : Int))), k']) ∨
    (∃ e r env, flt (L.flatMap ev) = e :: r ∧ forL (bFor1 ⟨run Γ n, w⟩ 4 w_looked_saying_1) (L.map Sy.p) [e0, .ow (.p PS), .ow (.p CD), .ow (.p (.int (acc : Int))), k4] = .ex e.c env)
  | [], acc, k4, _, _ => .inl ⟨k4, rfl, rfl⟩
  | y :: L, acc, k4, h, hk => by
    rw [List.flatMap_cons, flt_app, sn_app]
    rcases h y (by simp) with ⟨h1, g⟩ | ⟨e, r, h1, g⟩
    · have g := g.c3 w
      have st1 : bFor1 ⟨run Γ n, w⟩ 4 w_looked_saying_1 y.p [e0, .ow (.p PS), .ow (.p CD), .ow (.p (.int (acc : Int))), k4] = .nx [e0, .ow (.p PS), .ow (.p CD), .ow (.p (.int ((acc + sn (ev y) : Nat) : Int))), .ow (.p y.p)] := by
        have e2 : ((acc + sn (ev y) : Nat) : Int) = (acc : Int) + (sn (ev y) : Int) := by omega
        rw [e2]
        generalize (acc : Int) = ai at *
        generalize (sn (ev y) : Int) = qi at *
        simp [w_looked_saying_1, bdR_free, hk, g]
      rw [List.map_cons, forL_cons, st1, RS.then_nx, h1, List.nil_append]
      rcases lk_loop w e0 PS CD ev L (acc + sn (ev y)) (.ow (.p y.p)) (fun z hz => h z (by simp [hz])) rfl with ⟨k', q1, q2⟩ | ⟨e, r, env, q1, q2⟩
      · exact .inl ⟨k', q1, by rw [q2, Nat.add_assoc]⟩
      · exact .inr ⟨e, r, env, q1, q2⟩
    · right
      have g := g.c3 w
      have st1 : bFor1 ⟨run Γ n, w⟩ 4 w_looked_saying_1 y.p [e0, .ow (.p PS), .ow (.p CD), .ow (.p (.int (acc : Int))), k4] = .ex e.c [e0, .ow (.p PS), .ow (.p CD), .ow (.p (.int (acc : Int))), .ow (.p y.p)] := by
        simp [w_looked_saying_1, bdR_free, hk, g]
      rw [List.map_cons, forL_cons, st1, RS.then_ex, h1]
      exact ⟨e, _, _, rfl, rfl⟩
theorem lk_out (g : Γ "looked_saying" = some t_looked_saying) (g1 : Γ "parts_of" = some t_parts_of) (ps : List (List Nat)) (kvs : List (P × P)) (hk : kInt kvs) : ∀ (n : Nat) (x : Sy), x.dep + 1 ≤ n → Out Γ n "looked_saying" [x.p, .tuple (strsOf ps), .dict kvs] (evs ps kvs x)
  | 0, x, h => absurd h (by omega)
  | 1, x, h => absurd h (by have := (by cases x <;> simp [Sy.dep] : 0 < x.dep); omega)
  | n + 2, .nm w, h => by
    have pl := (prt_leaf (n := n) g1 (.nm w) (.inl ⟨w, rfl⟩)).c1 wfuel
    have oi := opIn_ps ps w
    simp only [evs]
    by_cases hw : w ∈ ps
    · left
      rw [if_pos hw]
      rw [decide_eq_true hw] at oi
      refine ⟨rfl, ?_⟩
      refine gives_of (env := [.ow (.p (Sy.nm w).p), .ow (.p (.tuple (strsOf ps))), .ow (.p (.dict kvs)), .ow (.p (.int 0)), .no]) g rfl ?_ rfl
      simp only [Sy.p] at pl
      generalize strsOf ps = PS at *
      simp [t_looked_saying, Sy.p, at0, at1, oi, pl, sn]
    · right
      rw [if_neg hw]
      rw [decide_eq_false hw] at oi
      refine ⟨.such, [], rfl, ?_⟩
      refine failsC_of (env := [.ow (.p (Sy.nm w).p), .ow (.p (.tuple (strsOf ps))), .ow (.p (.dict kvs)), .ow (.p (.int 0)), .no]) g rfl ?_
      generalize strsOf ps = PS at *
      simp [t_looked_saying, Sy.p, at0, at1, oi, Ev.c]
  | n + 2, .bud, h => by
    have pl := (prt_leaf (n := n) g1 .bud (.inr rfl)).c1 wfuel
    left
    refine ⟨rfl, ?_⟩
    refine gives_of (env := [.ow (.p Sy.bud.p), .ow (.p (.tuple (strsOf ps))), .ow (.p (.dict kvs)), .ow (.p (.int 0)), .no]) g rfl ?_ rfl
    simp only [Sy.p] at pl
    generalize strsOf ps = PS at *
    simp [t_looked_saying, Sy.p, at0, pl, sn, evs]
  | n + 2, .un r x, h => by
    simp only [Sy.dep] at h
    have pl := (prt_un (n := n) g1 r x).c1 wfuel
    have ih := lk_out g g1 ps kvs hk (n + 1) x (by omega)
    have lp := lk_loop (n := n + 1) wfuel (.ow (.p (Sy.un r x).p)) (.tuple (strsOf ps)) (.dict kvs) (evs ps kvs) [x] 0 .no (fun y hy => by rw [List.mem_singleton.mp hy]; exact ih) rfl
    simp only [List.flatMap_cons, List.flatMap_nil, List.append_nil, Nat.zero_add, List.map_cons, List.map_nil] at lp
    rcases lp with ⟨k', q1, q2⟩ | ⟨e, r', env, q1, q2⟩
    · left
      refine ⟨q1, ?_⟩
      refine gives_of (env := [.ow (.p (Sy.un r x).p), .ow (.p (.tuple (strsOf ps))), .ow (.p (.dict kvs)), .ow (.p (.int (sn (evs ps kvs x) : Nat))), k']) g rfl ?_ rfl
      simp only [evs]
      generalize sn (evs ps kvs x) = S at *
      generalize strsOf ps = PS at *
      cases r <;> (simp [Sy.p] at pl q2; simp [t_looked_saying, Sy.p, at0, pl, q2])
    · right
      refine ⟨e, r', q1, ?_⟩
      refine failsC_of (env := env) g rfl ?_
      generalize strsOf ps = PS at *
      cases r <;> (simp [Sy.p] at pl q2; simp [t_looked_saying, Sy.p, at0, pl, q2])
  | n + 2, .row k l, h => by
    simp only [Sy.dep] at h
    have pl := (prt_row (n := n) g1 k l).c1 wfuel
    have ih : ∀ y ∈ l.L, Out Γ (n + 1) "looked_saying" [y.p, .tuple (strsOf ps), .dict kvs] (evs ps kvs y) := fun y hy => lk_out g g1 ps kvs hk (n + 1) y (by have := Sys.dep_L l y hy; omega)
    have lp := fun acc => lk_loop (n := n + 1) wfuel (.ow (.p (Sy.row k l).p)) (.tuple (strsOf ps)) (.dict kvs) (evs ps kvs) l.L acc .no ih rfl
    rw [← evl_L, ← Sys.ps_L] at lp
    simp only [evs]
    cases k with
    | send f =>
      have lenI : ((l.ps.length : Nat) : Int) = (l.len : Int) := by rw [Sys.ps_len]
      have od := opIn_d kvs (DL.st f)
      cases hd : dget kvs (.str (DL.st f)) with
      | none =>
        right
        rw [hd] at od
        refine ⟨.such, flt (evl ps kvs l), by rw [show hdE kvs (.send f) l.len = [.snd, .such] by simp [hdE, hd], flt_app]; rfl, ?_⟩
        refine failsC_of (env := [.ow (.p (Sy.row (.send f) l).p), .ow (.p (.tuple (strsOf ps))), .ow (.p (.dict kvs)), .ow (.p (.int 0)), .no]) g rfl ?_
        generalize strsOf ps = PS at *
        simp [t_looked_saying, Sy.p, K.mk, at0, at1, at2, od, Ev.c]
      | some v =>
        obtain ⟨c, rfl⟩ := hk _ _ hd
        rw [hd] at od
        by_cases hc : c = l.len
        · subst hc
          have he : hdE kvs (.send f) l.len = [.snd] := by simp [hdE, hd]
          rw [he]
          have lp := lp 1
          rcases lp with ⟨k', q1, q2⟩ | ⟨e, r, env, q1, q2⟩
          · left
            refine ⟨by rw [flt_app, q1]; rfl, ?_⟩
            refine gives_of (env := [.ow (.p (Sy.row (.send f) l).p), .ow (.p (.tuple (strsOf ps))), .ow (.p (.dict kvs)), .ow (.p (.int (sn ([.snd] ++ evl ps kvs l) : Nat))), k']) g rfl ?_ rfl
            have es : sn ([.snd] ++ evl ps kvs l) = 1 + sn (evl ps kvs l) := by rw [sn_app]; rfl
            rw [es]
            have e2 : ((1 + sn (evl ps kvs l) : Nat) : Int) = (1 : Int) + (sn (evl ps kvs l) : Int) := by omega
            rw [e2] at q2 ⊢
            generalize (sn (evl ps kvs l) : Int) = S at *
            generalize strsOf ps = PS at *
            simp only [Sy.p, K.mk] at pl q2
            simp [t_looked_saying, Sy.p, K.mk, at0, at1, at2, od, kIx2_d, hd, Sys.ps_len, pl] at q2 ⊢
            simp [q2]
          · right
            refine ⟨e, r, by rw [flt_app, q1]; rfl, ?_⟩
            refine failsC_of (env := env) g rfl ?_
            generalize strsOf ps = PS at *
            simp only [Sy.p, K.mk] at pl q2
            simp [t_looked_saying, Sy.p, K.mk, at0, at1, at2, od, kIx2_d, hd, Sys.ps_len, pl] at q2 ⊢
            simp [q2]
        · right
          have hc2 : ¬ l.len = c := fun h => hc h.symm
          refine ⟨.cnt, flt (evl ps kvs l), by rw [show hdE kvs (.send f) l.len = [.snd, .cnt] by simp [hdE, hd]; omega, flt_app]; rfl, ?_⟩
          refine failsC_of (env := [.ow (.p (Sy.row (.send f) l).p), .ow (.p (.tuple (strsOf ps))), .ow (.p (.dict kvs)), .ow (.p (.int 0)), .no]) g rfl ?_
          have hc3 : ¬ (l.len : Int) = (c : Int) := by omega
          generalize strsOf ps = PS at *
          simp [t_looked_saying, Sy.p, K.mk, at0, at1, at2, od, kIx2_d, hd, Sys.ps_len, hc3, Ev.c]
    | pair =>
      have lp := lp 0
      simp only [Nat.zero_add, hdE, List.nil_append] at lp ⊢
      rcases lp with ⟨k', q1, q2⟩ | ⟨e, r, env, q1, q2⟩
      · left
        refine ⟨q1, ?_⟩
        refine gives_of (env := [.ow (.p (Sy.row .pair l).p), .ow (.p (.tuple (strsOf ps))), .ow (.p (.dict kvs)), .ow (.p (.int (sn (evl ps kvs l) : Nat))), k']) g rfl ?_ rfl
        generalize sn (evl ps kvs l) = S at *
        generalize strsOf ps = PS at *
        simp only [Sy.p, K.mk] at pl q2
        simp [t_looked_saying, Sy.p, K.mk, at0, pl] at q2 ⊢
        simp [q2]
      · right
        refine ⟨e, r, q1, ?_⟩
        refine failsC_of (env := env) g rfl ?_
        generalize strsOf ps = PS at *
        simp only [Sy.p, K.mk] at pl q2
        simp [t_looked_saying, Sy.p, K.mk, at0, pl] at q2 ⊢
        simp [q2]
    | fork =>
      have lp := lp 0
      simp only [Nat.zero_add, hdE, List.nil_append] at lp ⊢
      rcases lp with ⟨k', q1, q2⟩ | ⟨e, r, env, q1, q2⟩
      · left
        refine ⟨q1, ?_⟩
        refine gives_of (env := [.ow (.p (Sy.row .fork l).p), .ow (.p (.tuple (strsOf ps))), .ow (.p (.dict kvs)), .ow (.p (.int (sn (evl ps kvs l) : Nat))), k']) g rfl ?_ rfl
        generalize sn (evl ps kvs l) = S at *
        generalize strsOf ps = PS at *
        simp only [Sy.p, K.mk] at pl q2
        simp [t_looked_saying, Sy.p, K.mk, at0, pl] at q2 ⊢
        simp [q2]
      · right
        refine ⟨e, r, q1, ?_⟩
        refine failsC_of (env := env) g rfl ?_
        generalize strsOf ps = PS at *
        simp only [Sy.p, K.mk] at pl q2
        simp [t_looked_saying, Sy.p, K.mk, at0, pl] at q2 ⊢
        simp [q2]
end
/-! ### programs looked through -/
structure Er where
  f : List Nat
  ps : List (List Nat)
  b : Sy
def erP (e : Er) : P := lnP (e.f :: e.ps) e.b
theorem erP_eq (e : Er) : erP e = .tuple [.str (DL.st e.f), .tuple (strsOf e.ps), e.b.p] := rfl
def okEr (e : Er) : Prop := fiveB (e.f :: e.ps) = true ∧ e.b.ok = true ∧ e.b.dep ≤ 5
theorem dget_cons (a b : P) (kvs : List (P × P)) (k : P) : dget ((a, b) :: kvs) k = if a = k then some b else dget kvs k := by
  unfold dget
  rw [List.find?_cons]
  by_cases h : a = k <;> simp [h]
theorem dget_put (kvs : List (P × P)) (k v k' : P) : dget (dput kvs k v) k' = if k = k' then some v else dget kvs k' := by
  unfold dput
  by_cases h : (dget kvs k).isSome = true
  · rw [if_pos h]
    induction kvs with
    | nil => simp [dget] at h
    | cons q kvs ih =>
      obtain ⟨a, b⟩ := q
      rw [List.map_cons]
      rw [dget_cons] at h
      by_cases ha : a = k
      · subst ha
        simp only [if_true]
        rw [dget_cons, dget_cons]
        by_cases hk : a = k'
        · simp [hk]
        · rw [if_neg hk, if_neg hk, if_neg hk]
          -- behind the first place the rest may hold the key again
          clear h ih
          induction kvs with
          | nil => rfl
          | cons q kvs ih =>
            obtain ⟨c, d⟩ := q
            rw [List.map_cons, dget_cons]
            by_cases hc : c = a
            · subst hc
              simp only [if_true]
              rw [dget_cons, if_neg hk, if_neg hk, ih]
            · rw [if_neg (show ¬ (c, d).1 = a from hc), dget_cons, ih]
      · rw [if_neg ha] at h
        rw [if_neg (by simpa using ha), dget_cons, ih h, dget_cons]
        by_cases hk : k = k'
        · subst hk
          simp [ha]
        · simp [hk]
  · rw [if_neg h]
    have hn : dget kvs k = none := by simpa using h
    clear h
    induction kvs with
    | nil =>
      rw [List.nil_append, dget_cons]
    | cons q kvs ih =>
      obtain ⟨a, b⟩ := q
      rw [dget_cons] at hn
      split at hn
      · cases hn
      · rename_i ha
        rw [List.cons_append, dget_cons, dget_cons, ih hn]
        by_cases hk : k = k'
        · subst hk
          simp [ha]
        · simp [hk]
theorem dput_len (kvs : List (P × P)) (k v : P) : (dput kvs k v).length = if (dget kvs k).isSome = true then kvs.length else kvs.length + 1 := by
  unfold dput
  split <;> simp
def cts (kvs : List (P × P)) (l : List Er) : List (P × P) := l.foldl (fun kvs e => dput kvs (.str (DL.st e.f)) (.int (e.ps.length : Int))) kvs
theorem cts_int : ∀ (l : List Er) (kvs : List (P × P)), kInt kvs → kInt (cts kvs l)
  | [], kvs, h => h
  | e :: l, kvs, h => cts_int l _ fun k v hv => by
    rw [dget_put] at hv
    split at hv
    · cases hv; exact ⟨_, rfl⟩
    · exact h k v hv
theorem cts_le : ∀ (l : List Er) (kvs : List (P × P)), (cts kvs l).length ≤ kvs.length + l.length
  | [], kvs => by simp [cts]
  | e :: l, kvs => by
    have ih := cts_le l (dput kvs (.str (DL.st e.f)) (.int (e.ps.length : Int)))
    rw [dput_len] at ih
    show (cts (dput kvs (.str (DL.st e.f)) (.int (e.ps.length : Int))) l).length ≤ _
    simp only [List.length_cons]
    split at ih <;> omega
theorem cts_len : ∀ (l : List Er) (kvs : List (P × P)), (cts kvs l).length = kvs.length + l.length ↔ ((∀ e ∈ l, dget kvs (.str (DL.st e.f)) = none) ∧ (l.map Er.f).Nodup)
  | [], kvs => by simp [cts]
  | e :: l, kvs => by
    have ih := cts_len l (dput kvs (.str (DL.st e.f)) (.int (e.ps.length : Int)))
    have le := cts_le l (dput kvs (.str (DL.st e.f)) (.int (e.ps.length : Int)))
    rw [dput_len] at ih le
    show (cts (dput kvs (.str (DL.st e.f)) (.int (e.ps.length : Int))) l).length = _ ↔ _
    by_cases h : (dget kvs (.str (DL.st e.f))).isSome = true
    · rw [if_pos h] at ih le
      constructor
      · intro q
        simp only [List.length_cons] at q
        omega
      · intro q
        have := q.1 e (by simp)
        rw [this] at h
        cases h
    · rw [if_neg h] at ih le
      have hn : dget kvs (.str (DL.st e.f)) = none := by simpa using h
      rw [show kvs.length + (e :: l).length = kvs.length + 1 + l.length by simp; omega, ih, List.map_cons, List.nodup_cons]
      constructor
      · rintro ⟨q1, q2⟩
        refine ⟨fun x hx => ?_, fun hm => ?_, q2⟩
        · rcases List.mem_cons.mp hx with rfl | hx
          · exact hn
          · have := q1 x hx
            rw [dget_put] at this
            split at this
            · cases this
            · exact this
        · obtain ⟨x, hx, e2⟩ := List.mem_map.mp hm
          have := q1 x hx
          rw [dget_put, if_pos (by rw [e2])] at this
          cases this
      · rintro ⟨q1, q2, q3⟩
        refine ⟨fun x hx => ?_, q3⟩
        rw [dget_put, if_neg]
        · exact q1 x (by simp [hx])
        · intro e2
          apply q2
          have : e.f = x.f := by
            simp only [PyData.str.injEq] at e2
            exact st_inj.mp e2
          rw [this]
          exact List.mem_map_of_mem hx
def dupN (l : List Er) : Bool := decide (¬ (l.map Er.f).Nodup)
/-- how many parameters, each once -/
def up (e : Er) : Nat := (uq (e.ps.map DL.st)).length
def dupP (e : Er) : Bool := decide (up e ≠ e.ps.length)
def twice (l : List Er) : Bool := dupN l || l.any dupP
def esAll (l : List Er) : List Ev := l.flatMap fun e => evs e.ps (cts [] l) e.b
theorem ev_lns (C : Calls) (e : DL.E) (env : DL.Env) : ev C (.lns e) env = (ev C e env).bind fun d env => R.of (lnsD d) env := rfl
theorem evB_lns (C : Calls) (e : DL.E) (env : DL.Env) : evB C (.lns e) env = ev C (.lns e) env := evB_pl C env rfl
theorem lns_ps (e : Er) (h : e.ps.length ≤ 64) : lnsD (.p (.tuple (strsOf e.ps))) = some (.p (.int (up e : Nat))) := by
  have h1 := strsP_map e.ps fun w => DL.st w
  show (match strsP (strsOf e.ps) with
    | some ss => if ss.length ≤ 64 then some (D.p (.int ((uq ss).length : Nat))) else none
    | none => none) = _
  rw [h1]
  simp only
  rw [if_pos (by rw [List.length_map]; exact h)]
  rfl
section
variable {Γ : Tbl} {n : Nat}
theorem ct_loop (C : Calls) (e0 : Sl) : ∀ (l : List Er) (kvs : List (P × P)) (k2 : Sl), kvs.length + l.length ≤ 1000 → free k2 = true →
    ∃ k', forL (bFor1 C 2 w_counts_of_1) (l.map erP) [e0, .ow (.dc false kvs), k2] = .nx [e0, .ow (.dc false (cts kvs l)), k']
  | [], kvs, k2, _, _ => ⟨k2, rfl⟩
  | e :: l, kvs, k2, hl, hk => by
    simp only [List.length_cons] at hl
    have b1 : kvs.length < sizeLine := big_line (by omega)
    have sa : setAt (.str (DL.st e.f)) (.int (e.ps.length : Int)) (.dc false kvs) = some (nonD, .dc false (dput kvs (.str (DL.st e.f)) (.int (e.ps.length : Int)))) := by
      show (if (keyP (.str (DL.st e.f))).isSome = true ∧ kvs.length < sizeLine then some (nonD, D.dc false (dput kvs (.str (DL.st e.f)) (.int (e.ps.length : Int)))) else none) = _
      rw [if_pos ⟨rfl, b1⟩]
    obtain ⟨k', ih⟩ := ct_loop C e0 l (dput kvs (.str (DL.st e.f)) (.int (e.ps.length : Int))) (.ow (.p (erP e))) (by rw [dput_len]; split <;> omega) rfl
    have st1 : bFor1 C 2 w_counts_of_1 (erP e) [e0, .ow (.dc false kvs), k2] = .nx [e0, .ow (.dc false (dput kvs (.str (DL.st e.f)) (.int (e.ps.length : Int)))), .ow (.p (erP e))] := by
      rw [erP_eq]
      have lS : (strsOf e.ps).length = e.ps.length := by simp
      rw [← lS] at sa ⊢
      generalize strsOf e.ps = PS at *
      simp [bdR_free, hk, w_counts_of_1, at0, at1, sa, quiet]
    refine ⟨k', ?_⟩
    rw [List.map_cons, forL_cons, st1, RS.then_nx, ih]
    rfl
theorem counts_gives (g : Γ "counts_of" = some t_counts_of) (l : List Er) (hl : l.length ≤ 1000) : Gives Γ (n + 1) "counts_of" [.list (l.map erP)] (.dict (cts [] l)) := by
  obtain ⟨k', h⟩ := ct_loop ⟨run Γ n, wfuel⟩ (.ow (.p (.list (l.map erP)))) l [] .no (by simpa using hl) rfl
  have ev_dc : ∀ (C : Calls) (t : Bool) (env : DL.Env), ev C (.dc t) env = .ok (.dc t []) env := fun _ _ _ => rfl
  refine gives_of (env := [.ow (.p (.list (l.map erP))), .ow (.p (.dict (cts [] l))), k']) g rfl ?_ rfl
  have fz1 : ∀ (i : Nat) (kvs : List (P × P)) (env : DL.Env), fzV i (.ow (.dc false kvs)) env = .ok (.p (.dict kvs)) (env.set i (.ow (.p (.dict kvs)))) := fun _ _ _ => rfl
  generalize l.map erP = LP at *
  simp [t_counts_of, ev_dc, h, fz1]
/-- the parameters' names, errand by errand -/
theorem pr_loop (C : Calls) (e0 e1 : Sl) (e3 : Sl) : ∀ (l : List Er) (k2 : Sl), (∀ e ∈ l, e.ps.length ≤ 64) → free k2 = true →
    ∃ k', free k' = true ∧ forL (bFor1 C 2 w_looked_2) (l.map erP) [e0, e1, k2, e3] = if l.any dupP = true then .ex "Twice" [e0, e1, k', e3] else .nx [e0, e1, k', e3]
  | [], k2, _, hk => ⟨k2, hk, rfl⟩
  | e :: l, k2, hl, hk => by
    obtain ⟨k', fk, ih⟩ := pr_loop C e0 e1 e3 l (.ow (.p (erP e))) (fun x hx => hl x (by simp [hx])) rfl
    have ln := lns_ps e (hl e (by simp))
    have lS : (strsOf e.ps).length = e.ps.length := by simp
    rw [List.map_cons, forL_cons, List.any_cons]
    by_cases hd : up e = e.ps.length
    · have hb : dupP e = false := by simp [dupP, hd]
      have st1 : bFor1 C 2 w_looked_2 (erP e) [e0, e1, k2, e3] = .nx [e0, e1, .ow (.p (erP e)), e3] := by
        rw [erP_eq]
        rw [hd, ← lS] at ln
        generalize strsOf e.ps = PS at *
        simp [bdR_free, hk, w_looked_2, at1, ln, ev_lns, evB_lns]
      refine ⟨k', fk, ?_⟩
      rw [st1, RS.then_nx, ih, hb, Bool.false_or]
    · have hb : dupP e = true := by simp [dupP, hd]
      have st1 : bFor1 C 2 w_looked_2 (erP e) [e0, e1, k2, e3] = .ex "Twice" [e0, e1, .ow (.p (erP e)), e3] := by
        rw [erP_eq]
        rw [← lS] at hd
        have hd2 : ¬ (up e : Int) = ((strsOf e.ps).length : Int) := by omega
        generalize strsOf e.ps = PS at *
        generalize up e = U at *
        simp [bdR_free, hk, w_looked_2, at1, ln, ev_lns, evB_lns, hd2]
      refine ⟨.ow (.p (erP e)), rfl, ?_⟩
      rw [st1, RS.then_ex, hb, Bool.true_or, if_pos rfl]
theorem sm_loop (w : Nat) (e0 : Sl) (CD : P) (ev : Er → List Ev) : ∀ (L : List Er) (acc : Nat) (k2 : Sl), (∀ e ∈ L, Out Γ n "looked_saying" [e.b.p, .tuple (strsOf e.ps), CD] (ev e)) → free k2 = true →
    (∃ k', flt (L.flatMap ev) = [] ∧ forL (bFor1 ⟨run Γ n, w⟩ 2 w_looked_1) (L.map erP) [e0, .ow (.p CD), k2, .ow (.p (.int (acc : Int)))] = .nx [e0, .ow (.p CD), k', .ow (.p (.int ((acc + sn (L.flatMap ev) : Nat) : Int)))]) ∨
    (∃ e r env, flt (L.flatMap ev) = e :: r ∧ forL (bFor1 ⟨run Γ n, w⟩ 2 w_looked_1) (L.map erP) [e0, .ow (.p CD), k2, .ow (.p (.int (acc : Int)))] = .ex e.c env)
  | [], acc, k2, _, _ => .inl ⟨k2, rfl, rfl⟩
  | x :: L, acc, k2, h, hk => by
    rw [List.flatMap_cons, flt_app, sn_app]
    rcases h x (by simp) with ⟨h1, g⟩ | ⟨e, r, h1, g⟩
    · have g := g.c3 w
      have st1 : bFor1 ⟨run Γ n, w⟩ 2 w_looked_1 (erP x) [e0, .ow (.p CD), k2, .ow (.p (.int (acc : Int)))] = .nx [e0, .ow (.p CD), .ow (.p (erP x)), .ow (.p (.int ((acc + sn (ev x) : Nat) : Int)))] := by
        have e2 : ((acc + sn (ev x) : Nat) : Int) = (acc : Int) + (sn (ev x) : Int) := by omega
        rw [e2, erP_eq]
        generalize (acc : Int) = ai at *
        generalize (sn (ev x) : Int) = qi at *
        generalize strsOf x.ps = PS at *
        simp [w_looked_1, bdR_free, hk, g, at1, at2]
      rw [List.map_cons, forL_cons, st1, RS.then_nx, h1, List.nil_append]
      rcases sm_loop w e0 CD ev L (acc + sn (ev x)) (.ow (.p (erP x))) (fun z hz => h z (by simp [hz])) rfl with ⟨k', q1, q2⟩ | ⟨e, r, env, q1, q2⟩
      · exact .inl ⟨k', q1, by rw [q2, Nat.add_assoc]⟩
      · exact .inr ⟨e, r, env, q1, q2⟩
    · right
      have g := g.c3 w
      have st1 : bFor1 ⟨run Γ n, w⟩ 2 w_looked_1 (erP x) [e0, .ow (.p CD), k2, .ow (.p (.int (acc : Int)))] = .ex e.c [e0, .ow (.p CD), .ow (.p (erP x)), .ow (.p (.int (acc : Int)))] := by
        rw [erP_eq]
        generalize strsOf x.ps = PS at *
        simp [w_looked_1, bdR_free, hk, g, at1, at2]
      rw [List.map_cons, forL_cons, st1, RS.then_ex, h1]
      exact ⟨e, _, _, rfl, rfl⟩
theorem looked_out (g : Γ "looked_saying" = some t_looked_saying) (g1 : Γ "parts_of" = some t_parts_of) (g2 : Γ "counts_of" = some t_counts_of) (g3 : Γ "looked" = some t_looked) (l : List Er) (hl : l.length ≤ 1000) (hps : ∀ e ∈ l, e.ps.length ≤ 64) (hd : ∀ e ∈ l, e.b.dep ≤ 20) (hn : 30 ≤ n) :
    (twice l = true ∧ FailsC Γ (n + 1) "looked" [.list (l.map erP)] "Twice") ∨ (twice l = false ∧ Out Γ (n + 1) "looked" [.list (l.map erP)] (esAll l)) := by
  obtain ⟨m, rfl⟩ : ∃ m, n = m + 1 := ⟨n - 1, by omega⟩
  have gc := (counts_gives (n := m) g2 l hl).c1 wfuel
  have lM : (l.map erP).length = l.length := List.length_map _
  have lenD : opB1 .len (D.p (.dict (cts [] l))) = some (D.p (.int ((cts [] l).length : Int))) := rfl
  have cl := cts_len l []
  simp only [List.length_nil, Nat.zero_add] at cl
  by_cases hN : (l.map Er.f).Nodup
  · have e1 : (cts [] l).length = l.length := cl.mpr ⟨fun e _ => by simp [dget], hN⟩
    have dN : dupN l = false := by simp [dupN, hN]
    obtain ⟨k', frk, pl⟩ := pr_loop ⟨run Γ (m + 1), wfuel⟩ (.ow (.p (.list (l.map erP)))) (.ow (.p (.dict (cts [] l)))) .no l .no hps rfl
    cases hP : l.any dupP with
    | true =>
      left
      refine ⟨by simp [twice, hP], ?_⟩
      rw [hP, if_pos rfl] at pl
      rw [← lM] at e1
      refine failsC_of (env := [.ow (.p (.list (l.map erP))), .ow (.p (.dict (cts [] l))), k', .no]) g3 rfl ?_
      generalize l.map erP = LP at *
      generalize cts [] l = KV at *
      simp [t_looked, gc, lenD, e1, pl]
    | false =>
      right
      refine ⟨by simp [twice, dN, hP], ?_⟩
      rw [hP] at pl
      simp only [Bool.false_eq_true, if_false] at pl
      rw [← lM] at e1
      have sl := sm_loop (n := m + 1) wfuel (.ow (.p (.list (l.map erP)))) (.dict (cts [] l)) (fun e => evs e.ps (cts [] l) e.b) l 0 k' (fun e he => lk_out g g1 e.ps (cts [] l) (cts_int l [] (fun k v h => by simp [dget] at h)) (m + 1) e.b (by have := hd e he; omega)) frk
      rw [Nat.zero_add] at sl
      rcases sl with ⟨k2, q1, q2⟩ | ⟨e, r, env, q1, q2⟩
      · left
        refine ⟨q1, ?_⟩
        refine gives_of (env := [.ow (.p (.list (l.map erP))), .ow (.p (.dict (cts [] l))), k2, .ow (.p (.int (sn (esAll l) : Nat)))]) g3 rfl ?_ rfl
        show exec _ _ _ = .rt (.p (.int ((sn (l.flatMap fun e => evs e.ps (cts [] l) e.b) : Nat) : Int))) [_, _, _, .ow (.p (.int ((sn (l.flatMap fun e => evs e.ps (cts [] l) e.b) : Nat) : Int)))]
        generalize sn (l.flatMap fun e => evs e.ps (cts [] l) e.b) = S at *
        generalize l.map erP = LP at *
        generalize cts [] l = KV at *
        simp at q2
        simp [t_looked, gc, lenD, e1, pl, q2]
      · right
        refine ⟨e, r, q1, ?_⟩
        refine failsC_of (env := env) g3 rfl ?_
        generalize l.map erP = LP at *
        generalize cts [] l = KV at *
        simp at q2
        simp [t_looked, gc, lenD, e1, pl, q2]
  · left
    have e1 : ¬ (cts [] l).length = l.length := fun h => hN (cl.mp h).2
    have dN : dupN l = true := by simp [dupN, hN]
    refine ⟨by simp [twice, dN], ?_⟩
    rw [← lM] at e1
    refine failsC_of (env := [.ow (.p (.list (l.map erP))), .ow (.p (.dict (cts [] l))), .no, .no]) g3 rfl ?_
    generalize l.map erP = LP at *
    generalize cts [] l = KV at *
    have e2 : ¬ (KV.length : Int) = (LP.length : Int) := by omega
    simp [t_looked, gc, lenD, e2]
end
/-! ### the law's own look -/
def evS : Ev → P
  | .snd => .str (Str.ofString "send")
  | .such => .str (Str.ofString "such")
  | .cnt => .str (Str.ofString "count")
mutual
theorem evs_bound : ∀ (ps : List (List Nat)) (kvs : List (P × P)) (x : Sy), x.ok = true → (evs ps kvs x).length ≤ 3 * 5 ^ x.dep
  | ps, kvs, .nm w, h => by
    simp only [evs, Sy.dep]
    split <;> simp
  | ps, kvs, .bud, _ => by simp [evs]
  | ps, kvs, .un r x, h => by
    have ih := evs_bound ps kvs x h
    simp only [evs, Sy.dep, Nat.pow_succ]
    omega
  | ps, kvs, .row k l, h => by
    simp only [Sy.ok, Bool.and_eq_true] at h
    have ih := evl_bound ps kvs l h.2
    have l4 := fits_four h.1.1.2
    have hp : 0 < 5 ^ l.dep := Nat.pos_of_ne_zero (by simp)
    have ho : (hdE kvs k l.len).length ≤ 2 := by
      cases k with
      | send f =>
        simp only [hdE]
        split
        · simp
        · split <;> simp
      | _ => simp [hdE]
    have hm : l.len * (3 * 5 ^ l.dep) ≤ 4 * (3 * 5 ^ l.dep) := Nat.mul_le_mul_right _ l4
    simp only [evs, Sy.dep, List.length_append, Nat.pow_succ]
    omega
theorem evl_bound : ∀ (ps : List (List Nat)) (kvs : List (P × P)) (l : Sys), l.ok = true → (evl ps kvs l).length ≤ l.len * (3 * 5 ^ l.dep)
  | ps, kvs, .nil, _ => by simp [evl]
  | ps, kvs, .cons x l, h => by
    simp only [Sys.ok, Bool.and_eq_true] at h
    have h1 := evs_bound ps kvs x h.1
    have h2 := evl_bound ps kvs l h.2
    have p1 : 5 ^ x.dep ≤ 5 ^ (max x.dep l.dep) := Nat.pow_le_pow_right (by omega) (Nat.le_max_left _ _)
    have p2 : 5 ^ l.dep ≤ 5 ^ (max x.dep l.dep) := Nat.pow_le_pow_right (by omega) (Nat.le_max_right _ _)
    have m2 : l.len * (3 * 5 ^ l.dep) ≤ l.len * (3 * 5 ^ (max x.dep l.dep)) := Nat.mul_le_mul_left _ (Nat.mul_le_mul_left _ p2)
    have e : (l.len + 1) * (3 * 5 ^ (max x.dep l.dep)) = l.len * (3 * 5 ^ (max x.dep l.dep)) + 3 * 5 ^ (max x.dep l.dep) := Nat.succ_mul _ _
    simp only [evl, Sys.len, Sys.dep, List.length_append]
    rw [e]
    omega
end
theorem call_v3b {Γ : Tbl} {n w : Nat} {f : String} {a b c : P} {i : Nat} {env : DL.Env} {d d' z : D} {o0 o1 o2 : Sl} (hr : run Γ n f [.ow (.p a), .ow (.p b), .ow (.p c), .bo d] = .ok z [o0, o1, o2, .bo d']) (h : gt env i = .bo d) : doCall ⟨run Γ n, w⟩ f [.va (.p a), .va (.p b), .va (.p c), .br i] env = .ok z (env.set i (.bo d')) := by
  simp [doCall, lentOnce, slotsOf, slotOf, giveBack, hr, h]
theorem call_v3o {Γ : Tbl} {n w : Nat} {f : String} {a b c : P} {i : Nat} {env : DL.Env} {d d' z : D} {o0 o1 o2 : Sl} (hr : run Γ n f [.ow (.p a), .ow (.p b), .ow (.p c), .bo d] = .ok z [o0, o1, o2, .bo d']) (h : gt env i = .ow d) : doCall ⟨run Γ n, w⟩ f [.va (.p a), .va (.p b), .va (.p c), .br i] env = .ok z (env.set i (.ow d')) := by
  simp [doCall, lentOnce, slotsOf, slotOf, giveBack, hr, h]
section
variable {Γ : Tbl} {n : Nat}
def FirstAt (Γ : Tbl) (n : Nat) (PS CD : P) (x : Sy) (es : List Ev) : Prop := ∀ acc : List P, acc.length + es.length ≤ 1000000 → ∃ o0 o1 o2, run Γ n "_law_first" [.ow (.p x.p), .ow (.p PS), .ow (.p CD), .bo (.ml acc)] = .ok nonD [o0, o1, o2, .bo (.ml (acc ++ es.map evS))]
theorem f1_loop (w : Nat) (e0 : Sl) (PS CD : P) (ev : Sy → List Ev) : ∀ (L : List Sy) (acc : List P) (k4 : Sl), (∀ y ∈ L, FirstAt Γ n PS CD y (ev y)) → acc.length + (L.flatMap ev).length ≤ 1000000 → free k4 = true →
    ∃ k', forL (bFor1 ⟨run Γ n, w⟩ 4 w__law_first_1) (L.map Sy.p) [e0, .ow (.p PS), .ow (.p CD), .bo (.ml acc), k4] = .nx [e0, .ow (.p PS), .ow (.p CD), .bo (.ml (acc ++ (L.flatMap ev).map evS)), k']
  | [], acc, k4, _, _, _ => ⟨k4, by simp⟩
  | y :: L, acc, k4, h, hl, hk => by
    rw [List.flatMap_cons, List.length_append] at hl
    obtain ⟨o0, o1, o2, hr⟩ := h y (by simp) acc (by omega)
    obtain ⟨k', ih⟩ := f1_loop w e0 PS CD ev L (acc ++ (ev y).map evS) (.ow (.p y.p)) (fun z hz => h z (by simp [hz])) (by rw [List.length_append, List.length_map]; omega) rfl
    have hc := call_v3b (w := w) (env := [e0, .ow (.p PS), .ow (.p CD), .bo (.ml acc), .ow (.p y.p)]) (i := 3) hr rfl
    simp only [List.set_cons_succ, List.set_cons_zero] at hc
    have st1 : bFor1 ⟨run Γ n, w⟩ 4 w__law_first_1 y.p [e0, .ow (.p PS), .ow (.p CD), .bo (.ml acc), k4] = .nx [e0, .ow (.p PS), .ow (.p CD), .bo (.ml (acc ++ (ev y).map evS)), .ow (.p y.p)] := by
      simp [w__law_first_1, bdR_free, hk, hc]
    refine ⟨k', ?_⟩
    rw [List.map_cons, forL_cons, st1, RS.then_nx, ih]
    simp
theorem f2_loop (w : Nat) (e0 : Sl) (PS CD : P) (ev : Sy → List Ev) : ∀ (L : List Sy) (acc : List P) (k4 : Sl), (∀ y ∈ L, FirstAt Γ n PS CD y (ev y)) → acc.length + (L.flatMap ev).length ≤ 1000000 → free k4 = true →
    ∃ k', forL (bFor1 ⟨run Γ n, w⟩ 4 w__law_first_2) (L.map Sy.p) [e0, .ow (.p PS), .ow (.p CD), .bo (.ml acc), k4] = .nx [e0, .ow (.p PS), .ow (.p CD), .bo (.ml (acc ++ (L.flatMap ev).map evS)), k'] := f1_loop w e0 PS CD ev
theorem opIn_kinds (s : Str) : opIn (.p (.str s)) (.p (.tuple [.str (Str.ofString "pair"), .str (Str.ofString "left"), .str (Str.ofString "right"), .str (Str.ofString "fork")])) = some (decide (s = Str.ofString "pair" ∨ s = Str.ofString "left" ∨ s = Str.ofString "right" ∨ s = Str.ofString "fork")) := by
  show (if isFlat (.str s) = true ∧ List.all [PyData.str (Str.ofString "pair"), .str (Str.ofString "left"), .str (Str.ofString "right"), .str (Str.ofString "fork")] isFlat = true then some (List.any [PyData.str (Str.ofString "pair"), .str (Str.ofString "left"), .str (Str.ofString "right"), .str (Str.ofString "fork")] fun y => decide (y = .str s)) else none) = _
  rw [if_pos ⟨rfl, rfl⟩]
  congr 1
  rw [Bool.eq_iff_iff]
  simp only [List.any_cons, List.any_nil, Bool.or_false, Bool.or_eq_true, decide_eq_true_eq, PyData.str.injEq]
  constructor
  · rintro (h | h | h | h) <;> simp [h]
  · rintro (h | h | h | h) <;> simp [h]
theorem first_out (g : Γ "_law_first" = some t__law_first) (ps : List (List Nat)) (kvs : List (P × P)) (hk : kInt kvs) : ∀ (n : Nat) (x : Sy), x.dep ≤ n → FirstAt Γ n (.tuple (strsOf ps)) (.dict kvs) x (evs ps kvs x)
  | 0, x, h => absurd h (by have := (by cases x <;> simp [Sy.dep] : 0 < x.dep); omega)
  | n + 1, .nm w, h => fun acc hl => by
    have oi := opIn_ps ps w
    have b1 : acc.length < sizeLine := big_line (by omega)
    have ok := opIn_kinds (Str.ofString "name")
    simp only [kn_name_pair, kn_name_left, kn_name_right, kn_name_fork, or_self, decide_false] at ok
    simp only [evs]
    by_cases hw : w ∈ ps
    · rw [decide_eq_true hw] at oi
      rw [if_pos hw]
      refine ⟨.ow (.p (Sy.nm w).p), .ow (.p (.tuple (strsOf ps))), .ow (.p (.dict kvs)), ?_⟩
      rw [run_def g rfl]
      generalize strsOf ps = PS at *
      simp [t__law_first, Sy.p, at0, at1, oi, ok, outOf]
    · rw [decide_eq_false hw] at oi
      rw [if_neg hw]
      refine ⟨.ow (.p (Sy.nm w).p), .ow (.p (.tuple (strsOf ps))), .ow (.p (.dict kvs)), ?_⟩
      rw [run_def g rfl]
      generalize strsOf ps = PS at *
      simp [t__law_first, Sy.p, at0, at1, oi, ok, outOf, b1, evS]
  | n + 1, .bud, h => fun acc hl => by
    have ok := opIn_kinds (Str.ofString "bud")
    simp only [kn_bud_pair, kn_bud_left, kn_bud_right, kn_bud_fork, or_self, decide_false] at ok
    refine ⟨.ow (.p Sy.bud.p), .ow (.p (.tuple (strsOf ps))), .ow (.p (.dict kvs)), ?_⟩
    rw [run_def g rfl]
    generalize strsOf ps = PS at *
    simp [t__law_first, Sy.p, at0, at1, ok, outOf, evs]
  | n + 1, .un r x, h => fun acc hl => by
    simp only [Sy.dep] at h
    have ih := first_out g ps kvs hk n x (by omega)
    obtain ⟨k', lp⟩ := f1_loop (n := n) wfuel (.ow (.p (Sy.un r x).p)) (.tuple (strsOf ps)) (.dict kvs) (evs ps kvs) [x] acc .no (fun y hy => by rw [List.mem_singleton.mp hy]; exact ih) (by simpa [evs] using hl) rfl
    simp only [List.flatMap_cons, List.flatMap_nil, List.append_nil, List.map_cons, List.map_nil] at lp
    refine ⟨.ow (.p (Sy.un r x).p), .ow (.p (.tuple (strsOf ps))), .ow (.p (.dict kvs)), ?_⟩
    rw [run_def g rfl]
    simp only [evs]
    generalize (evs ps kvs x).map evS = EV at *
    generalize strsOf ps = PS at *
    cases r with
    | false =>
      have ok := opIn_kinds (Str.ofString "left")
      simp only [true_or, or_true, decide_true] at ok
      simp [Sy.p] at lp
      simp [t__law_first, Sy.p, at0, ok, lp, outOf]
    | true =>
      have ok := opIn_kinds (Str.ofString "right")
      simp only [true_or, or_true, decide_true] at ok
      simp [Sy.p] at lp
      simp [t__law_first, Sy.p, at0, ok, lp, outOf]
  | n + 1, .row k l, h => fun acc hl => by
    simp only [Sy.dep] at h
    simp only [evs, List.length_append] at hl
    have ih : ∀ y ∈ l.L, FirstAt Γ n (.tuple (strsOf ps)) (.dict kvs) y (evs ps kvs y) := fun y hy => first_out g ps kvs hk n y (by have := Sys.dep_L l y hy; omega)
    refine ⟨.ow (.p (Sy.row k l).p), .ow (.p (.tuple (strsOf ps))), .ow (.p (.dict kvs)), ?_⟩
    rw [run_def g rfl]
    simp only [evs, List.map_append]
    cases k with
    | pair =>
      obtain ⟨k', lp⟩ := f1_loop (n := n) wfuel (.ow (.p (Sy.row .pair l).p)) (.tuple (strsOf ps)) (.dict kvs) (evs ps kvs) l.L acc .no ih (by rw [← evl_L]; omega) rfl
      rw [← evl_L, ← Sys.ps_L] at lp
      have ok := opIn_kinds (Str.ofString "pair")
      simp only [true_or, or_true, decide_true] at ok
      generalize (evl ps kvs l).map evS = EV at *
      generalize strsOf ps = PS at *
      simp only [Sy.p, K.mk] at lp
      simp [t__law_first, Sy.p, K.mk, at0, ok, lp, outOf, hdE]
    | fork =>
      obtain ⟨k', lp⟩ := f1_loop (n := n) wfuel (.ow (.p (Sy.row .fork l).p)) (.tuple (strsOf ps)) (.dict kvs) (evs ps kvs) l.L acc .no ih (by rw [← evl_L]; omega) rfl
      rw [← evl_L, ← Sys.ps_L] at lp
      have ok := opIn_kinds (Str.ofString "fork")
      simp only [true_or, or_true, decide_true] at ok
      generalize (evl ps kvs l).map evS = EV at *
      generalize strsOf ps = PS at *
      simp only [Sy.p, K.mk] at lp
      simp [t__law_first, Sy.p, K.mk, at0, ok, lp, outOf, hdE]
    | send f =>
      have ok := opIn_kinds (Str.ofString "send")
      simp only [kn_send_pair, kn_send_left, kn_send_right, kn_send_fork, or_self, decide_false] at ok
      have od := opIn_d kvs (DL.st f)
      obtain ⟨k', lp⟩ := f2_loop (n := n) wfuel (.ow (.p (Sy.row (.send f) l).p)) (.tuple (strsOf ps)) (.dict kvs) (evs ps kvs) l.L (acc ++ (hdE kvs (.send f) l.len).map evS) .no ih (by rw [← evl_L, List.length_append, List.length_map]; omega) rfl
      rw [← evl_L, ← Sys.ps_L] at lp
      have h2 : (hdE kvs (.send f) l.len).length ≤ 2 := by
        simp only [hdE]
        split
        · simp
        · split <;> simp
      have b1 : acc.length < sizeLine := by
        refine big_line ?_
        omega
      have b2 : acc.length + 1 < sizeLine := big_line (by omega)
      cases hd : dget kvs (.str (DL.st f)) with
      | none =>
        rw [hd] at od
        have he : (hdE kvs (.send f) l.len).map evS = [.str (Str.ofString "send"), .str (Str.ofString "such")] := by simp [hdE, hd, evS]
        rw [he] at lp ⊢
        generalize (evl ps kvs l).map evS = EV at *
        generalize strsOf ps = PS at *
        simp only [Sy.p, K.mk] at lp
        simp at lp
        simp [t__law_first, Sy.p, K.mk, at0, at1, at2, ok, od, lp, outOf, b1, b2]
      | some v =>
        obtain ⟨c, rfl⟩ := hk _ _ hd
        rw [hd] at od
        by_cases hc : c = l.len
        · subst hc
          have he : (hdE kvs (.send f) l.len).map evS = [.str (Str.ofString "send")] := by simp [hdE, hd, evS]
          rw [he] at lp ⊢
          generalize (evl ps kvs l).map evS = EV at *
          generalize strsOf ps = PS at *
          simp only [Sy.p, K.mk] at lp
          simp at lp
          simp [t__law_first, Sy.p, K.mk, at0, at1, at2, ok, od, kIx2_d, hd, Sys.ps_len, lp, outOf, b1, b2]
        · have he : (hdE kvs (.send f) l.len).map evS = [.str (Str.ofString "send"), .str (Str.ofString "count")] := by
            simp only [hdE, hd]
            rw [if_neg (by simp only [PyData.int.injEq]; omega)]
            rfl
          have hc3 : ¬ (l.len : Int) = (c : Int) := by omega
          rw [he] at lp ⊢
          generalize (evl ps kvs l).map evS = EV at *
          generalize strsOf ps = PS at *
          simp only [Sy.p, K.mk] at lp
          simp at lp
          simp [t__law_first, Sy.p, K.mk, at0, at1, at2, ok, od, kIx2_d, hd, Sys.ps_len, hc3, lp, outOf, b1, b2]
end
/-! ### what is due -/
def dueP (l : List Er) : P := if twice l = true then .str (Str.ofString "twice") else match flt (esAll l) with
  | e :: _ => evS e
  | [] => .int ((esAll l).length : Int)
theorem uq_le (xs : List Str) : (uq xs).length ≤ xs.length := by
  have g : ∀ (xs acc : List Str), (xs.foldl (fun l x => if x ∈ l then l else l ++ [x]) acc).length ≤ acc.length + xs.length := fun xs => by
    induction xs with
    | nil => intro acc; simp
    | cons x xs ih =>
      intro acc
      simp only [List.foldl_cons, List.length_cons]
      by_cases hx : x ∈ acc
      · rw [if_pos hx]
        have := ih acc
        omega
      · rw [if_neg hx]
        have := ih (acc ++ [x])
        simp only [List.length_append, List.length_cons, List.length_nil] at this
        omega
  have := g xs []
  simpa [uq] using this
theorem up_le (e : Er) : up e ≤ e.ps.length := by
  have := uq_le (e.ps.map DL.st)
  simpa [up] using this
abbrev nmsP (l : List Er) : List P := l.map fun e => PyData.str (DL.st e.f)
theorem cnt_nms (l : List Er) (f : List Nat) : DL.cntP (.str (DL.st f)) (nmsP l) = (l.map Er.f).count f := by
  unfold DL.cntP
  rw [List.countP_map, List.count_eq_countP, List.countP_map]
  congr 1
  funext e
  simp only [Function.comp_apply]
  rw [Bool.eq_iff_iff]
  simp
def chkE (l : List Er) (e : Er) : Bool := decide (1 < (l.map Er.f).count e.f) || decide (up e < e.ps.length)
theorem chk_twice (l : List Er) : l.any (chkE l) = twice l := by
  rw [Bool.eq_iff_iff]
  simp only [twice, chkE, List.any_eq_true, Bool.or_eq_true, decide_eq_true_eq, dupN, dupP]
  constructor
  · rintro ⟨e, he, h | h⟩
    · left
      intro hn
      have := List.nodup_iff_count.mp hn e.f
      omega
    · right
      exact ⟨e, he, by omega⟩
  · rintro (h | ⟨e, he, h⟩)
    · rw [List.nodup_iff_count] at h
      obtain ⟨a, ha⟩ := Classical.not_forall.mp h
      have hm : a ∈ l.map Er.f := List.count_pos_iff.mp (by omega)
      obtain ⟨e, he, rfl⟩ := List.mem_map.mp hm
      exact ⟨e, he, .inl (by omega)⟩
    · have := up_le e
      exact ⟨e, he, .inr (by omega)⟩
theorem rd_cnt (x : P) (xs : List P) (h1 : isFlat x = true) (h2 : xs.all isFlat = true) : read1 .count (.p (.list xs)) (.p x) = some (.p (.int (DL.cntP x xs : Nat))) := by
  show (if isFlat x = true ∧ xs.all isFlat = true then some (D.p (.int (DL.cntP x xs : Nat))) else none) = _
  rw [if_pos ⟨h1, h2⟩]
theorem rdk_cnt (xs : List P) : rdOk .count (.p (.list xs)) = true := rfl
section
variable {Γ : Tbl} {n : Nat}
theorem du3_loop (C : Calls) (L : List Er) (e0 e3 e4 e5 e6 : Sl) : ∀ (l : List Er) (k2 : Sl), (∀ e ∈ l, e.ps.length ≤ 64) → free k2 = true →
    ∃ k', free k' = true ∧ forL (bFor1 C 2 w__law_due_3) (l.map erP) [e0, .ow (.p (.list (nmsP L))), k2, e3, e4, e5, e6] = if l.any (chkE L) = true then .rt (.p (.str (Str.ofString "twice"))) [e0, .ow (.p (.list (nmsP L))), k', e3, e4, e5, e6] else .nx [e0, .ow (.p (.list (nmsP L))), k', e3, e4, e5, e6]
  | [], k2, _, hk => ⟨k2, hk, rfl⟩
  | e :: l, k2, hl, hk => by
    obtain ⟨k', fk, ih⟩ := du3_loop C L e0 e3 e4 e5 e6 l (.ow (.p (erP e))) (fun x hx => hl x (by simp [hx])) rfl
    have ln := lns_ps e (hl e (by simp))
    have lS : (strsOf e.ps).length = e.ps.length := by simp
    have rc := rd_cnt (.str (DL.st e.f)) (nmsP L) rfl (by simp [nmsP, isFlat])
    rw [cnt_nms] at rc
    rw [List.map_cons, forL_cons, List.any_cons]
    by_cases h1 : 1 < (L.map Er.f).count e.f
    · have hb : chkE L e = true := by simp [chkE, h1]
      have h1' : (1 : Int) < ((L.map Er.f).count e.f : Nat) := by omega
      have st1 : bFor1 C 2 w__law_due_3 (erP e) [e0, .ow (.p (.list (nmsP L))), k2, e3, e4, e5, e6] = .rt (.p (.str (Str.ofString "twice"))) [e0, .ow (.p (.list (nmsP L))), .ow (.p (erP e)), e3, e4, e5, e6] := by
        rw [erP_eq]
        generalize strsOf e.ps = PS at *
        generalize nmsP L = NM at *
        generalize (L.map Er.f).count e.f = cc at *
        simp [bdR_free, hk, w__law_due_3, at0, at1, rc, rdk_cnt, h1']
      refine ⟨.ow (.p (erP e)), rfl, ?_⟩
      rw [st1, RS.then_rt, hb, Bool.true_or, if_pos rfl]
    · have h1' : ¬ (1 : Int) < ((L.map Er.f).count e.f : Nat) := by omega
      by_cases h2 : up e < e.ps.length
      · have hb : chkE L e = true := by simp [chkE, h2]
        have st1 : bFor1 C 2 w__law_due_3 (erP e) [e0, .ow (.p (.list (nmsP L))), k2, e3, e4, e5, e6] = .rt (.p (.str (Str.ofString "twice"))) [e0, .ow (.p (.list (nmsP L))), .ow (.p (erP e)), e3, e4, e5, e6] := by
          rw [erP_eq]
          rw [← lS] at h2
          generalize strsOf e.ps = PS at *
          generalize nmsP L = NM at *
          generalize (L.map Er.f).count e.f = cc at *
          generalize up e = U at *
          simp [bdR_free, hk, w__law_due_3, at0, at1, rc, rdk_cnt, h1', ln, ev_lns, evB_lns, h2]
        refine ⟨.ow (.p (erP e)), rfl, ?_⟩
        rw [st1, RS.then_rt, hb, Bool.true_or, if_pos rfl]
      · have hb : chkE L e = false := by simp [chkE, h2]; omega
        have st1 : bFor1 C 2 w__law_due_3 (erP e) [e0, .ow (.p (.list (nmsP L))), k2, e3, e4, e5, e6] = .nx [e0, .ow (.p (.list (nmsP L))), .ow (.p (erP e)), e3, e4, e5, e6] := by
          rw [erP_eq]
          rw [← lS] at h2
          generalize strsOf e.ps = PS at *
          generalize nmsP L = NM at *
          generalize (L.map Er.f).count e.f = cc at *
          generalize up e = U at *
          simp [bdR_free, hk, w__law_due_3, at0, at1, rc, rdk_cnt, h1', ln, ev_lns, evB_lns, h2]
        refine ⟨k', fk, ?_⟩
        rw [st1, RS.then_nx, ih, hb, Bool.false_or]
theorem du2_loop (C : Calls) (e0 e1 e4 e5 e6 : Sl) : ∀ (l : List Er) (kvs : List (P × P)) (k2 : Sl), kvs.length + l.length ≤ 1000 → free k2 = true →
    ∃ k', free k' = true ∧ forL (bFor1 C 2 w__law_due_2) (l.map erP) [e0, e1, k2, .ow (.dc false kvs), e4, e5, e6] = .nx [e0, e1, k', .ow (.dc false (cts kvs l)), e4, e5, e6]
  | [], kvs, k2, _, hk => ⟨k2, hk, rfl⟩
  | e :: l, kvs, k2, hl, hk => by
    simp only [List.length_cons] at hl
    have b1 : kvs.length < sizeLine := big_line (by omega)
    have sa : setAt (.str (DL.st e.f)) (.int (e.ps.length : Int)) (.dc false kvs) = some (nonD, .dc false (dput kvs (.str (DL.st e.f)) (.int (e.ps.length : Int)))) := by
      show (if (keyP (.str (DL.st e.f))).isSome = true ∧ kvs.length < sizeLine then some (nonD, D.dc false (dput kvs (.str (DL.st e.f)) (.int (e.ps.length : Int)))) else none) = _
      rw [if_pos ⟨rfl, b1⟩]
    obtain ⟨k', fk, ih⟩ := du2_loop C e0 e1 e4 e5 e6 l (dput kvs (.str (DL.st e.f)) (.int (e.ps.length : Int))) (.ow (.p (erP e))) (by rw [dput_len]; split <;> omega) rfl
    have st1 : bFor1 C 2 w__law_due_2 (erP e) [e0, e1, k2, .ow (.dc false kvs), e4, e5, e6] = .nx [e0, e1, .ow (.p (erP e)), .ow (.dc false (dput kvs (.str (DL.st e.f)) (.int (e.ps.length : Int)))), e4, e5, e6] := by
      rw [erP_eq]
      have lS : (strsOf e.ps).length = e.ps.length := by simp
      rw [← lS] at sa ⊢
      generalize strsOf e.ps = PS at *
      simp [bdR_free, hk, w__law_due_2, at0, at1, sa, quiet]
    refine ⟨k', fk, ?_⟩
    rw [List.map_cons, forL_cons, st1, RS.then_nx, ih]
    rfl
theorem du1_loop (w : Nat) (e0 e1 : Sl) (CD : P) (e5 e6 : Sl) (ev : Er → List Ev) : ∀ (l : List Er) (acc : List P) (k2 : Sl), (∀ e ∈ l, FirstAt Γ n (.tuple (strsOf e.ps)) CD e.b (ev e)) → acc.length + (l.flatMap ev).length ≤ 1000000 → free k2 = true →
    ∃ k', forL (bFor1 ⟨run Γ n, w⟩ 2 w__law_due_1) (l.map erP) [e0, e1, k2, .ow (.p CD), .ow (.ml acc), e5, e6] = .nx [e0, e1, k', .ow (.p CD), .ow (.ml (acc ++ (l.flatMap ev).map evS)), e5, e6]
  | [], acc, k2, _, _, hk => ⟨k2, by simp⟩
  | e :: l, acc, k2, h, hl, hk => by
    rw [List.flatMap_cons, List.length_append] at hl
    obtain ⟨o0, o1, o2, hr⟩ := h e (by simp) acc (by omega)
    obtain ⟨k', ih⟩ := du1_loop w e0 e1 CD e5 e6 ev l (acc ++ (ev e).map evS) (.ow (.p (erP e))) (fun z hz => h z (by simp [hz])) (by rw [List.length_append, List.length_map]; omega) rfl
    have hc := call_v3o (w := w) (env := [e0, e1, .ow (.p (erP e)), .ow (.p CD), .ow (.ml acc), e5, e6]) (i := 4) hr rfl
    simp only [List.set_cons_succ, List.set_cons_zero] at hc
    have st1 : bFor1 ⟨run Γ n, w⟩ 2 w__law_due_1 (erP e) [e0, e1, k2, .ow (.p CD), .ow (.ml acc), e5, e6] = .nx [e0, e1, .ow (.p (erP e)), .ow (.p CD), .ow (.ml (acc ++ (ev e).map evS)), e5, e6] := by
      rw [erP_eq] at hc ⊢
      generalize strsOf e.ps = PS at *
      simp [w__law_due_1, bdR_free, hk, hc, at1, at2]
    refine ⟨k', ?_⟩
    rw [List.map_cons, forL_cons, st1, RS.then_nx, ih]
    simp
theorem due_gives (g1 : Γ "_law_first" = some t__law_first) (g2 : Γ "_law_due" = some t__law_due) (l : List Er) (hl : l.length ≤ 100) (hok : ∀ e ∈ l, okEr e) (hn : 10 ≤ n) : Gives Γ (n + 1) "_law_due" [.list (l.map erP)] (dueP l) := by
  have hps : ∀ e ∈ l, e.ps.length ≤ 64 := fun e he => by
    have := (hok e he).1
    simp only [fiveB, Bool.and_eq_true, decide_eq_true_eq, List.length_cons] at this
    omega
  have nc : ∀ (s0 s2 s3 s4 s5 s6 : Sl), lcLoop (lcF 2 (ev ⟨run Γ n, wfuel⟩ (.ix (.v 2) (.k (.int 0))))) (l.map erP) [] [s0, s2, .no, s3, s4, s5, s6] = .ok ([] ++ nmsP l) [s0, s2, .no, s3, s4, s5, s6] := fun s0 s2 s3 s4 s5 s6 =>
    lcLoop_idx l [] (fun e he => by
      rw [erP_eq]
      generalize strsOf e.ps = PS
      simp [at0]) (by simp; omega)
  rw [List.nil_append] at nc
  obtain ⟨k3, f3, L3⟩ := du3_loop ⟨run Γ n, wfuel⟩ l (.ow (.p (.list (l.map erP)))) .no .no .no .no l .no hps rfl
  rw [chk_twice] at L3
  have ev_dc : ∀ (C : Calls) (t : Bool) (env : DL.Env), ev C (.dc t) env = .ok (.dc t []) env := fun _ _ _ => rfl
  have ghd : ∀ (i : Nat) (kvs : List (P × P)) (env : DL.Env), ghV i (.ow (.dc false kvs)) env = .nx (env.set i (.ow (.p (.dict kvs)))) := fun _ _ _ => rfl
  unfold dueP
  cases ht : twice l with
  | true =>
    rw [ht, if_pos rfl] at L3
    rw [if_pos rfl]
    refine gives_of (env := [.ow (.p (.list (l.map erP))), .ow (.p (.list (nmsP l))), k3, .no, .no, .no, .no]) g2 rfl ?_ rfl
    generalize nmsP l = NM at *
    generalize l.map erP = LP at *
    simp [t__law_due, nc, L3]
  | false =>
    rw [ht] at L3
    simp only [Bool.false_eq_true, if_false] at L3 ⊢
    obtain ⟨k2, f2, L2⟩ := du2_loop ⟨run Γ n, wfuel⟩ (.ow (.p (.list (l.map erP)))) (.ow (.p (.list (nmsP l)))) .no .no .no l [] k3 (by simp; omega) f3
    have eb : (esAll l).length ≤ 1000000 := by
      have hb : ∀ e ∈ l, (evs e.ps (cts [] l) e.b).length ≤ 3 * 5 ^ 5 := fun e he => by
        have h1 := evs_bound e.ps (cts [] l) e.b (hok e he).2.1
        have h2 : 5 ^ e.b.dep ≤ 5 ^ 5 := Nat.pow_le_pow_right (by omega) (hok e he).2.2
        omega
      have fl : ∀ (L : List Er), (∀ e ∈ L, (evs e.ps (cts [] l) e.b).length ≤ 3 * 5 ^ 5) → (L.flatMap fun e => evs e.ps (cts [] l) e.b).length ≤ L.length * (3 * 5 ^ 5) := fun L => by
        induction L with
        | nil => intro _; simp
        | cons a L ih =>
          intro h
          have h1 := h a (by simp)
          have h2 := ih fun b hb => h b (by simp [hb])
          rw [List.flatMap_cons, List.length_append, List.length_cons, Nat.succ_mul]
          omega
      have := fl l hb
      show (l.flatMap fun e => evs e.ps (cts [] l) e.b).length ≤ _
      have h3 : l.length * (3 * 5 ^ 5) ≤ 100 * (3 * 5 ^ 5) := Nat.mul_le_mul_right _ hl
      omega
    obtain ⟨k1, L1⟩ := du1_loop (n := n) wfuel (.ow (.p (.list (l.map erP)))) (.ow (.p (.list (nmsP l)))) (.dict (cts [] l)) .no .no (fun e => evs e.ps (cts [] l) e.b) l [] k2 (fun e he => first_out g1 e.ps (cts [] l) (cts_int l [] (fun k v h => by simp [dget] at h)) n e.b (by have := (hok e he).2.2; omega)) (by rw [List.length_nil, Nat.zero_add]; exact eb) f2
    have L1' : forL (bFor1 ⟨run Γ n, wfuel⟩ 2 w__law_due_1) (l.map erP) [.ow (.p (.list (l.map erP))), .ow (.p (.list (nmsP l))), k2, .ow (.p (.dict (cts [] l))), .ow (.ml []), .no, .no] = .nx [.ow (.p (.list (l.map erP))), .ow (.p (.list (nmsP l))), k1, .ow (.p (.dict (cts [] l))), .ow (.ml ((esAll l).map evS)), .no, .no] := by
      rw [L1, List.nil_append]
      rfl
    have lc : ∀ (s0 s1 s2 s3 s4 s5 : Sl), lcIf (lcC ⟨run Γ n, wfuel⟩ 6 (.cmp .ne (.v 6) (.k (.str (Str.ofString "send"))))) (lcE 6 (ev ⟨run Γ n, wfuel⟩ (.v 6))) 6 ((esAll l).map evS) [] [s0, s1, s2, s3, s4, s5, .no] = .ok ([] ++ ((esAll l).filter Ev.f).map evS) [s0, s1, s2, s3, s4, s5, .no] := fun s0 s1 s2 s3 s4 s5 => by
      refine lcIf_idx rfl _ _ (fun e he => ⟨?_, fun _ => ?_⟩) (by simp; omega)
      · have n1 : (Str.ofString "such" = Str.ofString "send") = False := eq_false (by decide +kernel)
        have n2 : (Str.ofString "count" = Str.ofString "send") = False := eq_false (by decide +kernel)
        cases e <;> simp [evS, Ev.f, n1, n2]
      · cases e <;> simp [evS]
    rw [List.nil_append] at lc
    have lE : ((esAll l).map evS).length = (esAll l).length := List.length_map _
    cases hf : flt (esAll l) with
    | nil =>
      have hf' : ((esAll l).filter Ev.f).map evS = [] := by
        show (flt (esAll l)).map evS = []
        rw [hf]; rfl
      rw [hf'] at lc
      refine gives_of (env := [.ow (.p (.list (l.map erP))), .ow (.p (.list (nmsP l))), k1, .ow (.p (.dict (cts [] l))), .ow (.p (.list ((esAll l).map evS))), .ow (.p (.list [])), .no]) g2 rfl ?_ rfl
      simp only
      rw [← lE]
      generalize (esAll l).map evS = ES at *
      generalize nmsP l = NM at *
      generalize l.map erP = LP at *
      generalize cts [] l = KV at *
      simp [t__law_due, nc, L3, ev_dc, L2, ghd, L1', lc]
    | cons e r =>
      have hf' : ((esAll l).filter Ev.f).map evS = evS e :: r.map evS := by
        show (flt (esAll l)).map evS = _
        rw [hf]; rfl
      rw [hf'] at lc
      refine gives_of (env := [.ow (.p (.list (l.map erP))), .ow (.p (.list (nmsP l))), k1, .ow (.p (.dict (cts [] l))), .ow (.p (.list ((esAll l).map evS))), .ow (.p (.list (evS e :: r.map evS))), .no]) g2 rfl ?_ rfl
      simp only
      generalize (esAll l).map evS = ES at *
      generalize nmsP l = NM at *
      generalize l.map erP = LP at *
      generalize cts [] l = KV at *
      simp [t__law_due, nc, L3, ev_dc, L2, ghd, L1', lc, at0]
end
/-! ### a saying spoilt -/
theorem of_L : ∀ l : Sys, Sys.of l.L = l
  | .nil => rfl
  | .cons x l => by simp only [Sys.L, Sys.of, of_L l]
theorem s_qq : Str.ofString "qq" = DL.st [113, 113] := by decide +kernel
theorem cut_last {α : Type} (xs : List α) (h : xs ≠ []) : cutL xs none (some (-1)) = xs.dropLast := by
  have hl : 0 < xs.length := List.length_pos_iff.mpr h
  have e : HT.sIx xs.length xs.length (some (-1)) = xs.length - 1 := by
    simp [HT.sIx]
    omega
  unfold cutL
  rw [e, HT.sIx_none, List.drop_zero, Nat.sub_zero, List.dropLast_eq_take]
theorem call_vbv {Γ : Tbl} {n w : Nat} {f : String} {a c : P} {i : Nat} {env : DL.Env} {d d' z : D} {o0 o2 : Sl} (hr : run Γ n f [.ow (.p a), .bo d, .ow (.p c)] = .ok z [o0, .bo d', o2]) (h : gt env i = .bo d) : doCall ⟨run Γ n, w⟩ f [.va (.p a), .br i, .va (.p c)] env = .ok z (env.set i (.bo d')) := by
  simp [doCall, lentOnce, slotsOf, slotOf, giveBack, hr, h]
theorem call_vov {Γ : Tbl} {n w : Nat} {f : String} {a c : P} {i : Nat} {env : DL.Env} {d d' z : D} {o0 o2 : Sl} (hr : run Γ n f [.ow (.p a), .bo d, .ow (.p c)] = .ok z [o0, .bo d', o2]) (h : gt env i = .ow d) : doCall ⟨run Γ n, w⟩ f [.va (.p a), .br i, .va (.p c)] env = .ok z (env.set i (.ow d')) := by
  simp [doCall, lentOnce, slotsOf, slotOf, giveBack, hr, h]
abbrev atD (v : Int) (t : List Nat) : D := .ml [.int v, .str (DL.st t)]
section
variable {Γ : Tbl} {n : Nat}
def SpAt (Γ : Tbl) (n : Nat) (t : List Nat) (way : Int) (x : Sy) : Prop := ∀ v : Int, ∃ (y : Sy) (v' : Int) (o0 o2 : Sl), y.ok = true ∧ y.dep ≤ x.dep ∧ run Γ n "_law_spoilt" [.ow (.p x.p), .bo (atD v t), .ow (.p (.int way))] = .ok (.p y.p) [o0, .bo (atD v' t), o2]
theorem sp_loop (w : Nat) (e0 : Sl) (t : List Nat) (way : Int) (d : Nat) : ∀ (L : List Sy) (acc : List P) (v : Int), (∀ y ∈ L, SpAt Γ n t way y ∧ y.dep ≤ d) → acc.length + L.length ≤ 1000 →
    ∃ (M : List Sy) (v' : Int), M.length = L.length ∧ (∀ y ∈ M, y.ok = true) ∧ (∀ y ∈ M, y.dep ≤ d) ∧ lcLoop (lcF 3 (ev ⟨run Γ n, w⟩ (.call "_law_spoilt" (.cons (.v 3) (.cons (.bw 1) (.cons (.v 2) .nil)))))) (L.map Sy.p) acc [e0, .bo (atD v t), .ow (.p (.int way)), .no] = .ok (acc ++ M.map Sy.p) [e0, .bo (atD v' t), .ow (.p (.int way)), .no]
  | [], acc, v, _, _ => ⟨[], v, rfl, by simp, by simp, by simp [lcLoop]⟩
  | x :: L, acc, v, h, hl => by
    simp only [List.length_cons] at hl
    obtain ⟨hx, hdx⟩ := h x (by simp)
    obtain ⟨y, v1, o0, o2, y1, y2, hr⟩ := hx v
    obtain ⟨M, v', m1, m2, m3, m4⟩ := sp_loop w e0 t way d L (acc ++ [y.p]) v1 (fun z hz => h z (by simp [hz])) (by simp; omega)
    refine ⟨y :: M, v', by simp [m1], fun z hz => ?_, fun z hz => ?_, ?_⟩
    · rcases List.mem_cons.mp hz with rfl | hz
      · exact y1
      · exact m2 z hz
    · rcases List.mem_cons.mp hz with rfl | hz
      · omega
      · exact m3 z hz
    · have hc := call_vbv (w := w) (env := [e0, .bo (atD v t), .ow (.p (.int way)), .ow (.p x.p)]) (i := 1) hr rfl
      simp only [List.set_cons_succ, List.set_cons_zero] at hc
      have st1 : lcF 3 (ev ⟨run Γ n, w⟩ (.call "_law_spoilt" (.cons (.v 3) (.cons (.bw 1) (.cons (.v 2) .nil))))) x.p [e0, .bo (atD v t), .ow (.p (.int way)), .no] = .ok y.p [e0, .bo (atD v1 t), .ow (.p (.int way)), .no] := by
        simp [hc]
      simp only [List.map_cons, lcLoop]
      rw [st1]
      simp only
      rw [if_pos (big_line (by omega)), m4]
      simp
theorem sp_out (g : Γ "_law_spoilt" = some t__law_spoilt) (t : List Nat) (ht : wordB t = true) (way : Int) : ∀ (n : Nat) (x : Sy), x.ok = true → x.dep ≤ n → SpAt Γ n t way x
  | 0, x, _, h => absurd h (by have := (by cases x <;> simp [Sy.dep] : 0 < x.dep); omega)
  | n + 1, x, ho, h => fun v => by
    by_cases hv : v < 0
    · refine ⟨x, v, .ow (.p x.p), .ow (.p (.int way)), ho, Nat.le_refl _, ?_⟩
      rw [run_def g rfl]
      simp [t__law_spoilt, at0, quiet, hv, outOf]
    · have e0 : ixN 2 0 = some 0 := by decide
      cases x with
      | bud =>
        refine ⟨.bud, v, .ow (.p Sy.bud.p), .ow (.p (.int way)), rfl, Nat.le_refl _, ?_⟩
        rw [run_def g rfl]
        simp [t__law_spoilt, Sy.p, at0, quiet, hv, outOf]
      | nm w =>
        by_cases hv1 : v - 1 < 0
        · refine ⟨.nm t, v - 1, .ow (.p (Sy.nm w).p), .ow (.p (.int way)), ht, Nat.le_refl _, ?_⟩
          rw [run_def g rfl]
          simp [t__law_spoilt, Sy.p, at0, at1, quiet, hv, hv1, e0, outOf]
        · refine ⟨.nm w, v - 1, .ow (.p (Sy.nm w).p), .ow (.p (.int way)), ho, Nat.le_refl _, ?_⟩
          rw [run_def g rfl]
          simp [t__law_spoilt, Sy.p, at0, at1, quiet, hv, hv1, e0, outOf]
      | un r x =>
        simp only [Sy.dep] at h
        simp only [Sy.ok] at ho
        obtain ⟨M, v', m1, m2, m3, m4⟩ := sp_loop (n := n) wfuel (.ow (.p (Sy.un r x).p)) t way x.dep [x] [] (v - 1) (fun y hy => by rw [List.mem_singleton.mp hy]; exact ⟨sp_out g t ht way n x ho (by omega), Nat.le_refl _⟩) (by simp)
        obtain ⟨y, rfl⟩ : ∃ y, M = [y] := by
          match M, m1 with
          | [y], _ => exact ⟨y, rfl⟩
        refine ⟨.un r y, v', .ow (.p (Sy.un r x).p), .ow (.p (.int way)), m2 y (by simp), by have := m3 y (by simp); simp only [Sy.dep]; omega, ?_⟩
        rw [run_def g rfl]
        simp only [List.map_cons, List.map_nil, List.nil_append] at m4
        have b1 : 1 + 1 ≤ sizeLine := big_line' (by omega)
        cases r with
        | false =>
          simp [Sy.p] at m4
          simp [t__law_spoilt, Sy.p, at0, at1, quiet, hv, e0, outOf, m4, b1]
        | true =>
          simp [Sy.p] at m4
          simp [t__law_spoilt, Sy.p, at0, at1, quiet, hv, e0, outOf, m4, b1]
      | row k l =>
        simp only [Sy.dep] at h
        simp only [Sy.ok, Bool.and_eq_true, decide_eq_true_eq] at ho
        obtain ⟨⟨⟨o1, o2⟩, o3⟩, o4⟩ := ho
        have l4 := fits_four o2
        have lL := Sys.len_L l
        obtain ⟨M, v', m1, m2, m3, m4⟩ := sp_loop (n := n) wfuel (.ow (.p (Sy.row k l).p)) t way l.dep l.L [] (v - 1) (fun y hy => ⟨sp_out g t ht way n y (Sys.ok_L l o4 y hy) (by have := Sys.dep_L l y hy; omega), Sys.dep_L l y hy⟩) (by simp; omega)
        rw [List.nil_append, ← Sys.ps_L, ← of_ps] at m4
        have d1 := of_dep l.dep M m3
        have k1 := of_ok M m2
        have n1 : (Sys.of M).len = l.len := by rw [of_len, m1, lL]
        have b1 : 1 + (Sys.of M).ps.length ≤ sizeLine := big_line' (by rw [Sys.ps_len, n1]; omega)
        have whole : ((Sy.row k (Sys.of M)).ok = true ∧ (Sy.row k (Sys.of M)).dep ≤ (Sy.row k l).dep) := ⟨by simp [Sy.ok, o1, n1, o2, o3, k1], by simp only [Sy.dep]; omega⟩
        cases k with
        | pair =>
          refine ⟨.row .pair (Sys.of M), v', .ow (.p (Sy.row .pair l).p), .ow (.p (.int way)), whole.1, whole.2, ?_⟩
          rw [run_def g rfl]
          simp only [Sy.p, K.mk] at m4 ⊢
          generalize (Sys.of M).ps = MP at *
          generalize l.ps = LP at *
          simp [t__law_spoilt, at0, at1, quiet, hv, e0, outOf, m4, b1]
        | fork =>
          refine ⟨.row .fork (Sys.of M), v', .ow (.p (Sy.row .fork l).p), .ow (.p (.int way)), whole.1, whole.2, ?_⟩
          rw [run_def g rfl]
          simp only [Sy.p, K.mk] at m4 ⊢
          generalize (Sys.of M).ps = MP at *
          generalize l.ps = LP at *
          simp [t__law_spoilt, at0, at1, quiet, hv, e0, outOf, m4, b1]
        | send f =>
          have lP := Sys.ps_len l
          by_cases hv1 : v - 1 < 0
          · by_cases hw : way = 0
            · refine ⟨.row (.send [113, 113]) l, v - 1, .ow (.p (Sy.row (.send f) l).p), .ow (.p (.int way)), by simp [Sy.ok, K.ok, K.fits, o3, o4]; exact ⟨by decide, l4⟩, Nat.le_refl _, ?_⟩
              rw [run_def g rfl]
              simp only [Sy.p, K.mk]
              generalize l.ps = LP at *
              simp [t__law_spoilt, at0, at1, at2, quiet, hv, hv1, hw, e0, outOf, s_qq]
            · by_cases h1 : l.len = 1
              · have e1 : (Sys.of (l.L ++ [.bud])).ps = l.ps ++ [.tuple [.str (Str.ofString "bud")]] := by
                  rw [of_ps, List.map_append, ← Sys.ps_L]; rfl
                refine ⟨.row (.send f) (Sys.of (l.L ++ [.bud])), v - 1, .ow (.p (Sy.row (.send f) l).p), .ow (.p (.int way)), ?_, ?_, ?_⟩
                · have q1 : (Sys.of (l.L ++ [Sy.bud])).len = 2 := by rw [of_len, List.length_append, lL, h1]; rfl
                  have q2 := of_ok (l.L ++ [Sy.bud]) (fun y hy => by
                    rcases List.mem_append.mp hy with hy | hy
                    · exact Sys.ok_L l o4 y hy
                    · rw [List.mem_singleton.mp hy]; rfl)
                  simp [Sy.ok, o1, K.fits, q1, q2]
                · have := of_dep l.dep (l.L ++ [Sy.bud]) (fun y hy => by
                    rcases List.mem_append.mp hy with hy | hy
                    · exact Sys.dep_L l y hy
                    · rw [List.mem_singleton.mp hy]
                      have hne : l.L ≠ [] := by intro e; rw [e] at lL; simp at lL; omega
                      obtain ⟨z, hz⟩ := List.exists_mem_of_ne_nil _ hne
                      have h1 := Sys.dep_L l z hz
                      have h2 := (by cases z <;> simp [Sy.dep] : 0 < z.dep)
                      simp only [Sy.dep]
                      omega)
                  simp only [Sy.dep]
                  omega
                · rw [run_def g rfl]
                  simp only [Sy.p, K.mk, e1]
                  have hl1 : (l.ps.length : Int) = 1 := by omega
                  have b2 : l.ps.length + 1 ≤ sizeLine := big_line' (by omega)
                  generalize l.ps = LP at *
                  simp [t__law_spoilt, at0, at1, at2, quiet, hv, hv1, hw, hl1, b2, e0, outOf]
              · have hne : l.L ≠ [] := by intro e; rw [e] at lL; simp at lL; omega
                have e1 : (Sys.of l.L.dropLast).ps = l.ps.dropLast := by rw [of_ps, Sys.ps_L, List.map_dropLast]
                refine ⟨.row (.send f) (Sys.of l.L.dropLast), v - 1, .ow (.p (Sy.row (.send f) l).p), .ow (.p (.int way)), ?_, ?_, ?_⟩
                · have q1 : (Sys.of l.L.dropLast).len = l.len - 1 := by rw [of_len, List.length_dropLast, lL]
                  have q2 := of_ok l.L.dropLast (fun y hy => Sys.ok_L l o4 y (by rw [List.dropLast_eq_take] at hy; exact List.mem_of_mem_take hy))
                  simp [Sy.ok, o1, K.fits, q1, q2]
                  omega
                · have := of_dep l.dep l.L.dropLast (fun y hy => Sys.dep_L l y (by rw [List.dropLast_eq_take] at hy; exact List.mem_of_mem_take hy))
                  simp only [Sy.dep]
                  omega
                · rw [run_def g rfl]
                  simp only [Sy.p, K.mk, e1]
                  have hl1 : ¬ (l.ps.length : Int) = 1 := by omega
                  have cl := cut_last l.ps (by rw [Sys.ps_L]; simpa using hne)
                  generalize l.ps = LP at *
                  simp [t__law_spoilt, at0, at1, at2, quiet, hv, hv1, hw, hl1, cl, e0, outOf]
          · refine ⟨.row (.send f) (Sys.of M), v', .ow (.p (Sy.row (.send f) l).p), .ow (.p (.int way)), whole.1, whole.2, ?_⟩
            rw [run_def g rfl]
            simp only [Sy.p, K.mk] at m4 ⊢
            generalize (Sys.of M).ps = MP at *
            generalize l.ps = LP at *
            simp [t__law_spoilt, at0, at1, at2, quiet, hv, hv1, e0, outOf, m4]
end
/-! ### a program with one fault more -/
/-! ### a suite in two parts -/
def takeS : Nat → S → S
  | k + 1, .seq a b => .seq a (takeS k b)
  | _, _ => .skip
def dropS : Nat → S → S
  | k + 1, .seq a b => dropS k b
  | _, s => s
theorem RS.then_assoc (r : RS) (f g : DL.Env → RS) : (r.then f).then g = r.then fun e => (f e).then g := by cases r <;> rfl
theorem exec_cut (C : Calls) : ∀ (k : Nat) (s : S) (env : DL.Env), exec C s env = (exec C (takeS k s) env).then (exec C (dropS k s))
  | 0, s, env => by simp [takeS, dropS]
  | k + 1, s, env => by
    cases s with
    | seq a b =>
      simp only [takeS, dropS, ex_seq]
      rw [RS.then_assoc]
      congr 1
      funext e
      exact exec_cut C k b e
    | _ => simp [takeS, dropS]
theorem atI_nth {α : Type} (l : List α) (k : Nat) (h : k < l.length) : atI l (k : Int) = some l[k] := by
  rw [atI_nat (by omega) (by omega)]
  simp [h]
theorem okEr_ps {e : Er} (h : okEr e) : 1 ≤ e.ps.length ∧ e.ps.length ≤ 4 ∧ wordB e.f = true ∧ (∀ p ∈ e.ps, wordB p = true) := by
  have := h.1
  simp only [fiveB, Bool.and_eq_true, decide_eq_true_eq, List.length_cons, List.all_cons, List.all_eq_true] at this
  exact ⟨by omega, by omega, this.2.1, this.2.2⟩
theorem okEr_mk {f : List Nat} {ps : List (List Nat)} {b : Sy} (h1 : 1 ≤ ps.length) (h2 : ps.length ≤ 4) (h3 : wordB f = true) (h4 : ∀ p ∈ ps, wordB p = true) (h5 : b.ok = true) (h6 : b.dep ≤ 5) : okEr ⟨f, ps, b⟩ := by
  refine ⟨?_, h5, h6⟩
  simp only [fiveB, Bool.and_eq_true, decide_eq_true_eq, List.length_cons, List.all_cons, List.all_eq_true]
  exact ⟨⟨by omega, by omega⟩, h3, h4⟩
theorem cut_bef {α : Type} (l : List α) (i : Nat) (h : i ≤ l.length) : cutL l none (some (i : Int)) = l.take i := by
  rw [cutL_upto _ _ (by omega) (by omega), Int.toNat_natCast]
theorem cut_aft {α : Type} (l : List α) (i : Nat) (j : Int) (hj : j = i) (h : i ≤ l.length) : cutL l (some j) none = l.drop i := by
  subst hj
  rw [cutL_from _ _ (by omega) (by omega), Int.toNat_natCast]
section
variable {Γ : Tbl} {n : Nat}
theorem wr_loop (C : Calls) (s0 s1 s2 s3 s4 s5 s6 s9 : Sl) : ∀ (l : List Er) (S : List (List Nat)) (s8 : Sl), (∀ e ∈ l, okEr e) → S.length + 4 * l.length ≤ 1000 → free s8 = true →
    ∃ s8', forL (bFor1 C 8 w__law_wrong_1) (l.map erP) [s0, s1, s2, s3, s4, s5, s6, .ow (.p (.list (strsOf S))), s8, s9] = .nx [s0, s1, s2, s3, s4, s5, s6, .ow (.p (.list (strsOf (S ++ l.flatMap Er.ps)))), s8', s9]
  | [], S, s8, _, _, _ => ⟨s8, by simp⟩
  | e :: l, S, s8, hok, hl, h8 => by
    simp only [List.length_cons] at hl
    obtain ⟨p1, p4, _, _⟩ := okEr_ps (hok e (by simp))
    obtain ⟨s8', ih⟩ := wr_loop C s0 s1 s2 s3 s4 s5 s6 s9 l (S ++ e.ps) (.ow (.p (erP e))) (fun x hx => hok x (by simp [hx])) (by simp; omega) rfl
    have b1 : (strsOf S).length + (strsOf e.ps).length ≤ sizeLine := big_line' (by simp; omega)
    have ea : strsOf (S ++ e.ps) = strsOf S ++ strsOf e.ps := by simp [strsOf]
    have st1 : bFor1 C 8 w__law_wrong_1 (erP e) [s0, s1, s2, s3, s4, s5, s6, .ow (.p (.list (strsOf S))), s8, s9] = .nx [s0, s1, s2, s3, s4, s5, s6, .ow (.p (.list (strsOf (S ++ e.ps)))), .ow (.p (erP e)), s9] := by
      rw [ea, erP_eq]
      generalize strsOf S = SS at *
      generalize strsOf e.ps = PS at *
      simp [bdR_free, h8, w__law_wrong_1, at1, b1, quiet]
    refine ⟨s8', ?_⟩
    rw [List.map_cons, forL_cons, st1, RS.then_nx, ih, List.flatMap_cons, List.append_assoc]
theorem s_zz : Str.ofString "zz" = DL.st [122, 122] := by decide +kernel
theorem wrong_gives (g1 : Γ "_law_spoilt" = some t__law_spoilt) (g2 : Γ "_law_wrong" = some t__law_wrong) (l : List Er) (h0 : l ≠ []) (h4 : l.length ≤ 4) (hok : ∀ e ∈ l, okEr e) (way v : Int) (hn : 10 ≤ n) :
    ∃ l' : List Er, l'.length = l.length ∧ (∀ e ∈ l', okEr e) ∧ Gives Γ (n + 1) "_law_wrong" [.list (l.map erP), .int way, .int v] (.list (l'.map erP)) := by
  have lp : (0 : Int) < (l.length : Int) := by have := List.length_pos_iff.mpr h0; omega
  obtain ⟨i, hi⟩ : ∃ i : Nat, v % (l.length : Int) = i := ⟨(v % (l.length : Int)).toNat, by have := Int.emod_nonneg v (b := (l.length : Int)) (by omega); omega⟩
  have hil : i < l.length := by have := Int.emod_lt_of_pos v lp; omega
  obtain ⟨j, hj⟩ : ∃ j : Nat, v / 4 % (l.length : Int) = j := ⟨(v / 4 % (l.length : Int)).toNat, by have := Int.emod_nonneg (v / 4) (b := (l.length : Int)) (by omega); omega⟩
  have hjl : j < l.length := by have := Int.emod_lt_of_pos (v / 4) lp; omega
  obtain ⟨e, he⟩ : ∃ e, l[i] = e := ⟨_, rfl⟩
  obtain ⟨o, ho⟩ : ∃ o, l[j] = o := ⟨_, rfl⟩
  have oke : okEr e := he ▸ hok _ (List.getElem_mem hil)
  have oko : okEr o := ho ▸ hok _ (List.getElem_mem hjl)
  obtain ⟨e1, e4, ef, ep⟩ := okEr_ps oke
  obtain ⟨o1, o4, of', op⟩ := okEr_ps oko
  have lM : ((l.map erP).length : Int) = (l.length : Int) := by rw [List.length_map]
  have ai : atI (l.map erP) (i : Int) = some (erP e) := by
    rw [atI_nth _ i (by rw [List.length_map]; exact hil), List.getElem_map, he]
  have aj : atI (l.map erP) (j : Int) = some (erP o) := by
    rw [atI_nth _ j (by rw [List.length_map]; exact hjl), List.getElem_map, ho]
  have lMn : 0 < (l.map erP).length := by rw [List.length_map]; omega
  -- the end: the errand is put back
  have fin : ∀ (e' : Er) (s5 s6 s7 s8 s9 : Sl), okEr e' → exec ⟨run Γ n, wfuel⟩ (dropS 6 t__law_wrong.body) [.ow (.p (.list (l.map erP))), .ow (.p (.int way)), .ow (.p (.int v)), .ow (.p (.int (i : Int))), .ow (.p (erP e')), s5, s6, s7, s8, s9] = .rt (.p (.list ((l.take i ++ e' :: l.drop (i + 1)).map erP))) [.ow (.p (.list (l.map erP))), .ow (.p (.int way)), .ow (.p (.int v)), .ow (.p (.int (i : Int))), .ow (.p (erP e')), s5, s6, s7, s8, s9] := fun e' s5 s6 s7 s8 s9 _ => by
    have c1 := cut_bef (l.map erP) i (by rw [List.length_map]; omega)
    have c2 := cut_aft (l.map erP) (i + 1) ((i : Int) + 1) (by omega) (by rw [List.length_map]; omega)
    have b1 : ((l.map erP).take i).length + 1 ≤ sizeLine := big_line' (by simp; omega)
    have b2 : ((l.map erP).take i).length + 1 + ((l.map erP).drop (i + 1)).length ≤ sizeLine := big_line' (by simp; omega)
    rw [List.map_append, List.map_cons, List.map_take, List.map_drop]
    generalize (l.map erP).take i = T1 at *
    generalize (l.map erP).drop (i + 1) = T2 at *
    generalize l.map erP = LP at *
    generalize erP e' = EE at *
    simp [dropS, t__law_wrong, c1, c2, b1, b2, quiet]
  have done : ∀ (e' : Er), okEr e' → (l.take i ++ e' :: l.drop (i + 1)).length = l.length ∧ ∀ x ∈ l.take i ++ e' :: l.drop (i + 1), okEr x := fun e' h => by
    refine ⟨by simp; omega, fun x hx => ?_⟩
    rcases List.mem_append.mp hx with hx | hx
    · exact hok x (List.mem_of_mem_take hx)
    · rcases List.mem_cons.mp hx with rfl | hx
      · exact h
      · exact hok x (List.mem_of_mem_drop hx)
  -- what stands ahead of it
  have mid : ∃ (e' : Er) (s5 s6 s7 s8 s9 : Sl), okEr e' ∧ exec ⟨run Γ n, wfuel⟩ (takeS 6 t__law_wrong.body) [.ow (.p (.list (l.map erP))), .ow (.p (.int way)), .ow (.p (.int v)), .no, .no, .no, .no, .no, .no, .no] = .nx [.ow (.p (.list (l.map erP))), .ow (.p (.int way)), .ow (.p (.int v)), .ow (.p (.int (i : Int))), .ow (.p (erP e')), s5, s6, s7, s8, s9] := by
    rw [← lM] at hi hj
    by_cases w1 : way = 1
    · refine ⟨⟨o.f, e.ps, e.b⟩, .ow (.p (erP o)), .no, .no, .no, .no, okEr_mk e1 e4 of' ep oke.2.1 oke.2.2, ?_⟩
      rw [erP_eq] at ai aj
      simp only [erP_eq]
      generalize strsOf e.ps = PE at *
      generalize strsOf o.ps = PO at *
      clear fin
      generalize l.map erP = LP at *
      simp [takeS, t__law_wrong, hi, hj, ai, aj, lMn, w1, at0, at1, at2]
    · by_cases w2 : way = 2
      · have pl : (0 : Int) < (e.ps.length : Int) := by omega
        obtain ⟨a, ha⟩ : ∃ a : Nat, v / 16 % (e.ps.length : Int) = a := ⟨(v / 16 % (e.ps.length : Int)).toNat, by have := Int.emod_nonneg (v / 16) (b := (e.ps.length : Int)) (by omega); omega⟩
        have hal : a < e.ps.length := by have := Int.emod_lt_of_pos (v / 16) pl; omega
        obtain ⟨b, hb⟩ : ∃ b : Nat, v / 64 % (e.ps.length : Int) = b := ⟨(v / 64 % (e.ps.length : Int)).toNat, by have := Int.emod_nonneg (v / 64) (b := (e.ps.length : Int)) (by omega); omega⟩
        have hbl : b < e.ps.length := by have := Int.emod_lt_of_pos (v / 64) pl; omega
        have ab : atI (strsOf e.ps) (b : Int) = some (.str (DL.st e.ps[b])) := by
          rw [atI_nth _ b (by simpa using hbl)]
          simp [strsOf]
        have ia : ixN (strsOf e.ps).length (a : Int) = some a := by
          have : (strsOf e.ps).length = e.ps.length := by simp
          rw [this]
          unfold ixN
          rw [if_pos (by omega), if_pos (by omega)]
          simp
        have es : strsOf (e.ps.set a e.ps[b]) = (strsOf e.ps).set a (.str (DL.st e.ps[b])) := by simp [strsOf, List.map_set]
        refine ⟨⟨e.f, e.ps.set a e.ps[b], e.b⟩, .ow (.p (erP o)), .ow (.ml ((strsOf e.ps).set a (.str (DL.st e.ps[b])))), .no, .no, .no, okEr_mk (by simpa using e1) (by simpa using e4) ef (fun p hp => by
          rcases List.mem_or_eq_of_mem_set hp with hp | rfl
          · exact ep p hp
          · exact ep _ (List.getElem_mem hbl)) oke.2.1 oke.2.2, ?_⟩
        have lS : ((strsOf e.ps).length : Int) = (e.ps.length : Int) := by simp
        rw [← lS] at ha hb
        have lSn : 0 < (strsOf e.ps).length := by simp; omega
        rw [erP_eq] at ai aj
        simp only [erP_eq, es]
        generalize e.ps[b] = EB at *
        generalize strsOf e.ps = PE at *
        generalize strsOf o.ps = PO at *
        clear fin
        generalize l.map erP = LP at *
        simp [takeS, t__law_wrong, hi, hj, ai, aj, lMn, w2, at0, at1, at2, ha, hb, ab, ia, lSn, quiet]
      · by_cases w3 : 2 < way
        · obtain ⟨s8', wl⟩ := wr_loop ⟨run Γ n, wfuel⟩ (.ow (.p (.list (l.map erP)))) (.ow (.p (.int way))) (.ow (.p (.int v))) (.ow (.p (.int (i : Int)))) (.ow (.p (erP e))) (.ow (.p (erP o))) .no .no l [[122, 122], o.f] .no hok (by simp; omega) rfl
          have wS : ∀ w ∈ [[122, 122], o.f] ++ l.flatMap Er.ps, wordB w = true := fun w hw => by
            rcases List.mem_append.mp hw with hw | hw
            · simp only [List.mem_cons, List.not_mem_nil, or_false] at hw
              rcases hw with rfl | rfl
              · decide
              · exact of'
            · obtain ⟨x, hx, hwx⟩ := List.mem_flatMap.mp hw
              exact (okEr_ps (hok x hx)).2.2.2 w hwx
          generalize hS : [[122, 122], o.f] ++ l.flatMap Er.ps = S at *
          have lS0 : 0 < S.length := by rw [← hS]; simp
          have lSi : (0 : Int) < (S.length : Int) := by omega
          obtain ⟨c, hc⟩ : ∃ c : Nat, v / 384 % (S.length : Int) = c := ⟨(v / 384 % (S.length : Int)).toNat, by have := Int.emod_nonneg (v / 384) (b := (S.length : Int)) (by omega); omega⟩
          have hcl : c < S.length := by have := Int.emod_lt_of_pos (v / 384) lSi; omega
          have ac : atI (strsOf S) (c : Int) = some (.str (DL.st S[c])) := by
            rw [atI_nth _ c (by simpa using hcl)]
            simp [strsOf]
          obtain ⟨y, v', q0, q2, y1, y2, hr⟩ := sp_out g1 S[c] (wS _ (List.getElem_mem hcl)) (v / 192 % 2) n e.b oke.2.1 (by have := oke.2.2; omega) (v / 16 % 12)
          have cc := fun s4 s5 s6 s7 s8 => call_vov (w := wfuel) (env := [.ow (.p (.list (l.map erP))), .ow (.p (.int way)), .ow (.p (.int v)), .ow (.p (.int (i : Int))), s4, s5, s6, s7, s8, .ow (atD (v / 16 % 12) S[c])]) (i := 9) hr rfl
          simp only [List.set_cons_succ, List.set_cons_zero] at cc
          refine ⟨⟨e.f, e.ps, y⟩, .ow (.p (erP o)), .no, .ow (.p (.list (strsOf S))), s8', .ow (atD v' S[c]), okEr_mk e1 e4 ef ep y1 (by have := oke.2.2; omega), ?_⟩
          have lSs : ((strsOf S).length : Int) = (S.length : Int) := by simp
          rw [← lSs] at hc
          have lSn : 0 < (strsOf S).length := by simp; omega
          have ez : strsOf [[122, 122], o.f] = [.str (DL.st [122, 122]), .str (DL.st o.f)] := rfl
          rw [ez] at wl
          rw [erP_eq] at ai aj
          simp only [erP_eq] at wl ⊢
          generalize S[c] = SC at *
          generalize strsOf S = SS at *
          generalize strsOf e.ps = PE at *
          generalize strsOf o.ps = PO at *
          clear fin
          have hm : (l.map fun e => PyData.tuple [.str (DL.st e.f), .tuple (strsOf e.ps), e.b.p]) = l.map erP := rfl
          simp only [atD] at cc ⊢
          rw [show (List.map erP l) = l.map erP from rfl] at *
          generalize l.map erP = LP at *
          simp [takeS, t__law_wrong, hi, hj, ai, aj, lMn, w1, w2, w3, at0, at1, at2, s_zz, wl, hc, ac, lSn, cc]
        · refine ⟨e, .ow (.p (erP o)), .no, .no, .no, .no, oke, ?_⟩
          clear fin
          generalize erP e = EE at *
          generalize erP o = OO at *
          generalize l.map erP = LP at *
          simp [takeS, t__law_wrong, hi, hj, ai, aj, lMn, w1, w2, w3]
  obtain ⟨e', s5, s6, s7, s8, s9, hok', hm⟩ := mid
  refine ⟨l.take i ++ e' :: l.drop (i + 1), (done e' hok').1, (done e' hok').2, ?_⟩
  refine gives_of (env := [.ow (.p (.list (l.map erP))), .ow (.p (.int way)), .ow (.p (.int v)), .ow (.p (.int (i : Int))), .ow (.p (erP e')), s5, s6, s7, s8, s9]) g2 rfl ?_ rfl
  have hx := exec_cut ⟨run Γ n, wfuel⟩ 6 t__law_wrong.body [.ow (.p (.list (l.map erP))), .ow (.p (.int way)), .ow (.p (.int v)), .no, .no, .no, .no, .no, .no, .no]
  rw [hm, RS.then_nx, fin e' s5 s6 s7 s8 s9 hok'] at hx
  exact hx
end
/-! ### the law -/
theorem pr_er {nm : List Str} {ct : List Nat} (N : Nms nm ct) {d : Nat} (hd : d ≤ 5) : ∀ {pr : List P}, isProg nm ct d pr → ∃ l : List Er, pr = l.map erP ∧ (∀ e ∈ l, okEr e) := fun {pr} hp => by
  have h : ∀ x ∈ pr, ∃ e : Er, x = erP e ∧ okEr e := fun x hx => by
    obtain ⟨i, hi⟩ := List.getElem?_of_mem hx
    obtain ⟨w, ps, y, rfl, h1, h2, h3, _⟩ := err_sy N (hp.2 i x hi)
    exact ⟨⟨w, ps, y⟩, rfl, h1, h2, by show y.dep ≤ 5; omega⟩
  clear hp
  induction pr with
  | nil => exact ⟨[], rfl, by simp⟩
  | cons x pr ih =>
    obtain ⟨l, e1, e2⟩ := ih fun y hy => h y (by simp [hy])
    obtain ⟨e, rfl, he⟩ := h x (by simp)
    refine ⟨e :: l, by rw [e1]; rfl, fun y hy => ?_⟩
    rcases List.mem_cons.mp hy with rfl | hy
    · exact he
    · exact e2 y hy
theorem er_okP {e : Er} (h : okEr e) : okP 20 (erP e) := by
  have h1 := h.1
  simp only [fiveB, Bool.and_eq_true] at h1
  exact (ln_okP e.f e.ps e.b h1.2 h.2.1 10 (by have := h.2.2; omega)).up (by omega)
theorem same_pr {l : List Er} (h : ∀ e ∈ l, okEr e) : opEq (.p (.list (l.map erP))) (.p (.list (l.map erP))) = some true :=
  (okP.list (d := 20) (l := l.map erP) fun x hx => by
    obtain ⟨e, he, rfl⟩ := List.mem_map.mp hx
    exact er_okP (h e he)).same (by omega)
theorem isXc_list : isXc "Twice" (.xc "Twice") = true ∧ isXc "NoSuch" (.xc "Twice") = false ∧ isXc "NoSuch" (.xc "NoSuch") = true ∧ isXc "WrongCount" (.xc "Twice") = false ∧ isXc "WrongCount" (.xc "NoSuch") = false ∧ isXc "WrongCount" (.xc "WrongCount") = true := by decide
section
variable {Γ : Tbl} {n : Nat}
theorem asked_gives (g : Γ "looked_saying" = some t_looked_saying) (g1 : Γ "parts_of" = some t_parts_of) (g2 : Γ "counts_of" = some t_counts_of) (g3 : Γ "looked" = some t_looked) (g4 : Γ "_law_asked" = some t__law_asked) (l : List Er) (hl : l.length ≤ 100) (hok : ∀ e ∈ l, okEr e) (hn : 30 ≤ n) : Gives Γ (n + 2) "_law_asked" [.list (l.map erP)] (dueP l) := by
  have lo := looked_out (n := n) g g1 g2 g3 l (by omega) (fun e he => by have := (okEr_ps (hok e he)).2.1; omega) (fun e he => by have := (hok e he).2.2; omega) hn
  have hx := isXc_list
  unfold dueP
  rcases lo with ⟨ht, f⟩ | ⟨ht, ⟨h1, g⟩ | ⟨e, r, h1, f⟩⟩
  · rw [ht, if_pos rfl]
    have f := f.c1 wfuel
    refine gives_of (env := [.ow (.p (.list (l.map erP))), .ow (.p (.str (Str.ofString "twice"))), .no]) g4 rfl ?_ rfl
    generalize l.map erP = LP at *
    simp [t__law_asked, f, hx, xRun, isB, noXc]
    simp [isXc, isB, noXc]
  · rw [ht, h1]
    have sl := sn_len h1
    rw [sl] at g
    have g := g.c1 wfuel
    refine gives_of (env := [.ow (.p (.list (l.map erP))), .ow (.p (.int ((esAll l).length : Int))), .no]) g4 rfl ?_ rfl
    generalize (esAll l).length = S at *
    generalize l.map erP = LP at *
    simp [t__law_asked, g]
  · rw [ht, h1]
    have hf : Ev.f e = true := by
      have : e ∈ flt (esAll l) := by rw [h1]; simp
      exact (List.mem_filter.mp this).2
    have f := f.c1 wfuel
    simp only [Bool.false_eq_true, if_false]
    cases e with
    | snd => cases hf
    | such =>
      refine gives_of (env := [.ow (.p (.list (l.map erP))), .ow (.p (.str (Str.ofString "such"))), .no]) g4 rfl ?_ rfl
      simp only [Ev.c] at f
      generalize l.map erP = LP at *
      simp [t__law_asked, f, hx, xRun, isB, noXc, evS]
      simp [isXc, isB, noXc]
    | cnt =>
      refine gives_of (env := [.ow (.p (.list (l.map erP))), .ow (.p (.str (Str.ofString "count"))), .no]) g4 rfl ?_ rfl
      simp only [Ev.c] at f
      generalize l.map erP = LP at *
      simp [t__law_asked, f, hx, xRun, isB, noXc, evS]
      simp [isXc, isB, noXc]
theorem turns_loop (k1 : Γ "_law_cell_at" = some t__law_cell_at) (g1 : Γ "_law_spoilt" = some t__law_spoilt) (g2 : Γ "_law_wrong" = some t__law_wrong) (hn : 10 ≤ n) (ns : List Int) (s1 : Sl) (cell : Int) (s6 s7 s8 : Sl) : ∀ (ts : List Int) (l : List Er) (s4 s5 : Sl), (∀ t ∈ ts, 0 ≤ t ∧ t < 3) → l ≠ [] → l.length ≤ 4 → (∀ e ∈ l, okEr e) → free s4 = true → free s5 = true →
    ∃ (l' : List Er) (s4' s5' : Sl), l' ≠ [] ∧ l'.length ≤ 4 ∧ (∀ e ∈ l', okEr e) ∧ forL (bFor1 ⟨run Γ (n + 1), wfuel⟩ 4 w_law_1) (ts.map PyData.int) [.ro (.rl (ns.map PyData.int)), s1, .ow (.p (.list (l.map erP))), .ow (.p (.int cell)), s4, s5, s6, s7, s8] = .nx [.ro (.rl (ns.map PyData.int)), s1, .ow (.p (.list (l'.map erP))), .ow (.p (.int cell)), s4', s5', s6, s7, s8]
  | [], l, s4, s5, _, h1, h2, h3, _, _ => ⟨l, s4, s5, h1, h2, h3, rfl⟩
  | t :: ts, l, s4, s5, ht, h1, h2, h3, h4, h5 => by
    obtain ⟨t0, t3⟩ := ht t (by simp)
    have ca := fun w r => cell_at (Γ := Γ) (n := n) k1 ns (1 + t % 2).toNat (1 + t % 2) (by omega) w r
    obtain ⟨way, hway⟩ : ∃ way, cell / (5 * (1 + 6 * t + 30 * (t / 2))) % 6 = way := ⟨_, rfl⟩
    obtain ⟨v, hv⟩ : ∃ v, K04.cell ns (1 + t % 2).toNat / (1 + 99 * (t / 2)) = v := ⟨_, rfl⟩
    obtain ⟨l1, q1, q2, q3⟩ := wrong_gives (n := n) g1 g2 l h1 h2 h3 way v hn
    have q3 := q3.c3 wfuel
    obtain ⟨l', s4', s5', a1, a2, a3, a4⟩ := turns_loop k1 g1 g2 hn ns s1 cell s6 s7 s8 ts l1 (.ow (.p (.int t))) (.ow (.p (.int way))) (fun z hz => ht z (by simp [hz])) (by intro e; rw [e] at q1; exact h1 (List.length_eq_zero_iff.mp q1.symm)) (by omega) q2 rfl rfl
    refine ⟨l', s4', s5', a1, a2, a3, ?_⟩
    have big1 : ∀ z : Int, big 5 = true ∧ big 6 = true ∧ big 30 = true ∧ big 99 = true := fun _ => by decide
    obtain ⟨bg5, bg6, bg30, bg99⟩ := big1 0
    have d1 : (0 : Int) < 5 * (1 + 6 * t + 30 * (t / 2)) ∧ 5 * (1 + 6 * t + 30 * (t / 2)) < 1073741824 := by omega
    have d2 : (0 : Int) < 1 + 99 * (t / 2) ∧ 1 + 99 * (t / 2) < 1073741824 := by omega
    have st1 : bFor1 ⟨run Γ (n + 1), wfuel⟩ 4 w_law_1 (.int t) [.ro (.rl (ns.map PyData.int)), s1, .ow (.p (.list (l.map erP))), .ow (.p (.int cell)), s4, s5, s6, s7, s8] = .nx [.ro (.rl (ns.map PyData.int)), s1, .ow (.p (.list (l1.map erP))), .ow (.p (.int cell)), .ow (.p (.int t)), .ow (.p (.int way)), s6, s7, s8] := by
      generalize l1.map erP = L1 at *
      generalize l.map erP = LP at *
      simp [bdR_free, h4, h5, w_law_1, bg5, bg6, bg30, bg99, d1.1, d1.2, d2.1, d2.2, hway, ca, hv, q3]
    rw [List.map_cons, forL_cons, st1, RS.then_nx, a4]
end
theorem law_true (ns : List Int) (hl : ns.length ≤ 63) : ∃ outs, run (tbl txt.ds) 200 "law" [.ro (.rl (ns.map PyData.int))] = .ok (.p (.bool true)) outs := by
  have k1 : tbl txt.ds "_law_cell_at" = some t__law_cell_at := by simp [tbl, txt, d_parts_of, d_counts_of, d_looked_saying, d_looked, d__law_cell_at, d__law_whole, d__law_names, d__law_next, d__law_saying, d__law_drawn, d__law_spoilt, d__law_first, d__law_due, d__law_asked, d__law_wrong, d_law]
  have k2 : tbl txt.ds "_law_next" = some t__law_next := by simp [tbl, txt, d_parts_of, d_counts_of, d_looked_saying, d_looked, d__law_cell_at, d__law_whole, d__law_names, d__law_next, d__law_saying, d__law_drawn, d__law_spoilt, d__law_first, d__law_due, d__law_asked, d__law_wrong, d_law]
  have k3 : tbl txt.ds "_law_saying" = some t__law_saying := by simp [tbl, txt, d_parts_of, d_counts_of, d_looked_saying, d_looked, d__law_cell_at, d__law_whole, d__law_names, d__law_next, d__law_saying, d__law_drawn, d__law_spoilt, d__law_first, d__law_due, d__law_asked, d__law_wrong, d_law]
  have k4 : tbl txt.ds "_law_names" = some t__law_names := by simp [tbl, txt, d_parts_of, d_counts_of, d_looked_saying, d_looked, d__law_cell_at, d__law_whole, d__law_names, d__law_next, d__law_saying, d__law_drawn, d__law_spoilt, d__law_first, d__law_due, d__law_asked, d__law_wrong, d_law]
  have k5 : tbl txt.ds "_law_drawn" = some t__law_drawn := by simp [tbl, txt, d_parts_of, d_counts_of, d_looked_saying, d_looked, d__law_cell_at, d__law_whole, d__law_names, d__law_next, d__law_saying, d__law_drawn, d__law_spoilt, d__law_first, d__law_due, d__law_asked, d__law_wrong, d_law]
  have k6 : tbl txt.ds "_law_spoilt" = some t__law_spoilt := by simp [tbl, txt, d_parts_of, d_counts_of, d_looked_saying, d_looked, d__law_cell_at, d__law_whole, d__law_names, d__law_next, d__law_saying, d__law_drawn, d__law_spoilt, d__law_first, d__law_due, d__law_asked, d__law_wrong, d_law]
  have k7 : tbl txt.ds "_law_wrong" = some t__law_wrong := by simp [tbl, txt, d_parts_of, d_counts_of, d_looked_saying, d_looked, d__law_cell_at, d__law_whole, d__law_names, d__law_next, d__law_saying, d__law_drawn, d__law_spoilt, d__law_first, d__law_due, d__law_asked, d__law_wrong, d_law]
  have k8 : tbl txt.ds "_law_first" = some t__law_first := by simp [tbl, txt, d_parts_of, d_counts_of, d_looked_saying, d_looked, d__law_cell_at, d__law_whole, d__law_names, d__law_next, d__law_saying, d__law_drawn, d__law_spoilt, d__law_first, d__law_due, d__law_asked, d__law_wrong, d_law]
  have k9 : tbl txt.ds "_law_due" = some t__law_due := by simp [tbl, txt, d_parts_of, d_counts_of, d_looked_saying, d_looked, d__law_cell_at, d__law_whole, d__law_names, d__law_next, d__law_saying, d__law_drawn, d__law_spoilt, d__law_first, d__law_due, d__law_asked, d__law_wrong, d_law]
  have k10 : tbl txt.ds "_law_asked" = some t__law_asked := by simp [tbl, txt, d_parts_of, d_counts_of, d_looked_saying, d_looked, d__law_cell_at, d__law_whole, d__law_names, d__law_next, d__law_saying, d__law_drawn, d__law_spoilt, d__law_first, d__law_due, d__law_asked, d__law_wrong, d_law]
  have k11 : tbl txt.ds "_law_whole" = some t__law_whole := by simp [tbl, txt, d_parts_of, d_counts_of, d_looked_saying, d_looked, d__law_cell_at, d__law_whole, d__law_names, d__law_next, d__law_saying, d__law_drawn, d__law_spoilt, d__law_first, d__law_due, d__law_asked, d__law_wrong, d_law]
  have r1 : tbl txt.ds "looked_saying" = some t_looked_saying := by simp [tbl, txt, d_parts_of, d_counts_of, d_looked_saying, d_looked, d__law_cell_at, d__law_whole, d__law_names, d__law_next, d__law_saying, d__law_drawn, d__law_spoilt, d__law_first, d__law_due, d__law_asked, d__law_wrong, d_law]
  have r2 : tbl txt.ds "parts_of" = some t_parts_of := by simp [tbl, txt, d_parts_of, d_counts_of, d_looked_saying, d_looked, d__law_cell_at, d__law_whole, d__law_names, d__law_next, d__law_saying, d__law_drawn, d__law_spoilt, d__law_first, d__law_due, d__law_asked, d__law_wrong, d_law]
  have r3 : tbl txt.ds "counts_of" = some t_counts_of := by simp [tbl, txt, d_parts_of, d_counts_of, d_looked_saying, d_looked, d__law_cell_at, d__law_whole, d__law_names, d__law_next, d__law_saying, d__law_drawn, d__law_spoilt, d__law_first, d__law_due, d__law_asked, d__law_wrong, d_law]
  have r4 : tbl txt.ds "looked" = some t_looked := by simp [tbl, txt, d_parts_of, d_counts_of, d_looked_saying, d_looked, d__law_cell_at, d__law_whole, d__law_names, d__law_next, d__law_saying, d__law_drawn, d__law_spoilt, d__law_first, d__law_due, d__law_asked, d__law_wrong, d_law]
  have k14 : tbl txt.ds "law" = some t_law := by simp [tbl, txt, d_parts_of, d_counts_of, d_looked_saying, d_looked, d__law_cell_at, d__law_whole, d__law_names, d__law_next, d__law_saying, d__law_drawn, d__law_spoilt, d__law_first, d__law_due, d__law_asked, d__law_wrong, d_law]
  generalize tbl txt.ds = Γ at *
  have c0 := fun w r => cell_at (Γ := Γ) (n := 198) k1 ns 0 0 rfl w r
  obtain ⟨nm, ct, pr, s', c', o2, o3, N, _, hp, hr⟩ := drawn_runB (Γ := Γ) k1 k2 k3 k4 k5 ns 3 10 4 4 191 (by omega) (by omega)
  have dc : ∀ r : DL.Env, doCall ⟨run Γ 199, wfuel⟩ "_law_drawn" [.rr 0, .br 1, .va (.p (.int 4)), .va (.p (.int 5))] (.ro (.rl (ns.map PyData.int)) :: .ow (.ml [.int 3, .int 10]) :: r) = .ok (.p (.list pr)) (.ro (.rl (ns.map PyData.int)) :: .ow (.ml [.int (s' : Int), .int (c' : Int)]) :: r) := fun r => call_rb (w := wfuel) (env := .ro (.rl (ns.map PyData.int)) :: .ow (spotD 3 10) :: r) (xs := [.int 4, .int 5]) (i := 0) (j := 1) hr rfl (by decide) rfl rfl
  obtain ⟨l, rfl, hok⟩ := pr_er N (by omega) hp
  have ll : l.length = nm.length := by have := hp.1; simpa using this
  have h4 : l.length ≤ 4 := by have := N.le; omega
  have h0 : l ≠ [] := by
    intro e
    have := N.pos
    rw [e] at ll
    simp at ll
    omega
  have v0 : 0 ≤ cell ns 0 % 5 := Int.emod_nonneg _ (by omega)
  have v5 : cell ns 0 % 5 < 5 := Int.emod_lt_of_pos _ (by omega)
  obtain ⟨q, hq3, hq⟩ : ∃ q : Nat, q ≤ 3 ∧ atI [PyData.int 0, .int 1, .int 2, .int 2, .int 3] (cell ns 0 % 5) = some (.int (q : Int)) := by
    rcases (by omega : cell ns 0 % 5 = 0 ∨ cell ns 0 % 5 = 1 ∨ cell ns 0 % 5 = 2 ∨ cell ns 0 % 5 = 3 ∨ cell ns 0 % 5 = 4) with h | h | h | h | h <;> rw [h]
    · exact ⟨0, by omega, rfl⟩
    · exact ⟨1, by omega, rfl⟩
    · exact ⟨2, by omega, rfl⟩
    · exact ⟨2, by omega, rfl⟩
    · exact ⟨3, by omega, rfl⟩
  have rq := fun env => rg1D_nat (q := q) env (by omega)
  obtain ⟨l', s4', s5', a1, a2, a3, lp⟩ := turns_loop (n := 198) k1 k6 k7 (by omega) ns (.ow (.ml [.int (s' : Int), .int (c' : Int)])) (cell ns 0) .no .no .no ((List.range q).map fun (i : Nat) => (i : Int)) l .no .no (fun t ht => by
    obtain ⟨i, hi, rfl⟩ := List.mem_map.mp ht
    rw [List.mem_range] at hi
    omega) h0 h4 hok rfl rfl
  rw [List.map_map] at lp
  have hcomp : (PyData.int ∘ fun (i : Nat) => (i : Int)) = fun (i : Nat) => PyData.int (i : Int) := rfl
  rw [hcomp] at lp
  have ga := (asked_gives (n := 197) r1 r2 r3 r4 k10 l' (by omega) a3 (by omega)).c1 wfuel
  have gd := (due_gives (n := 198) k8 k9 l' (by omega) a3 (by omega)).c1 wfuel
  have sp := same_pr a3
  have wh : ∀ i : Int, Gives Γ 199 "_law_whole" [.int i] (.bool true) := fun i => by
    refine gives_of (env := [.ow (.p (.int i))]) k11 rfl ?_ rfl
    simp [t__law_whole]
    rfl
  have ish : ∀ (x : P) env, tyKn (.p x) = true → isiD [.int] (.p x) env = .ok (.p (.bool (isTy (tyOf (.p x)) .int))) env := fun x env h => by
    unfold isiD
    rw [h]
    simp [isB]
  rw [run_def k14 rfl]
  have kinds : (∃ i : Int, dueP l' = .int i) ∨ ∃ s : Str, dueP l' = .str s := by
    unfold dueP
    split
    · exact .inr ⟨_, rfl⟩
    · split
      · rename_i e r _
        cases e <;> exact .inr ⟨_, rfl⟩
      · exact .inl ⟨_, rfl⟩
  generalize l'.map erP = L1 at *
  generalize l.map erP = LP at *
  rcases kinds with ⟨i, hi⟩ | ⟨s, hs⟩
  · rw [hi] at ga gd
    have wi := (wh i).c1 wfuel
    have iv : ∀ env, isiD [.int] (.p (.int i)) env = .ok (.p (.bool true)) env := fun env => rfl
    simp [t_law, dc, c0, hq, rq, -rg1D_i, lp, gd, ga, iv, wi, sp, outOf, quiet]
  · rw [hs] at ga gd
    have iv : ∀ env, isiD [.int] (.p (.str s)) env = .ok (.p (.bool false)) env := fun env => rfl
    simp [t_law, dc, c0, hq, rq, -rg1D_i, lp, gd, ga, iv, sp, outOf, quiet]
end K04

namespace K04
open PySem PySem.Spec PyProof.Rows L2 DL
theorem walk {l : PySem.W.OpenLaw} {q : Program} {loose : List Str} {XP : (Str → Option Value) → Heap → Prop} {YP : World → Heap → Prop} {d : DefRec} {K : Params → PySem.W.Frag} (hn : l.most = some 63) (hdf : d.params.defaults = [])
    (hY : ∀ (w : World) (h : Heap), YP w h → (K w.params).In h)
    (F : ∀ (w : World) (mg : Str → Option Value) (fa : Addr) (h : Heap), (K w.params).In h → h.Ns mainGlobals mg → mg d.name = some (.ref fa) →
      ∃ fd : FuncData, (∀ (s : Shared) (u : Value), BindsTo s fd ⟨[u], []⟩ [("script", u)]) ∧ ∀ base : Heap, (K w.params).In base → base.Ns mainGlobals mg → FnOk l.prog w (K w.params) mg base (L2.CX l.prog w) 201 fa fd ["script"] (spLaw (tbl txt.ds) 200 (K w.params))) :
    PySem.W.WalkO q loose XP YP l.row.toRowW d [] (fun f vs => PySem.call f vs) :=
  L2.walk_of (n := 63) (k := 201) (x := "script") (CX := fun w => L2.CX l.prog w) (sp := fun w => spLaw (tbl txt.ds) 200 (K w.params)) hn (by decide) hdf room_law hY F (fun _ _ a ns hl hO hS => law_sp hO hS (law_true ns hl)) fun _ _ _ _ _ z => hCX0 z
end K04

open PySem PySem.W PyProof.Rows in
set_option maxRecDepth 100000 in
set_option maxHeartbeats 0 in
theorem PySem.Challenge.cw_errandend_k04_looked_through_holds : PySem.Challenge.rw_errandend_k04_looked_through.Holds := by
  w_on; o_law; k_head; (case hw => w_witness2)
  k_fill
  refine K04.walk (l := PySem.Challenge.rw_errandend_k04_looked_through) rfl rfl (fun w h Y => PySem.W.kIn_of Y) ?F
  case F =>
    intro w mg fa h KX G hmg
    refine' K04.all_mk KX G hmg ?a1 ?l1 ?c1 ?k1 ?a2 ?l2 ?c2 ?k2 ?a3 ?l3 ?c3 ?k3 ?a4 ?l4 ?c4 ?k4 ?a5 ?l5 ?c5 ?k5 ?a6 ?l6 ?c6 ?k6 ?a7 ?l7 ?c7 ?k7 ?a8 ?l8 ?c8 ?k8 ?a9 ?l9 ?c9 ?k9 ?a10 ?l10 ?c10 ?k10 ?a11 ?l11 ?c11 ?k11 ?a12 ?l12 ?c12 ?k12 ?a13 ?l13 ?c13 ?k13 ?a14 ?l14 ?c14 ?k14 ?a15 ?l15 ?c15 ?k15 ?a16 ?l16 ?c16 ?k16 ?z_len ?z_tuple ?z_list ?z_int ?z_any ?z_all ?z_max ?z_isinstance ?z_range ?z_reversed ?z_zip ?z_enumerate ?z_bool ?z_str ?z_ValueError ?z_set ?m_ErrandError ?e_ErrandError ?p_ErrandError ?s_ErrandError ?t_ErrandError ?m_Twice ?e_Twice ?p_Twice ?s_Twice ?t_Twice ?m_NoSuch ?e_NoSuch ?p_NoSuch ?s_NoSuch ?t_NoSuch ?m_WrongCount ?e_WrongCount ?p_WrongCount ?s_WrongCount ?t_WrongCount ?xd_ErrandError ?xd_Twice ?xd_NoSuch ?xd_WrongCount ?xa_NoSuch ?xb_NoSuch ?xe_NoSuch ?xm_NoSuch ?xv_NoSuch ?xo_NoSuch_ErrandError ?xo_NoSuch_Twice ?xo_NoSuch_NoSuch ?xo_NoSuch_WrongCount ?xa_WrongCount ?xb_WrongCount ?xe_WrongCount ?xm_WrongCount ?xv_WrongCount ?xo_WrongCount_ErrandError ?xo_WrongCount_Twice ?xo_WrongCount_NoSuch ?xo_WrongCount_WrongCount ?xa_Twice ?xb_Twice ?xe_Twice ?xm_Twice ?xv_Twice ?xo_Twice_ErrandError ?xo_Twice_Twice ?xo_Twice_NoSuch ?xo_Twice_WrongCount ?xn ?xt
    (case a1 => k_is)
    (case l1 => k_is)
    (case c1 => k_is)
    (case k1 => k_is)
    (case a2 => k_is)
    (case l2 => k_is)
    (case c2 => k_is)
    (case k2 => k_is)
    (case a3 => k_is)
    (case l3 => k_is)
    (case c3 => k_is)
    (case k3 => k_is)
    (case a4 => k_is)
    (case l4 => k_is)
    (case c4 => k_is)
    (case k4 => k_is)
    (case a5 => k_is)
    (case l5 => k_is)
    (case c5 => k_is)
    (case k5 => k_is)
    (case a6 => k_is)
    (case l6 => k_is)
    (case c6 => k_is)
    (case k6 => k_is)
    (case a7 => k_is)
    (case l7 => k_is)
    (case c7 => k_is)
    (case k7 => k_is)
    (case a8 => k_is)
    (case l8 => k_is)
    (case c8 => k_is)
    (case k8 => k_is)
    (case a9 => k_is)
    (case l9 => k_is)
    (case c9 => k_is)
    (case k9 => k_is)
    (case a10 => k_is)
    (case l10 => k_is)
    (case c10 => k_is)
    (case k10 => k_is)
    (case a11 => k_is)
    (case l11 => k_is)
    (case c11 => k_is)
    (case k11 => k_is)
    (case a12 => k_is)
    (case l12 => k_is)
    (case c12 => k_is)
    (case k12 => k_is)
    (case a13 => k_is)
    (case l13 => k_is)
    (case c13 => k_is)
    (case k13 => k_is)
    (case a14 => k_is)
    (case l14 => k_is)
    (case c14 => k_is)
    (case k14 => k_is)
    (case a15 => k_is)
    (case l15 => k_is)
    (case c15 => k_is)
    (case k15 => k_is)
    (case a16 => k_is)
    (case l16 => k_is)
    (case c16 => k_is)
    (case k16 => k_is)
    (case z_len => k_is)
    (case z_tuple => k_is)
    (case z_list => k_is)
    (case z_int => k_is)
    (case z_any => k_is)
    (case z_all => k_is)
    (case z_max => k_is)
    (case z_isinstance => k_is)
    (case z_range => k_is)
    (case z_reversed => k_is)
    (case z_zip => k_is)
    (case z_enumerate => k_is)
    (case z_bool => k_is)
    (case z_str => k_is)
    (case z_ValueError => k_is)
    (case z_set => k_is)
    (case m_ErrandError => k_is)
    (case e_ErrandError => k_exc)
    (case p_ErrandError => k_is)
    (case s_ErrandError => k_is)
    (case t_ErrandError => k_is)
    (case m_Twice => k_is)
    (case e_Twice => k_exc)
    (case p_Twice => k_is)
    (case s_Twice => k_is)
    (case t_Twice => k_is)
    (case m_NoSuch => k_is)
    (case e_NoSuch => k_exc)
    (case p_NoSuch => k_is)
    (case s_NoSuch => k_is)
    (case t_NoSuch => k_is)
    (case m_WrongCount => k_is)
    (case e_WrongCount => k_exc)
    (case p_WrongCount => k_is)
    (case s_WrongCount => k_is)
    (case t_WrongCount => k_is)
    (case xd_ErrandError => k_is)
    (case xd_Twice => k_is)
    (case xd_NoSuch => k_is)
    (case xd_WrongCount => k_is)
    (case xa_NoSuch => k_is)
    (case xb_NoSuch => k_is)
    (case xe_NoSuch => k_is)
    (case xm_NoSuch => k_is)
    (case xv_NoSuch => k_is)
    (case xo_NoSuch_ErrandError => k_is)
    (case xo_NoSuch_Twice => k_is)
    (case xo_NoSuch_NoSuch => k_is)
    (case xo_NoSuch_WrongCount => k_is)
    (case xa_WrongCount => k_is)
    (case xb_WrongCount => k_is)
    (case xe_WrongCount => k_is)
    (case xm_WrongCount => k_is)
    (case xv_WrongCount => k_is)
    (case xo_WrongCount_ErrandError => k_is)
    (case xo_WrongCount_Twice => k_is)
    (case xo_WrongCount_NoSuch => k_is)
    (case xo_WrongCount_WrongCount => k_is)
    (case xa_Twice => k_is)
    (case xb_Twice => k_is)
    (case xe_Twice => k_is)
    (case xm_Twice => k_is)
    (case xv_Twice => k_is)
    (case xo_Twice_ErrandError => k_is)
    (case xo_Twice_Twice => k_is)
    (case xo_Twice_NoSuch => k_is)
    (case xo_Twice_WrongCount => k_is)
    (case xn => k_is)
    (case xt => k_is)

