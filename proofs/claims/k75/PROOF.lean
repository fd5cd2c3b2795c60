import PyProof.Rows.All
import Wide.All
import OpenK.AllK
import Wide.FinOn
import PySem.Str
import HandS.ForMost
import HandS.Zip
import HandS.TupAny
import HandS.TupMul
import HandS.Wide
import HandS.Style
import HandS.AnyAll
import HandS.IsInst
import HandS.EndTab
import HandS.GenList
import HandS.JoinGen
import PyProof.TupleOfGen
import KE.KNestM
import PySem.Challenge.RW_hingelayer_k75_whole_numbers_and_bounds
section
set_option Elab.async false
set_option linter.all false
set_option maxRecDepth 100000
set_option autoImplicit false
/-! the data layer: trees, cells, the IR and its plain denotation; no program in sight -/
namespace Calc
open PySem (Str)

inductive D where
  | non | bl (b : Bool) | int (i : Int) | str (x : Str) | tup (xs : List D) | rol (xs : List D) | loc (l : Nat)

mutual
def D.beq : D → D → Bool
  | .non, .non => true
  | .bl a, .bl b => a == b
  | .int a, .int b => a == b
  | .str a, .str b => a == b
  | .tup a, .tup b => D.beqs a b
  | .rol a, .rol b => D.beqs a b
  | .loc a, .loc b => a == b
  | _, _ => false
def D.beqs : List D → List D → Bool
  | [], [] => true
  | x :: xs, y :: ys => D.beq x y && D.beqs xs ys
  | _, _ => false
end
mutual
theorem D.beq_eq : ∀ (a b : D), D.beq a b = true ↔ a = b
  | .non, b => by cases b <;> simp [D.beq]
  | .bl a, b => by cases b <;> simp [D.beq]
  | .int a, b => by cases b <;> simp [D.beq]
  | .str a, b => by cases b <;> simp [D.beq]
  | .tup a, b => by cases b <;> simp [D.beq, D.beqs_eq a]
  | .rol a, b => by cases b <;> simp [D.beq, D.beqs_eq a]
  | .loc a, b => by cases b <;> simp [D.beq]
theorem D.beqs_eq : ∀ (a b : List D), D.beqs a b = true ↔ a = b
  | [], b => by cases b <;> simp [D.beqs]
  | x :: xs, b => by cases b <;> simp [D.beqs, D.beq_eq x, D.beqs_eq xs]
end
instance : DecidableEq D := fun a b => if h : D.beq a b = true then .isTrue ((D.beq_eq a b).mp h) else .isFalse fun e => h ((D.beq_eq a b).mpr e)

inductive Cell where
  | lst (xs : List D)
  | dic (kvs : List (D × D))
  deriving DecidableEq

abbrev Store := List Cell
abbrev Env := List (Option D)
abbrev Fn := List D → Store → Option (D × Store)

-- no cell at or behind n is named
mutual
def D.under (n : Nat) : D → Bool
  | .tup xs => D.unders n xs
  | .rol xs => D.unders n xs
  | .loc l => decide (l < n)
  | _ => true
def D.unders (n : Nat) : List D → Bool
  | [] => true
  | x :: xs => D.under n x && D.unders n xs
end
theorem unders_all (n : Nat) : ∀ xs : List D, D.unders n xs = xs.all (D.under n)
  | [] => rfl
  | x :: xs => by rw [List.all_cons, ← unders_all n xs]; rfl
def underKv (n : Nat) : List (D × D) → Bool
  | [] => true
  | p :: ps => D.under n p.1 && D.under n p.2 && underKv n ps
def Cell.under (n : Nat) : Cell → Bool
  | .lst xs => D.unders n xs
  | .dic kvs => underKv n kvs

/-- behind a call: cells that nobody names are forgotten -/
def gcOk : List Cell → List Cell → Nat → Bool
  | [], _, _ => true
  | c :: cs, c' :: cs', n => (decide (c' = c) || c'.under n) && gcOk cs cs' n
  | _ :: _, [], _ => false
def gc (st : Store) (d : D) (st' : Store) : D × Store :=
  if D.under st.length d && gcOk st st' st.length then (d, st'.take st.length) else (d, st')

def bnd {α β : Type} (m : Option (α × Store)) (f : α → Store → Option β) : Option β := match m with
  | some (a, st) => f a st
  | none => none
@[simp] theorem bnd_some {α β : Type} (a : α) (st : Store) (f : α → Store → Option β) : bnd (some (a, st)) f = f a st := rfl
@[simp] theorem bnd_none {α β : Type} (f : α → Store → Option β) : bnd (none : Option (α × Store)) f = none := rfl
theorem bnd_eq {α β : Type} {m : Option (α × Store)} {f : α → Store → Option β} {r : β} (h : bnd m f = some r) : ∃ a st, m = some (a, st) ∧ f a st = some r := by
  cases m with
  | none => cases h
  | some p => exact ⟨p.1, p.2, rfl, h⟩

/-! ### values -/
def SZ : Nat := 16777216
def mulOk (a b : Int) : Bool := decide (a.natAbs.log2 + b.natAbs.log2 < 1000000)
def divOk (b : Int) : Bool := decide (b ≠ 0) && decide (b.natAbs.log2 < 9000)

inductive Bop where
  | add | sub | mul | fdiv | mod | pow
  deriving DecidableEq
def binop : Bop → D → D → Store → Option (D × Store)
  | .add, .int a, .int b, st => some (.int (a + b), st)
  | .add, .tup a, .tup b, st => if a.length + b.length ≤ SZ then some (.tup (a ++ b), st) else none
  | .add, .loc a, .loc b, st => match st[a]?, st[b]? with
    | some (.lst xs), some (.lst ys) => if xs.length + ys.length ≤ SZ then some (.loc st.length, st ++ [.lst (xs ++ ys)]) else none
    | _, _ => none
  | .sub, .int a, .int b, st => some (.int (a - b), st)
  | .mul, .int a, .int b, st => if mulOk a b then some (.int (a * b), st) else none
  | .mul, .tup xs, .int k, st => if xs ≠ [] ∧ 2 ≤ k ∧ k ≤ 1000 ∧ xs.length ≤ 1000 then some (.tup (List.replicate k.toNat xs).flatten, st) else none
  | .mul, .loc l, .int k, st => match st[l]? with
    | some (.lst xs) => if -(2 ^ 63) ≤ k ∧ k < 2 ^ 63 ∧ xs.length * k.toNat ≤ SZ then some (.loc st.length, st ++ [.lst (List.replicate k.toNat xs).flatten]) else none
    | _ => none
  | .fdiv, .int a, .int b, st => if divOk b then some (.int (a.fdiv b), st) else none
  | .mod, .int a, .int b, st => if b = 0 then none else some (.int (a.fmod b), st)
  | .pow, .int a, .int b, st => if 0 ≤ b ∧ b ≤ 1000000 ∧ a.natAbs < 2 ^ 64 then some (.int (a ^ b.toNat), st) else none
  | _, _, _, _ => none

mutual
def eqD : D → D → Bool
  | .non, .non => true
  | .bl a, .bl b => a == b
  | .bl a, .int j => (if a then 1 else 0) == j
  | .int i, .bl b => i == (if b then 1 else 0)
  | .int i, .int j => i == j
  | .str x, .str y => x == y
  | .tup xs, .tup ys => eqDs xs ys
  | .rol xs, .rol ys => eqDs xs ys
  | _, _ => false
def eqDs : List D → List D → Bool
  | [], [] => true
  | x :: xs, y :: ys => eqD x y && eqDs xs ys
  | _, _ => false
end
mutual
def D.dep : D → Nat
  | .tup xs => D.deps xs + 1
  | .rol xs => D.deps xs + 1
  | _ => 0
def D.deps : List D → Nat
  | [] => 0
  | x :: xs => max (D.dep x) (D.deps xs)
end
mutual
def D.free : D → Bool
  | .tup xs => D.frees xs
  | .rol xs => D.frees xs
  | .loc _ => false
  | .str x => x.cps.all (· < 0x110000)
  | _ => true
def D.frees : List D → Bool
  | [] => true
  | x :: xs => D.free x && D.frees xs
end
/-- no cell is named, at most 60 deep -/
def flat (d : D) : Bool := d.free && decide (d.dep ≤ 60)
def look (st : Store) : D → D
  | .loc l => match st[l]? with
    | some (.lst xs) => .rol xs
    | _ => .loc l
  | d => d
def eqv (x y : D) (st : Store) : Option Bool := if flat (look st x) && flat (look st y) then some (eqD (look st x) (look st y)) else none

inductive Cop where
  | eq | ne | lt | le | gt | ge | isN | notN | mem | nmem
  deriving DecidableEq
def cmpop : Cop → D → D → Store → Option Bool
  | .eq, x, y, st => eqv x y st
  | .ne, x, y, st => (eqv x y st).map (!·)
  | .lt, .int a, .int b, _ => some (decide (a < b))
  | .le, .int a, .int b, _ => some (decide (a ≤ b))
  | .gt, .int a, .int b, _ => some (decide (b < a))
  | .ge, .int a, .int b, _ => some (decide (b ≤ a))
  | .isN, x, .non, _ => some (decide (x = .non))
  | .notN, x, .non, _ => some (!decide (x = .non))
  | _, _, _, _ => none
def truth : D → Store → Option Bool
  | .non, _ => some false
  | .bl b, _ => some b
  | .int i, _ => some (decide (i ≠ 0))
  | .str x, _ => if x.length ≤ SZ then some (decide (x.length ≠ 0)) else none
  | .tup xs, _ => some (!xs.isEmpty)
  | .rol xs, _ => some (!xs.isEmpty)
  | .loc l, st => match st[l]? with
    | some (.lst xs) => some (!xs.isEmpty)
    | _ => none
def ixI (n : Nat) (i : Int) : Option Nat := if 0 ≤ i then (if i < n then some i.toNat else none) else if -(n : Int) ≤ i then some (i + n).toNat else none
/-- xs[i] -/
def atI (xs : List D) (i : Int) : Option D := (ixI xs.length i).bind fun j => xs[j]?
def seqOf (st : Store) : D → Option (List D)
  | .tup xs => some xs
  | .rol xs => some xs
  | .loc l => match st[l]? with
    | some (.lst xs) => some xs
    | _ => none
  | _ => none
def index : D → D → Store → Option D
  | x, .int i, st => match seqOf st x with
    | some xs => atI xs i
    | none => none
  | _, _, _ => none
def sIx (n d : Nat) : Option Int → Nat
  | none => d
  | some v => if v < 0 then (v + n).toNat else min v.toNat n
def cutL (xs : List D) (lo hi : Option Int) : List D := (xs.drop (sIx xs.length 0 lo)).take (sIx xs.length xs.length hi - sIx xs.length 0 lo)
def slice : D → Option Int → Option Int → Store → Option (D × Store)
  | .tup xs, lo, hi, st => some (.tup (cutL xs lo hi), st)
  | .loc l, lo, hi, st => match st[l]? with
    | some (.lst xs) => some (.loc st.length, st ++ [.lst (cutL xs lo hi)])
    | _ => none
  | _, _, _, _ => none

/-! ### built-in functions by name -/
inductive Bf where
  | len | abs | int | tuple | list | isInt | isBool | isStr | isTup
  deriving DecidableEq
def bltn : Bf → List D → Store → Option (D × Store)
  | .len, [x], st => match seqOf st x with
    | some xs => some (.int xs.length, st)
    | none => none
  | .abs, [.int i], st => some (.int (if i < 0 then -i else i), st)
  | .int, [.int i], st => some (.int i, st)
  | .tuple, [.tup xs], st => some (.tup xs, st)
  | .tuple, [x], st => match seqOf st x with
    | some xs => some (.tup xs, st)
    | none => none
  | .list, [x], st => match seqOf st x with
    | some xs => some (.loc st.length, st ++ [.lst xs])
    | none => none
  | .isInt, [x], st => match x with
    | .int _ => some (.bl true, st)
    | .bl _ => some (.bl true, st)
    | .loc _ => none
    | .rol _ => none
    | _ => some (.bl false, st)
  | .isBool, [x], st => match x with
    | .bl _ => some (.bl true, st)
    | .loc _ => none
    | .rol _ => none
    | _ => some (.bl false, st)
  | .isStr, [x], st => match x with
    | .str _ => some (.bl true, st)
    | .loc _ => none
    | .rol _ => none
    | _ => some (.bl false, st)
  | .isTup, [x], st => match x with
    | .tup _ => some (.bl true, st)
    | .loc _ => none
    | .rol _ => none
    | _ => some (.bl false, st)
  | _, _, _ => none

/-! ### methods of lists -/
inductive Mf where
  | append | pop | popAt | reverse
  deriving DecidableEq
def meth : Mf → D → List D → Store → Option (D × Store)
  | .append, .loc l, [x], st => match st[l]? with
    | some (.lst xs) => if xs.length < SZ then some (.non, st.set l (.lst (xs ++ [x]))) else none
    | _ => none
  | .pop, .loc l, [], st => match st[l]? with
    | some (.lst xs) => match xs[xs.length - 1]? with
      | some y => some (y, st.set l (.lst xs.dropLast))
      | none => none
    | _ => none
  | .popAt, .loc l, [.int i], st => match st[l]? with
    | some (.lst xs) => match ixI xs.length i with
      | some k => match xs[k]? with
        | some y => some (y, st.set l (.lst (xs.eraseIdx k)))
        | none => none
      | none => none
    | _ => none
  | .reverse, .loc l, [], st => match st[l]? with
    | some (.lst xs) => some (.non, st.set l (.lst xs.reverse))
    | _ => none
  | _, _, _, _ => none
def setIx : D → D → D → Store → Option Store
  | .loc l, .int i, v, st => match st[l]? with
    | some (.lst xs) => match ixI xs.length i with
      | some j => some (st.set l (.lst (xs.set j v)))
      | none => none
    | _ => none
  | _, _, _, _ => none

/-! ### targets -/
inductive T where
  | nm (i : Nat)
  | tup (ts : List T)
mutual
def asg : T → D → Env → Option Env
  | .nm i, d, env => if i < env.length then some (env.set i (some d)) else none
  | .tup ts, d, env => match d with
    | .tup xs => asgs ts xs env
    | _ => none
def asgs : List T → List D → Env → Option Env
  | [], [], env => some env
  | t :: ts, x :: xs, env => match asg t x env with
    | some env' => asgs ts xs env'
    | none => none
  | _, _, _ => none
end
def wipe (env : Env) : List Nat → Env
  | [] => env
  | v :: vs => (wipe env vs).set v none

/-! ### what a loop walks: the items; the lists that have to stand still -/
structure Walk where
  items : List D
  still : List (Nat × List D)
def Walk.ok (w : Walk) (st : Store) : Bool := w.still.all fun p => decide (st[p.1]? = some (.lst p.2))
def walkOf (st : Store) : D → Option Walk
  | .tup xs => some ⟨xs, []⟩
  | .rol xs => some ⟨xs, []⟩
  | .loc l => match st[l]? with
    | some (.lst xs) => some ⟨xs, [(l, xs)]⟩
    | _ => none
  | _ => none
def rngOf : List D → Option Walk
  | [.int j] => if -(2 ^ 62) ≤ j ∧ j < 2 ^ 62 then some ⟨(List.range j.toNat).map fun (i : Nat) => D.int (0 + (i : Int)), []⟩ else none
  | [.int i, .int j] => if (-(2 ^ 62) ≤ i ∧ i < 2 ^ 62) ∧ (-(2 ^ 62) ≤ j ∧ j < 2 ^ 62) then some ⟨(List.range (j - i).toNat).map fun (k : Nat) => D.int (i + (k : Int)), []⟩ else none
  | _ => none
def enumFrom (n : Nat) : List D → List D
  | [] => []
  | x :: xs => .tup [.int n, x] :: enumFrom (n + 1) xs
def zipD : List D → List D → List D
  | x :: xs, y :: ys => .tup [x, y] :: zipD xs ys
  | _, _ => []

inductive Flow where
  | next | brk | cnt
  | ret (d : D)

inductive Gk where
  | tuple | all | any | sum
  deriving DecidableEq

/-! ### loops -/
abbrev R := Option (Flow × Env × Store)
def iterW (f : Env → Store → R) : Nat → Env → Store → R
  | 0, _, _ => none
  | n + 1, env, st => match f env st with
    | some (.next, env', st') => iterW f n env' st'
    | some (.cnt, env', st') => iterW f n env' st'
    | some (.brk, env', st') => some (.next, env', st')
    | some (.ret d, env', st') => some (.ret d, env', st')
    | none => none
open Classical in
noncomputable def whileW (f : Env → Store → R) (env : Env) (st : Store) : R := if h : ∃ n, (iterW f n env st).isSome then iterW f (Classical.choose h) env st else none
theorem iterW_mono {f : Env → Store → R} : ∀ {n : Nat} {env : Env} {st : Store} {r : Flow × Env × Store}, iterW f n env st = some r → ∀ m, iterW f (n + m) env st = some r
  | 0, _, _, _, h, _ => by cases h
  | n + 1, env, st, r, h, m => by
    rw [Nat.add_right_comm]
    unfold iterW at h ⊢
    cases e : f env st with
    | none => rw [e] at h; cases h
    | some p =>
      obtain ⟨fl, env', st'⟩ := p
      rw [e] at h
      cases fl with
      | next => exact iterW_mono (n := n) h m
      | cnt => exact iterW_mono (n := n) h m
      | brk => exact h
      | ret d => exact h
theorem whileW_iff {f : Env → Store → R} {env : Env} {st : Store} {r : Flow × Env × Store} : whileW f env st = some r ↔ ∃ n, iterW f n env st = some r := by
  unfold whileW
  constructor
  · intro h
    split at h
    · exact ⟨_, h⟩
    · cases h
  · rintro ⟨n, h⟩
    have ex : ∃ n, (iterW f n env st).isSome := ⟨n, by rw [h]; rfl⟩
    rw [dif_pos ex]
    obtain ⟨r', hr⟩ := Option.isSome_iff_exists.mp (Classical.choose_spec ex)
    have h1 := iterW_mono h (Classical.choose ex)
    have h2 := iterW_mono hr n
    rw [Nat.add_comm, h1] at h2
    rw [hr, h2]
theorem whileW_eq (f : Env → Store → R) (env : Env) (st : Store) : whileW f env st = match f env st with
    | some (.next, env', st') => whileW f env' st'
    | some (.cnt, env', st') => whileW f env' st'
    | some (.brk, env', st') => some (.next, env', st')
    | some (.ret d, env', st') => some (.ret d, env', st')
    | none => none := by
  have key : ∀ r, whileW f env st = some r ↔ (match f env st with
    | some (.next, env', st') => whileW f env' st'
    | some (.cnt, env', st') => whileW f env' st'
    | some (.brk, env', st') => some (.next, env', st')
    | some (.ret d, env', st') => some (.ret d, env', st')
    | none => none) = some r := fun r => by
    rw [whileW_iff]
    constructor
    · rintro ⟨n, h⟩
      cases n with
      | zero => cases h
      | succ n =>
        unfold iterW at h
        cases e : f env st with
        | none => rw [e] at h; cases h
        | some p =>
          obtain ⟨fl, env', st'⟩ := p
          rw [e] at h
          cases fl with
          | next => exact whileW_iff.mpr ⟨n, h⟩
          | cnt => exact whileW_iff.mpr ⟨n, h⟩
          | brk => exact h
          | ret d => exact h
    · intro h
      split at h <;> rename_i e
      · obtain ⟨n, h⟩ := whileW_iff.mp h
        exact ⟨n + 1, by unfold iterW; rw [e]; exact h⟩
      · obtain ⟨n, h⟩ := whileW_iff.mp h
        exact ⟨n + 1, by unfold iterW; rw [e]; exact h⟩
      · exact ⟨1, by unfold iterW; rw [e]; exact h⟩
      · exact ⟨1, by unfold iterW; rw [e]; exact h⟩
      · cases h
  cases h : whileW f env st with
  | some r => exact ((key r).mp h).symm
  | none =>
    generalize e : (match f env st with
    | some (.next, env', st') => whileW f env' st'
    | some (.cnt, env', st') => whileW f env' st'
    | some (.brk, env', st') => some (.next, env', st')
    | some (.ret d, env', st') => some (.ret d, env', st')
    | none => none) = z at key
    cases z with
    | none => rfl
    | some r => rw [(key r).mpr rfl] at h; cases h

/-- for: the items one behind the other -/
def forW (ok : Store → Bool) (t : T) (body : Env → Store → R) : List D → Env → Store → R
  | [], env, st => if ok st then some (.next, env, st) else none
  | x :: xs, env, st => if ok st then (match asg t x env with
    | some env1 => (match body env1 st with
      | some (.next, env', st') => forW ok t body xs env' st'
      | some (.cnt, env', st') => forW ok t body xs env' st'
      | some (.brk, env', st') => some (.next, env', st')
      | some (.ret d, env', st') => some (.ret d, env', st')
      | none => none)
    | none => none) else none
/-- [elt for t in items if test]: env is the one ahead, its own names forgotten -/
def compW (ok : Store → Bool) (t : T) (env : Env) (test : Env → Store → Option (Bool × Store)) (elt : Env → Store → Option (D × Store)) : List D → List D → Store → Option (List D × Store)
  | [], acc, st => if ok st then some (acc, st) else none
  | x :: xs, acc, st => if ok st then (match asg t x env with
    | some env1 => bnd (test env1 st) fun b st1 => if b = true then bnd (elt env1 st1) fun y st2 => (if acc.length < SZ then compW ok t env test elt xs (acc ++ [y]) st2 else none) else compW ok t env test elt xs acc st1
    | none => none) else none
/-- all, any of a generator expression: w ends the walk -/
def quantW (w : Bool) (ok : Store → Bool) (t : T) (env : Env) (test : Env → Store → Option (Bool × Store)) (elt : Env → Store → Option (D × Store)) : List D → Store → Option (Bool × Store)
  | [], st => if ok st then some (!w, st) else none
  | x :: xs, st => if ok st then (match asg t x env with
    | some env1 => bnd (test env1 st) fun b st1 => if b = true then bnd (elt env1 st1) fun y st2 => (match y with
        | .bl c => if c = w then some (w, st2) else quantW w ok t env test elt xs st2
        | _ => none) else quantW w ok t env test elt xs st1
    | none => none) else none
end Calc
end
section
set_option Elab.async false
set_option linter.all false
set_option maxRecDepth 100000
set_option autoImplicit false
/-! the IR and what it denotes -/
namespace Calc
open PySem (Str)

mutual
inductive E where
  | lit (d : D)
  | var (i : Nat)
  | glb (x : Str) (d : D)
  | tup (es : Es)
  | lst (es : Es)
  | bin (op : Bop) (a b : E)
  | neg (a : E)
  | cmp (op : Cop) (a b : E)
  | chain (o1 o2 : Cop) (a b c : E)
  | not (a : E)
  | and (a b : E)
  | or (a b : E)
  | ite (c a b : E)
  | idx (a i : E)
  | slc (a : E) (lo hi : Oe)
  | call (x : Str) (F : Fn) (es : Es)
  | callK (x : Str) (F : Fn) (ks : List Str) (perm : List Nat) (es : Es) (kes : Es)
  | bl (f : Bf) (es : Es)
  | isi (f : Bf) (e : E)
  | meth (m : Mf) (o : E) (es : Es)
  | lc (elt : E) (t : T) (s : Src) (test : Oe) (own : List Nat)
  | gen (k : Gk) (elt : E) (t : T) (s : Src) (test : Oe) (own : List Nat)
inductive Es where
  | nil
  | cons (e : E) (es : Es)
inductive Oe where
  | none
  | some (e : E)
inductive Src where
  | seq (e : E)
  | rng (es : Es)
  | enm (e : E)
  | zip (a b : E)
end

mutual
inductive S where
  | ex (e : E)
  | set (i : Nat) (e : E)
  | par (i j : Nat) (a b : E)
  | unp (t : T) (e : E)
  | sub (o i e : E)
  | aug (i : Nat) (op : Bop) (e : E)
  | ret (e : E)
  | ret0
  | brk
  | cnt
  | pass
  | ite (c : E) (a b : Ss)
  | whl (c : E) (b : Ss)
  | for_ (t : T) (s : Src) (b : Ss)
  | never
inductive Ss where
  | nil
  | cons (s : S) (ss : Ss)
end

/-- a value that has to be a bool -/
def asB (m : Option (D × Store)) : Option (Bool × Store) := bnd m fun x st => match x with
  | .bl b => some (b, st)
  | _ => none
def asTr (m : Option (D × Store)) : Option (Bool × Store) := bnd m fun x st => match truth x st with
  | some b => some (b, st)
  | none => none
def toBl (m : Option (Bool × Store)) : Option (D × Store) := bnd m fun b st => some (.bl b, st)
def permut {α : Type} (perm : List Nat) (xs : List α) : List α := perm.filterMap fun i => xs[i]?
def sumD (xs : List D) (st : Store) : Option (D × Store) := go xs 0
where go : List D → Int → Option (D × Store)
  | [], a => some (.int a, st)
  | .int i :: r, a => go r (a + i)
  | _, _ => none

def isT : D → Bool
  | .tup _ => true
  | _ => false
mutual
def denE : E → Env → Store → Option (D × Store)
  | .lit d, _, st => some (d, st)
  | .var i, env, st => match env[i]? with
    | some (some d) => some (d, st)
    | _ => none
  | .glb _ d, _, st => some (d, st)
  | .tup es, env, st => bnd (denEs es env st) fun xs st1 => if xs.length ≤ SZ then some (.tup xs, st1) else none
  | .lst es, env, st => bnd (denEs es env st) fun xs st1 => if xs.length ≤ SZ then some (.loc st1.length, st1 ++ [.lst xs]) else none
  | .bin op a b, env, st => bnd (denE a env st) fun x st1 => bnd (denE b env st1) fun y st2 => binop op x y st2
  | .neg a, env, st => bnd (denE a env st) fun x st1 => match x with
    | .int i => some (.int (-i), st1)
    | _ => none
  | .cmp op a b, env, st => bnd (denE a env st) fun x st1 => bnd (denE b env st1) fun y st2 => match cmpop op x y st2 with
    | some c => some (.bl c, st2)
    | none => none
  | .chain o1 o2 a b c, env, st => bnd (denE a env st) fun x st1 => bnd (denE b env st1) fun y st2 => match cmpop o1 x y st2 with
    | some true => bnd (denE c env st2) fun z st3 => (match cmpop o2 y z st3 with
      | some k => some (.bl k, st3)
      | none => none)
    | some false => some (.bl false, st2)
    | none => none
  | .not a, env, st => bnd (denE a env st) fun x st1 => match x with
    | .bl b => some (.bl (!b), st1)
    | _ => none
  | .and a b, env, st => bnd (denE a env st) fun x st1 => match x with
    | .bl true => denE b env st1
    | .bl false => some (.bl false, st1)
    | _ => none
  | .or a b, env, st => bnd (denE a env st) fun x st1 => match x with
    | .bl true => some (.bl true, st1)
    | .bl false => denE b env st1
    | _ => none
  | .ite c a b, env, st => bnd (denT c env st) fun k st1 => if k = true then denE a env st1 else denE b env st1
  | .idx a i, env, st => bnd (denE a env st) fun x st1 => bnd (denE i env st1) fun y st2 => match index x y st2 with
    | some d => some (d, st2)
    | none => none
  | .slc a lo hi, env, st => bnd (denE a env st) fun x st1 => bnd (denO lo env st1) fun l st2 => bnd (denO hi env st2) fun h st3 => slice x l h st3
  | .call _ F es, env, st => bnd (denEs es env st) fun xs st1 => F xs st1
  | .callK _ F _ perm es kes, env, st => bnd (denEs es env st) fun xs st1 => bnd (denEs kes env st1) fun ys st2 => F (permut perm (xs ++ ys)) st2
  | .bl f es, env, st => bnd (denEs es env st) fun xs st1 => bltn f xs st1
  | .isi f a, env, st => bnd (denE a env st) fun x st1 => bltn f [x] st1
  | .meth m o es, env, st => bnd (denE o env st) fun x st1 => bnd (denEs es env st1) fun xs st2 => meth m x xs st2
  | .lc elt t s test own, env, st => bnd (denSrc s env st) fun w st1 =>
      bnd (compW w.ok t (wipe env own) (fun env1 st2 => denTs test env1 st2) (fun env1 st2 => denE elt env1 st2) w.items [] st1) fun xs st3 => some (.loc st3.length, st3 ++ [.lst xs])
  | .gen k elt t s test own, env, st => bnd (denSrc s env st) fun w st1 => match k with
    | .tuple => bnd (compW w.ok t (wipe env own) (fun env1 st2 => denTs test env1 st2) (fun env1 st2 => denE elt env1 st2) w.items [] st1) fun xs st3 => some (.tup xs, st3)
    | .sum => bnd (compW w.ok t (wipe env own) (fun env1 st2 => denTs test env1 st2) (fun env1 st2 => denE elt env1 st2) w.items [] st1) fun xs st3 => sumD xs st3
    | .all => toBl (quantW false w.ok t (wipe env own) (fun env1 st2 => denTs test env1 st2) (fun env1 st2 => denE elt env1 st2) w.items st1)
    | .any => toBl (quantW true w.ok t (wipe env own) (fun env1 st2 => denTs test env1 st2) (fun env1 st2 => denE elt env1 st2) w.items st1)
def denT : E → Env → Store → Option (Bool × Store)
  | .not a, env, st => bnd (denT a env st) fun b st1 => some (!b, st1)
  | .and a b, env, st => bnd (denT a env st) fun c st1 => if c = true then denT b env st1 else some (false, st1)
  | .or a b, env, st => bnd (denT a env st) fun c st1 => if c = true then some (true, st1) else denT b env st1
  | .cmp op a b, env, st => bnd (denE a env st) fun x st1 => bnd (denE b env st1) fun y st2 => match cmpop op x y st2 with
    | some c => some (c, st2)
    | none => none
  | .chain o1 o2 a b c, env, st => bnd (denE a env st) fun x st1 => bnd (denE b env st1) fun y st2 => match cmpop o1 x y st2 with
    | some true => bnd (denE c env st2) fun z st3 => (match cmpop o2 y z st3 with
      | some k => some (k, st3)
      | none => none)
    | some false => some (false, st2)
    | none => none
  | .lit d, env, st => asTr (some (d, st))
  | .var i, env, st => asTr (match env[i]? with
    | some (some d) => some (d, st)
    | _ => none)
  | .idx a i, env, st => asTr (bnd (denE a env st) fun x st1 => bnd (denE i env st1) fun y st2 => match index x y st2 with
    | some d => some (d, st2)
    | none => none)
  | .call _ F es, env, st => asTr (bnd (denEs es env st) fun xs st1 => F xs st1)
  | .callK _ F _ perm es kes, env, st => asTr (bnd (denEs es env st) fun xs st1 => bnd (denEs kes env st1) fun ys st2 => F (permut perm (xs ++ ys)) st2)
  | .bl f es, env, st => asTr (bnd (denEs es env st) fun xs st1 => bltn f xs st1)
  | .isi f a, env, st => asTr (bnd (denE a env st) fun x st1 => bltn f [x] st1)
  | .bin op a b, env, st => asTr (bnd (denE a env st) fun x st1 => bnd (denE b env st1) fun y st2 => binop op x y st2)
  | .gen k elt t s test own, env, st => bnd (denSrc s env st) fun w st1 => match k with
    | .all => quantW false w.ok t (wipe env own) (fun env1 st2 => denTs test env1 st2) (fun env1 st2 => denE elt env1 st2) w.items st1
    | .any => quantW true w.ok t (wipe env own) (fun env1 st2 => denTs test env1 st2) (fun env1 st2 => denE elt env1 st2) w.items st1
    | _ => none
  | _, _, _ => none
def denEs : Es → Env → Store → Option (List D × Store)
  | .nil, _, st => some ([], st)
  | .cons e es, env, st => bnd (denE e env st) fun x st1 => bnd (denEs es env st1) fun xs st2 => some (x :: xs, st2)
def denO : Oe → Env → Store → Option (Option Int × Store)
  | .none, _, st => some (none, st)
  | .some e, env, st => bnd (denE e env st) fun x st1 => match x with
    | .int i => some (some i, st1)
    | _ => none
def denTs : Oe → Env → Store → Option (Bool × Store)
  | .none, _, st => some (true, st)
  | .some e, env, st => denT e env st
def denSrc : Src → Env → Store → Option (Walk × Store)
  | .seq e, env, st => bnd (denE e env st) fun x st1 => match walkOf st1 x with
    | some w => some (w, st1)
    | none => none
  | .rng es, env, st => bnd (denEs es env st) fun xs st1 => match rngOf xs with
    | some w => some (w, st1)
    | none => none
  | .enm e, env, st => bnd (denE e env st) fun x st1 => if isT x = true then none else match walkOf st1 x with
    | some w => some (⟨enumFrom 0 w.items, w.still⟩, st1)
    | none => none
  | .zip a b, env, st => bnd (denE a env st) fun x st1 => bnd (denE b env st1) fun y st2 => if isT x ≠ isT y then none else match walkOf st2 x, walkOf st2 y with
    | some w, some u => some (⟨zipD w.items u.items, w.still ++ u.still⟩, st2)
    | _, _ => none
end

mutual
noncomputable def denS : S → Env → Store → R
  | .ex e, env, st => bnd (denE e env st) fun _ st1 => some (.next, env, st1)
  | .set i e, env, st => bnd (denE e env st) fun x st1 => if i < env.length then some (.next, env.set i (some x), st1) else none
  | .par i j a b, env, st => bnd (denE a env st) fun x st1 => bnd (denE b env st1) fun y st2 =>
      if i < env.length ∧ j < env.length then some (.next, (env.set i (some x)).set j (some y), st2) else none
  | .unp t e, env, st => bnd (denE e env st) fun x st1 => match asg t x env with
    | some env' => some (.next, env', st1)
    | none => none
  | .sub o i e, env, st => bnd (denE e env st) fun v st1 => bnd (denE o env st1) fun x st2 => bnd (denE i env st2) fun k st3 => match setIx x k v st3 with
    | some st4 => some (.next, env, st4)
    | none => none
  | .aug i op e, env, st => match env[i]? with
    | some (some x) => bnd (denE e env st) fun y st1 => bnd (match x, y with
        | .int _, .int _ => binop op x y st1
        | _, _ => none) fun z st2 => some (.next, env.set i (some z), st2)
    | _ => none
  | .ret e, env, st => bnd (denE e env st) fun x st1 => some (.ret x, env, st1)
  | .ret0, env, st => some (.ret .non, env, st)
  | .brk, env, st => some (.brk, env, st)
  | .cnt, env, st => some (.cnt, env, st)
  | .pass, env, st => some (.next, env, st)
  | .ite c a b, env, st => bnd (denT c env st) fun k st1 => if k = true then denSs a env st1 else denSs b env st1
  | .whl c b, env, st => whileW (fun env st => bnd (denT c env st) fun k st1 => if k = true then denSs b env st1 else some (.brk, env, st1)) env st
  | .for_ t s b, env, st => bnd (denSrc s env st) fun w st1 => forW w.ok t (fun env st => denSs b env st) w.items env st1
  | .never, _, _ => none
noncomputable def denSs : Ss → Env → Store → R
  | .nil, env, st => some (.next, env, st)
  | .cons s ss, env, st => match denS s env st with
    | some (.next, env', st') => denSs ss env' st'
    | r => r
end

structure Def where
  np : Nat
  ns : Nat
  body : Ss
def endOf (st : Store) : R → Option (D × Store)
  | some (.ret d, _, st') => some (gc st d st')
  | some (.next, _, st') => some (gc st .non st')
  | _ => none
noncomputable def denDef (d : Def) : Fn := fun args st =>
  if args.length = d.np then endOf st (denSs d.body (args.map some ++ List.replicate (d.ns - d.np) none) st) else none
end Calc
end
section
set_option Elab.async false
set_option linter.all false
set_option maxRecDepth 100000
set_option autoImplicit false
set_option exponentiation.threshold 20000
/-! plain mathematics for the texts: what functions leave behind, fractions, divisors -/
namespace Calc

/-! ### behind a call -/
theorem gcOk_app (n : Nat) : ∀ (st ex : Store), gcOk st (st ++ ex) n = true
  | [], ex => by cases ex <;> rfl
  | c :: cs, ex => by
    show ((decide (c = c) || c.under n) && gcOk cs (cs ++ ex) n) = true
    rw [gcOk_app n cs ex]; simp
theorem gc_app {st ex : Store} {d : D} (h : D.under st.length d = true) : gc st d (st ++ ex) = (d, st) := by
  unfold gc
  rw [h, gcOk_app]
  simp
theorem gc_same (st : Store) (d : D) : gc st d st = (d, st) := by
  unfold gc
  split
  · simp
  · rfl
theorem gcOk_of {n : Nat} : ∀ {st st' : Store}, st.length ≤ st'.length → (∀ i c', i < st.length → st'[i]? = some c' → st[i]? = some c' ∨ c'.under n = true) → gcOk st st' n = true
  | [], st', _, _ => by cases st' <;> rfl
  | c :: cs, [], h, _ => by simp at h
  | c :: cs, c' :: cs', h, k => by
    have ih := gcOk_of (n := n) (st := cs) (st' := cs') (by simpa using h) fun i x hi e => by
      have := k (i + 1) x (by simpa using hi) (by simpa using e)
      simpa using this
    have h0 := k 0 c' (by simp) rfl
    show ((decide (c' = c) || c'.under n) && gcOk cs cs' n) = true
    rw [ih, Bool.and_true]
    rcases h0 with h0 | h0
    · have : c = c' := by simpa using h0
      simp [this]
    · simp [h0]
theorem gc_mut {st st' : Store} {d : D} (h : D.under st.length d = true) (hl : st.length ≤ st'.length) (k : ∀ i c', i < st.length → st'[i]? = some c' → st[i]? = some c' ∨ c'.under st.length = true) : gc st d st' = (d, st'.take st.length) := by
  unfold gc
  rw [h, gcOk_of hl k]
  rfl

/-! ### fractions -/
def fr (q : Rat) : D := .tup [.int q.num, .int q.den]
theorem under_fr (n : Nat) (q : Rat) : D.under n (fr q) = true := rfl
theorem fr_inj {p q : Rat} (h : fr p = fr q) : p = q := by
  unfold fr at h
  injection h with h
  simp only [List.cons.injEq, D.int.injEq, and_true] at h
  exact Rat.ext h.1 (by omega)
/-- so many bits -/
def Sm (k : Nat) (a : Int) : Prop := a.natAbs < 2 ^ k
theorem Sm.log {k : Nat} {a : Int} (h : Sm k a) : a.natAbs.log2 ≤ k := by
  by_cases h0 : a.natAbs = 0
  · rw [h0]; simp
  · exact Nat.le_of_lt ((Nat.log2_lt h0).mpr h)
theorem Sm.up {k m : Nat} {a : Int} (h : Sm k a) (hm : k ≤ m) : Sm m a := Nat.lt_of_lt_of_le h (Nat.pow_le_pow_right (by decide) hm)
theorem Sm.mul {k m : Nat} {a b : Int} (ha : Sm k a) (hb : Sm m b) : Sm (k + m) (a * b) := by
  unfold Sm at *
  rw [Int.natAbs_mul, Nat.pow_add]
  rcases Nat.eq_zero_or_pos a.natAbs with h | h
  · rw [h, Nat.zero_mul]; exact Nat.mul_pos (Nat.two_pow_pos _) (Nat.two_pow_pos _)
  · exact Nat.mul_lt_mul'' ha hb
theorem Sm.add {k m : Nat} {a b : Int} (ha : Sm k a) (hb : Sm m b) : Sm (k + m + 1) (a + b) := by
  unfold Sm at *
  have h1 : 2 ^ k ≤ 2 ^ (k + m) := Nat.pow_le_pow_right (by decide) (by omega)
  have h2 : 2 ^ m ≤ 2 ^ (k + m) := Nat.pow_le_pow_right (by decide) (by omega)
  have h3 : 2 ^ (k + m + 1) = 2 ^ (k + m) * 2 := Nat.pow_succ ..
  omega
theorem mulOk_of {k m : Nat} {a b : Int} (ha : Sm k a) (hb : Sm m b) (h : k + m < 1000000) : mulOk a b = true := by
  unfold mulOk
  have := ha.log
  have := hb.log
  exact decide_eq_true (by omega)
theorem divOk_of {k : Nat} {b : Int} (hb : Sm k b) (h : k < 9000) (h0 : b ≠ 0) : divOk b = true := by
  unfold divOk
  have := hb.log
  rw [decide_eq_true h0, decide_eq_true (show b.natAbs.log2 < 9000 by omega)]; rfl
structure Bd (q : Rat) : Prop where
  num : Sm 2000 q.num
  den : Sm 2000 (q.den : Int)
theorem den_pos' (q : Rat) : (0 : Int) < (q.den : Int) := by have := q.den_pos; omega
theorem fr_div {a b : Int} (hb : 0 < b) : fr (Rat.divInt a b) = .tup [.int (a.fdiv (Int.gcd a b)), .int (b.fdiv (Int.gcd a b))] := by
  unfold fr
  rw [Rat.num_divInt, Rat.den_divInt, if_neg (by omega), Int.sign_eq_one_of_pos hb, Int.one_mul, Int.gcd_comm b a]
  have hg : (0 : Int) ≤ (Int.gcd a b : Int) := Int.natCast_nonneg _
  rw [Int.fdiv_eq_ediv_of_nonneg _ hg, Int.fdiv_eq_ediv_of_nonneg _ hg]
  have e : ((b.natAbs / a.gcd b : Nat) : Int) = b / (a.gcd b : Int) := by
    rw [Int.natCast_ediv, Int.natAbs_of_nonneg (by omega)]
  rw [e]
theorem add_div (p q : Rat) : Rat.divInt (p.num * q.den + q.num * p.den) (p.den * q.den) = p + q := by
  have h := Rat.divInt_add_divInt p.num q.num (d₁ := p.den) (d₂ := q.den) (by have := p.den_pos; omega) (by have := q.den_pos; omega)
  rw [Rat.num_divInt_den, Rat.num_divInt_den] at h
  exact h.symm
theorem mul_div (p q : Rat) : Rat.divInt (p.num * q.num) (p.den * q.den) = p * q := by
  have h := Rat.divInt_mul_divInt p.num q.num (d₁ := p.den) (d₂ := q.den)
  rw [Rat.num_divInt_den, Rat.num_divInt_den] at h
  exact h.symm
/-- Euclid's steps, so many at most -/
theorem euclid_step {a b : Nat} (hb : 0 < b) (hab : b ≤ a) {k : Nat} (h : a * b < 2 ^ (k + 1)) : b * (a % b) < 2 ^ k := by
  have h1 : 2 * (a % b) ≤ a := by
    have hm := Nat.mod_lt a hb
    have hd := Nat.div_add_mod a b
    have hq : 1 ≤ a / b := Nat.div_pos hab hb
    have : b * 1 ≤ b * (a / b) := Nat.mul_le_mul_left _ hq
    omega
  have h2 : b * (2 * (a % b)) ≤ b * a := Nat.mul_le_mul_left _ h1
  have h3 : 2 ^ (k + 1) = 2 ^ k * 2 := Nat.pow_succ ..
  have h4 : b * (2 * (a % b)) = 2 * (b * (a % b)) := by rw [Nat.mul_left_comm]
  rw [Nat.mul_comm a b] at h
  omega

/-- bounded: the denominator divides M, the size is at most B -/
structure Bq (M B : Nat) (q : Rat) : Prop where
  pos : 0 < M
  den : q.den ∣ M
  num : q.num.natAbs ≤ B * q.den
theorem Bq.up {M M' B B' : Nat} {q : Rat} (h : Bq M B q) (hM : M ∣ M') (hp : 0 < M') (hB : B ≤ B') : Bq M' B' q :=
  ⟨hp, Nat.dvd_trans h.den hM, Nat.le_trans h.num (Nat.mul_le_mul_right _ hB)⟩
theorem bq_div {M B : Nat} {a : Int} {b : Nat} (hb : 0 < b) (hM : 0 < M) (hd : b ∣ M) (hn : a.natAbs ≤ B * b) : Bq M B (Rat.divInt a b) := by
  have hg : 0 < Nat.gcd b a.natAbs := Nat.gcd_pos_of_pos_left _ hb
  have e1 : (Rat.divInt a b).den = b / Nat.gcd b a.natAbs := by
    rw [Rat.den_divInt, if_neg (by omega)]; rfl
  have e2 : (Rat.divInt a b).num = a / (Nat.gcd b a.natAbs : Nat) := by
    rw [Rat.num_divInt, Int.sign_eq_one_of_pos (by omega), Int.one_mul]; rfl
  have d1 : Nat.gcd b a.natAbs ∣ b := Nat.gcd_dvd_left _ _
  have d2 : Nat.gcd b a.natAbs ∣ a.natAbs := Nat.gcd_dvd_right _ _
  refine ⟨hM, ?_, ?_⟩
  · rw [e1]; exact Nat.dvd_trans (Nat.div_dvd_of_dvd d1) hd
  · rw [e1, e2, Int.natAbs_ediv_of_dvd (Int.ofNat_dvd_left.mpr d2), Int.natAbs_natCast, ← Nat.mul_div_assoc _ d1]
    exact Nat.div_le_div_right hn
theorem Bq.add {M B C : Nat} {p q : Rat} (hp : Bq M B p) (hq : Bq M C q) : Bq M (B + C) (p + q) := by
  obtain ⟨x, hx⟩ := hp.den
  obtain ⟨y, hy⟩ := hq.den
  have px : 0 < x := by rcases Nat.eq_zero_or_pos x with z | z; · rw [z, Nat.mul_zero] at hx; have := hp.pos; omega
                        · exact z
  have py : 0 < y := by rcases Nat.eq_zero_or_pos y with z | z; · rw [z, Nat.mul_zero] at hy; have := hp.pos; omega
                        · exact z
  have e : p + q = Rat.divInt (p.num * x + q.num * y) (M : Nat) := by
    rw [← add_div p q, Rat.divInt_eq_divInt_iff (by have := p.den_pos; have := q.den_pos; have : (0:Int) < p.den * q.den := Int.mul_pos (by omega) (by omega); omega) (by have := hp.pos; omega)]
    have h1 : (M : Int) = p.den * x := by rw [hx]; simp
    have h2 : (M : Int) = q.den * y := by rw [hy]; simp
    rw [Int.add_mul, Int.add_mul]
    have t1 : p.num * (q.den : Int) * (M : Int) = p.num * (x : Int) * ((p.den : Int) * (q.den : Int)) := by rw [h1]; grind
    have t2 : q.num * (p.den : Int) * (M : Int) = q.num * (y : Int) * ((p.den : Int) * (q.den : Int)) := by rw [h2]; grind
    rw [t1, t2]
  rw [e]
  refine bq_div hp.pos hp.pos (Nat.dvd_refl _) ?_
  have n1 : (p.num * x).natAbs ≤ B * M := by
    rw [Int.natAbs_mul, Int.natAbs_natCast, hx, ← Nat.mul_assoc]
    exact Nat.mul_le_mul_right _ hp.num
  have n2 : (q.num * y).natAbs ≤ C * M := by
    rw [Int.natAbs_mul, Int.natAbs_natCast, hy, ← Nat.mul_assoc]
    exact Nat.mul_le_mul_right _ hq.num
  have n3 := Int.natAbs_add_le (p.num * x) (q.num * y)
  rw [Nat.add_mul]
  omega
theorem Bq.mul {M M' B C : Nat} {p q : Rat} (hp : Bq M B p) (hq : Bq M' C q) : Bq (M * M') (B * C) (p * q) := by
  rw [← mul_div p q]
  have e : (p.den : Int) * (q.den : Int) = ((p.den * q.den : Nat) : Int) := by simp
  rw [e]
  refine bq_div (Nat.mul_pos p.den_pos q.den_pos) (Nat.mul_pos hp.pos hq.pos) (Nat.mul_dvd_mul hp.den hq.den) ?_
  rw [Int.natAbs_mul]
  have := Nat.mul_le_mul hp.num hq.num
  calc p.num.natAbs * q.num.natAbs ≤ B * p.den * (C * q.den) := this
    _ = B * C * (p.den * q.den) := by grind
theorem Bq.bd {M B k m : Nat} {q : Rat} (h : Bq M B q) (hM : M < 2 ^ k) (hB : B < 2 ^ m) (hk : k + m ≤ 2000) : Bd q := by
  have hd : q.den ≤ M := Nat.le_of_dvd h.pos h.den
  refine ⟨?_, ?_⟩
  · have h1 : q.num.natAbs ≤ B * M := Nat.le_trans h.num (Nat.mul_le_mul_left _ hd)
    have h2 : B * M < 2 ^ (m + k) := by
      rw [Nat.pow_add]
      rcases Nat.eq_zero_or_pos B with z | z
      · rw [z, Nat.zero_mul]; exact Nat.mul_pos (Nat.two_pow_pos _) (Nat.two_pow_pos _)
      · exact Nat.mul_lt_mul'' hB hM
    exact Nat.lt_of_le_of_lt h1 (Nat.lt_of_lt_of_le h2 (Nat.pow_le_pow_right (by decide) (by omega)))
  · show ((q.den : Int)).natAbs < 2 ^ 2000
    rw [Int.natAbs_natCast]
    exact Nat.lt_of_le_of_lt hd (Nat.lt_of_lt_of_le hM (Nat.pow_le_pow_right (by decide) (by omega)))
end Calc
end
section
set_option Elab.async false
set_option linter.all false
set_option maxRecDepth 100000
set_option autoImplicit false
set_option exponentiation.threshold 20000
/-! plain mathematics: equality, Euclid's loop -/
namespace Calc
theorem look_flat {st : Store} {d : D} (h : d.free = true) : look st d = d := by
  cases d <;> first | rfl | cases h
theorem eqv_flat {x y : D} {st : Store} (hx : flat x = true) (hy : flat y = true) : eqv x y st = some (eqD x y) := by
  have fx : x.free = true := by unfold flat at hx; exact (Bool.and_eq_true_iff.mp hx).1
  have fy : y.free = true := by unfold flat at hy; exact (Bool.and_eq_true_iff.mp hy).1
  unfold eqv
  rw [look_flat fx, look_flat fy, hx, hy]
  rfl
theorem eqv_int (a b : Int) (st : Store) : eqv (.int a) (.int b) st = some (decide (a = b)) := by
  rw [eqv_flat rfl rfl]
  show some (a == b) = _
  by_cases h : a = b <;> simp [h]
mutual
theorem eqD_self : ∀ d : D, d.free = true → eqD d d = true
  | .non, _ => rfl
  | .bl a, _ => by simp [eqD]
  | .int i, _ => by simp [eqD]
  | .str x, _ => by simp [eqD]
  | .tup xs, h => by unfold eqD; exact eqDs_self xs (by unfold D.free at h; exact h)
  | .rol xs, h => by unfold eqD; exact eqDs_self xs (by unfold D.free at h; exact h)
  | .loc l, h => by cases h
theorem eqDs_self : ∀ xs : List D, D.frees xs = true → eqDs xs xs = true
  | [], _ => rfl
  | x :: xs, h => by
    unfold D.frees at h
    obtain ⟨h1, h2⟩ := Bool.and_eq_true_iff.mp h
    unfold eqDs
    rw [eqD_self x h1, eqDs_self xs h2]; rfl
end
theorem flat_fr (q : Rat) : flat (fr q) = true := rfl
theorem rng_at {n : Nat} (h : n < 2 ^ 62) : rngOf [.int n] = some ⟨(List.range n).map fun (i : Nat) => D.int (i : Int), []⟩ := by
  unfold rngOf
  have h1 : (-(2 ^ 62) : Int) ≤ (n : Int) ∧ (n : Int) < 2 ^ 62 := by omega
  simp only
  rw [if_pos h1]
  simp
@[simp] theorem ok_nil (items : List D) (st : Store) : Walk.ok ⟨items, []⟩ st = true := rfl
/-- Euclid's loop -/
theorem euclid_for {ok : Store → Bool} (hok : ∀ st, ok st = true) {body : Env → Store → R} (hb : ∀ (a b : Int) (i : Option D) (st : Store), body [some (.int a), some (.int b), i] st = if b = 0 then some (.brk, [some (.int a), some (.int b), i], st) else some (.next, [some (.int b), some (.int (a.fmod b)), i], st)) :
    ∀ (k : Nat) (a b : Nat) (items : List D) (x : Option D) (st : Store), b ≤ a → a * b < 2 ^ k → k < items.length → ∃ y, forW ok (.nm 2) body items [some (.int a), some (.int b), x] st = some (.next, [some (.int (Nat.gcd a b : Nat)), some (.int 0), y], st)
  | k, a, b, [], x, st, _, _, h => by simp at h
  | k, a, b, i :: items, x, st, hab, hk, h => by
    have e1 : asg (.nm 2) i [some (.int a), some (.int b), x] = some [some (.int a), some (.int b), some i] := rfl
    unfold forW
    rw [if_pos (hok st), e1]
    simp only
    rw [hb]
    by_cases h0 : b = 0
    · subst h0
      exact ⟨some i, by simp⟩
    · rw [if_neg (by omega)]
      simp only
      have hm : (a : Int).fmod (b : Int) = ((a % b : Nat) : Int) := by rw [Int.fmod_eq_emod_of_nonneg _ (Int.natCast_nonneg _)]; rfl
      rw [hm]
      cases k with
      | zero =>
        have : 0 < a * b := Nat.mul_pos (by omega) (by omega)
        simp at hk
        omega
      | succ k =>
        have hs := euclid_step (by omega) hab hk
        obtain ⟨y, hy⟩ := euclid_for hok hb k b (a % b) items (some i) st (Nat.le_of_lt (Nat.mod_lt _ (by omega))) hs (by simpa using h)
        refine ⟨y, ?_⟩
        rw [hy, Nat.gcd_comm b, ← Nat.gcd_rec, Nat.gcd_comm]
theorem euclid_for' {ok : Store → Bool} (hok : ∀ st, ok st = true) {body : Env → Store → R} (hb : ∀ (a b : Int) (i : Option D) (st : Store), body [some (.int a), some (.int b), i] st = if b = 0 then some (.brk, [some (.int a), some (.int b), i], st) else some (.next, [some (.int b), some (.int (a.fmod b)), i], st))
    {k m : Nat} (a b : Nat) (items : List D) (x : Option D) (st : Store) (ha : a < 2 ^ k) (hb2 : b < 2 ^ m) (h : k + m + 1 < items.length) : ∃ y, forW ok (.nm 2) body items [some (.int a), some (.int b), x] st = some (.next, [some (.int (Nat.gcd a b : Nat)), some (.int 0), y], st) := by
  have hp : a * b < 2 ^ (k + m) := by
    rw [Nat.pow_add]
    rcases Nat.eq_zero_or_pos a with z | z
    · rw [z, Nat.zero_mul]; exact Nat.mul_pos (Nat.two_pow_pos _) (Nat.two_pow_pos _)
    · exact Nat.mul_lt_mul'' ha hb2
  by_cases hab : b ≤ a
  · exact euclid_for hok hb (k + m) a b items x st hab hp (by omega)
  · cases items with
    | nil => simp at h
    | cons i items =>
      have e1 : asg (.nm 2) i [some (.int a), some (.int b), x] = some [some (.int a), some (.int b), some i] := rfl
      unfold forW
      rw [if_pos (hok st), e1]
      simp only
      rw [hb, if_neg (by omega)]
      simp only
      have hm : (a : Int).fmod (b : Int) = (a : Int) := by
        rw [Int.fmod_eq_emod_of_nonneg _ (Int.natCast_nonneg _)]
        exact Int.emod_eq_of_lt (Int.natCast_nonneg _) (by omega)
      rw [hm]
      obtain ⟨y, hy⟩ := euclid_for hok hb (k + m) b a items (some i) st (by omega) (by rw [Nat.mul_comm]; exact hp) (by simp at h; omega)
      exact ⟨y, by rw [hy, Nat.gcd_comm]⟩
/-- .. as a while loop -/
theorem euclid_while {f : Env → Store → R} (hf : ∀ (a b : Int) (st : Store), f [some (.int a), some (.int b)] st = if b = 0 then some (.brk, [some (.int a), some (.int b)], st) else some (.next, [some (.int b), some (.int (a.fmod b))], st)) :
    ∀ (b a : Nat) (st : Store), whileW f [some (.int a), some (.int b)] st = some (.next, [some (.int (Nat.gcd a b : Nat)), some (.int 0)], st) := by
  intro b
  induction b using Nat.strongRecOn with
  | _ b ih =>
  intro a st
  rw [whileW_eq, hf]
  by_cases h0 : b = 0
  · subst h0
    simp
  · rw [if_neg (by omega)]
    simp only
    have hm : (a : Int).fmod (b : Int) = ((a % b : Nat) : Int) := by rw [Int.fmod_eq_emod_of_nonneg _ (Int.natCast_nonneg _)]; rfl
    rw [hm, ih (a % b) (Nat.mod_lt _ (by omega)), Nat.gcd_comm b, ← Nat.gcd_rec, Nat.gcd_comm]
theorem abs_int (a : Int) : (if a < 0 then -a else a) = (a.natAbs : Int) := by
  split <;> omega
end Calc
namespace Calc
/-! ### running a text -/
def Ss.nth : Ss → Nat → S
  | .nil, _ => .pass
  | .cons s _, 0 => s
  | .cons _ r, n + 1 => r.nth n
def S.bd : S → Ss
  | .for_ _ _ b => b
  | .whl _ b => b
  | .ite _ a _ => a
  | _ => .nil
def S.el : S → Ss
  | .ite _ _ b => b
  | _ => .nil
section
variable {s : S} {ss : Ss} {env env' : Env} {st st' : Store} {d : D} {c : E} {a b : Ss} {r : R}
theorem ss_next (h : denS s env st = some (.next, env', st')) (k : denSs ss env' st' = r) : denSs (.cons s ss) env st = r := by
  simp only [denSs]; rw [h]; exact k
theorem ss_ret (h : denS s env st = some (.ret d, env', st')) : denSs (.cons s ss) env st = some (.ret d, env', st') := by
  simp only [denSs]; rw [h]
theorem ss_brk (h : denS s env st = some (.brk, env', st')) : denSs (.cons s ss) env st = some (.brk, env', st') := by
  simp only [denSs]; rw [h]
theorem ss_nil : denSs .nil env st = some (.next, env, st) := by simp only [denSs]
theorem s_for {t : T} {sr : Src} {w : Walk} (h : denSrc sr env st = some (w, st')) (k : forW w.ok t (fun env st => denSs b env st) w.items env st' = r) : denS (.for_ t sr b) env st = r := by
  simp only [denS]; rw [h]; exact k
theorem s_whl (k : whileW (fun env st => bnd (denT c env st) fun k st1 => if k = true then denSs b env st1 else some (.brk, env, st1)) env st = r) : denS (.whl c b) env st = r := by
  simp only [denS]; exact k
theorem s_iteT (h : denT c env st = some (true, st')) (k : denSs a env st' = r) : denS (.ite c a b) env st = r := by
  simp only [denS]; rw [h]; exact k
theorem s_iteF (h : denT c env st = some (false, st')) (k : denSs b env st' = r) : denS (.ite c a b) env st = r := by
  simp only [denS]; rw [h]; exact k
theorem s_ret {e : E} (h : denE e env st = some (d, st')) : denS (.ret e) env st = some (.ret d, env, st') := by
  simp only [denS]; rw [h]; rfl
/-- a def that leaves the store as it is -/
theorem def_pure {df : Def} {args : List D} {env0 : Env} (hl : args.length = df.np) (he : args.map some ++ List.replicate (df.ns - df.np) none = env0) (h : denSs df.body env0 st = some (.ret d, env', st)) : denDef df args st = some (d, st) := by
  subst he
  unfold denDef
  rw [if_pos hl, h]
  show some (gc st d st) = _
  rw [gc_same]
/-- .. that leaves cells that nobody names -/
theorem def_app {df : Def} {args : List D} {env0 : Env} {ex : Store} (hl : args.length = df.np) (he : args.map some ++ List.replicate (df.ns - df.np) none = env0) (h : denSs df.body env0 st = some (.ret d, env', st ++ ex)) (hu : D.under st.length d = true) : denDef df args st = some (d, st) := by
  subst he
  unfold denDef
  rw [if_pos hl, h]
  show some (gc st d (st ++ ex)) = _
  rw [gc_app hu]
end
end Calc
namespace Calc
theorem s_rng {es : Es} {env : Env} {st st' : Store} {xs : List D} {w : Walk} (h : denEs es env st = some (xs, st')) (hr : rngOf xs = some w) : denSrc (.rng es) env st = some (w, st') := by
  simp only [denSrc]
  rw [h, bnd_some, hr]
theorem s_seqT {e : E} {env : Env} {st st' : Store} {xs : List D} (h : denE e env st = some (.tup xs, st')) : denSrc (.seq e) env st = some (⟨xs, []⟩, st') := by
  simp only [denSrc]
  rw [h, bnd_some]
  rfl
theorem s_zipT {a b : E} {env : Env} {st st1 st2 : Store} {xs ys : List D} (h1 : denE a env st = some (.tup xs, st1)) (h2 : denE b env st1 = some (.tup ys, st2)) : denSrc (.zip a b) env st = some (⟨zipD xs ys, []⟩, st2) := by
  simp only [denSrc]
  rw [h1, bnd_some, h2, bnd_some]
  rfl
theorem e_bl1 (f : Bf) (e : E) (env : Env) (st : Store) : denE (.bl f (.cons e .nil)) env st = bnd (denE e env st) fun x st1 => bltn f [x] st1 := by
  simp only [denE, denEs]
  cases denE e env st with
  | none => rfl
  | some p => rfl
theorem e_lcTup {elt : E} {t : T} {s : Src} {test : Oe} {own : List Nat} {env : Env} {st st1 : Store} {w : Walk} {xs : List D} (h : denSrc s env st = some (w, st1)) (k : compW w.ok t (wipe env own) (fun env1 st2 => denTs test env1 st2) (fun env1 st2 => denE elt env1 st2) w.items [] st1 = some (xs, st1)) :
    denE (.bl .tuple (.cons (.lc elt t s test own) .nil)) env st = some (.tup xs, st1 ++ [.lst xs]) := by
  have e1 : denE (.lc elt t s test own) env st = some (.loc st1.length, st1 ++ [.lst xs]) := by
    simp only [denE]
    rw [h, bnd_some, k, bnd_some]
  have e2 := e_bl1 .tuple (.lc elt t s test own) env st
  rw [e1] at e2
  rw [e2, bnd_some]
  simp [bltn, seqOf]
theorem e_genTup {elt : E} {t : T} {s : Src} {test : Oe} {own : List Nat} {env : Env} {st st1 st2 : Store} {w : Walk} {xs : List D} (h : denSrc s env st = some (w, st1)) (k : compW w.ok t (wipe env own) (fun env1 st2 => denTs test env1 st2) (fun env1 st2 => denE elt env1 st2) w.items [] st1 = some (xs, st2)) :
    denE (.gen .tuple elt t s test own) env st = some (.tup xs, st2) := by
  simp only [denE]
  rw [h, bnd_some, k, bnd_some]
theorem fr_zero : fr 0 = .tup [.int 0, .int 1] := rfl
theorem fr_nat (n : Nat) : fr (n : Rat) = .tup [.int n, .int 1] := by unfold fr; rw [Rat.num_natCast, Rat.den_natCast]; rfl
end Calc
namespace Calc
theorem e_ixV {k : Nat} {i : Int} {env : Env} {st : Store} {x d : D} (h : env[k]? = some (some x)) (hi : index x (.int i) st = some d) : denE (.idx (.var k) (.lit (.int i))) env st = some (d, st) := by
  simp only [denE]
  rw [h]
  simp only [bnd_some]
  rw [hi]
theorem e_ixVV {k j : Nat} {i : Int} {env : Env} {st : Store} {x d : D} (h : env[k]? = some (some x)) (h2 : env[j]? = some (some (.int i))) (hi : index x (.int i) st = some d) : denE (.idx (.var k) (.var j)) env st = some (d, st) := by
  simp only [denE]
  rw [h, h2]
  simp only [bnd_some]
  rw [hi]
end Calc
namespace Calc
section
variable {env : Env} {st st1 st2 : Store}
theorem e_tupL {es : Es} {xs : List D} (h : denEs es env st = some (xs, st1)) (hl : xs.length ≤ SZ) : denE (.tup es) env st = some (.tup xs, st1) := by
  simp only [denE]
  rw [h, bnd_some, if_pos hl]
theorem es_cons {e : E} {es : Es} {x : D} {xs : List D} (h : denE e env st = some (x, st1)) (k : denEs es env st1 = some (xs, st2)) : denEs (.cons e es) env st = some (x :: xs, st2) := by
  simp only [denEs]
  rw [h, bnd_some, k, bnd_some]
theorem es_nil : denEs .nil env st = some ([], st) := by simp only [denEs]
theorem e_var {i : Nat} {d : D} (h : env[i]? = some (some d)) : denE (.var i) env st = some (d, st) := by
  simp only [denE]
  rw [h]
theorem e_blV {f : Bf} {e : E} {x d : D} (h : denE e env st = some (x, st1)) (k : bltn f [x] st1 = some (d, st2)) : denE (.bl f (.cons e .nil)) env st = some (d, st2) := by
  rw [e_bl1, h, bnd_some, k]
theorem e_call {f : PySem.Str} {F : Fn} {es : Es} {xs : List D} {d : D} (h : denEs es env st = some (xs, st1)) (k : F xs st1 = some (d, st2)) : denE (.call f F es) env st = some (d, st2) := by
  simp only [denE]
  rw [h, bnd_some, k]
end
end Calc
end
section
set_option Elab.async false
set_option linter.all false
set_option maxRecDepth 100000
set_option autoImplicit false
/-! plain mathematics: loops over lists -/
namespace Calc
section
variable {ok : Store → Bool} {t : T} {body : Env → Store → R}
theorem for_drop (I : Nat → Env → Store → Prop) (items : List D) (hstep : ∀ i d env st, items[i]? = some d → I i env st → ok st = true ∧ ∃ env1 env2 st2, asg t d env = some env1 ∧ body env1 st = some (.next, env2, st2) ∧ I (i + 1) env2 st2)
    (hend : ∀ env st, I items.length env st → ok st = true) : ∀ (m i : Nat) (env : Env) (st : Store), items.length - i = m → i ≤ items.length → I i env st → ∃ env' st', forW ok t body (items.drop i) env st = some (.next, env', st') ∧ I items.length env' st'
  | 0, i, env, st, hm, hi, h => by
    have e : i = items.length := by omega
    subst e
    rw [List.drop_length]
    refine ⟨env, st, ?_, h⟩
    unfold forW
    rw [if_pos (hend env st h)]
  | m + 1, i, env, st, hm, hi, h => by
    have hlt : i < items.length := by omega
    obtain ⟨h1, env1, env2, st2, h2, h3, h4⟩ := hstep i items[i] env st (List.getElem?_eq_getElem hlt) h
    obtain ⟨env', st', h5, h6⟩ := for_drop I items hstep hend m (i + 1) env2 st2 (by omega) hlt h4
    refine ⟨env', st', ?_, h6⟩
    rw [List.drop_eq_getElem_cons hlt]
    unfold forW
    rw [if_pos h1, h2]
    simp only
    rw [h3]
    exact h5
/-- a loop with an invariant -/
theorem for_inv (I : Nat → Env → Store → Prop) {items : List D} {env : Env} {st : Store} (h0 : I 0 env st) (hstep : ∀ i d env st, items[i]? = some d → I i env st → ok st = true ∧ ∃ env1 env2 st2, asg t d env = some env1 ∧ body env1 st = some (.next, env2, st2) ∧ I (i + 1) env2 st2)
    (hend : ∀ env st, I items.length env st → ok st = true) : ∃ env' st', forW ok t body items env st = some (.next, env', st') ∧ I items.length env' st' := by
  have := for_drop I items hstep hend items.length 0 env st (Nat.sub_zero _) (Nat.zero_le _) h0
  rwa [List.drop_zero] at this
end
section
variable {ok : Store → Bool} {t : T} {env : Env} {test : Env → Store → Option (Bool × Store)} {elt : Env → Store → Option (D × Store)}
/-- every item through g, the store left as it is -/
theorem comp_map {α : Type} (g : α → D) (r : α → D) (st : Store) (hok : ok st = true) : ∀ (xs : List α) (acc : List D), (∀ x ∈ xs, ∃ env1, asg t (r x) env = some env1 ∧ test env1 st = some (true, st) ∧ elt env1 st = some (g x, st)) → acc.length + xs.length ≤ SZ → compW ok t env test elt (xs.map r) acc st = some (acc ++ xs.map g, st)
  | [], acc, _, _ => by
    rw [List.map_nil, List.map_nil, List.append_nil]
    unfold compW
    rw [if_pos hok]
  | x :: xs, acc, h, hl => by
    obtain ⟨env1, h1, h2, h3⟩ := h x List.mem_cons_self
    rw [List.length_cons] at hl
    have ih := comp_map g r st hok xs (acc ++ [g x]) (fun y hy => h y (List.mem_cons_of_mem _ hy)) (by rw [List.length_append, List.length_singleton]; omega)
    rw [List.map_cons, List.map_cons]
    unfold compW
    rw [if_pos hok, h1]
    simp only
    rw [h2, bnd_some, if_pos rfl, h3, bnd_some, if_pos (by omega), ih, List.append_assoc]
    rfl
end
theorem atI_nat {xs : List D} {i : Nat} {d : D} (h : xs[i]? = some d) : atI xs (i : Int) = some d := by
  have hl := (List.getElem?_eq_some_iff.mp h).1
  unfold atI ixI
  rw [if_pos (Int.natCast_nonneg _), if_pos (by omega)]
  simpa using h
theorem range_at {n i : Nat} {d : D} (h : ((List.range n).map fun (i : Nat) => D.int (i : Int))[i]? = some d) : i < n ∧ d = .int i := by
  rw [List.getElem?_map] at h
  obtain ⟨j, hj, rfl⟩ := Option.map_eq_some_iff.mp h
  obtain ⟨hl, e⟩ := List.getElem?_eq_some_iff.mp hj
  rw [List.getElem_range] at e
  subst e
  exact ⟨by simpa using hl, rfl⟩
theorem map_at {α : Type} {f : α → D} {xs : List α} {i : Nat} {d : D} (h : (xs.map f)[i]? = some d) : ∃ x, xs[i]? = some x ∧ d = f x := by
  rw [List.getElem?_map] at h
  obtain ⟨x, hx, rfl⟩ := Option.map_eq_some_iff.mp h
  exact ⟨x, hx, rfl⟩

/-! ### products summed -/
def dotTo (a x : List Rat) : Nat → Rat
  | 0 => 0
  | k + 1 => dotTo a x k + a.getD k 0 * x.getD k 0
def dotQ (a x : List Rat) : Rat := dotTo a x a.length
theorem dotTo_bq {a x : List Rat} {M M' A X : Nat} (hM : 0 < M * M') (ha : ∀ q ∈ a, Bq M A q) (hx : ∀ q ∈ x, Bq M' X q) : ∀ k : Nat, k ≤ a.length → k ≤ x.length → Bq (M * M') (k * (A * X)) (dotTo a x k)
  | 0, _, _ => ⟨hM, by show 1 ∣ _; exact Nat.one_dvd _, by show (0 : Int).natAbs ≤ _; simp⟩
  | k + 1, h1, h2 => by
    have ih := dotTo_bq hM ha hx k (by omega) (by omega)
    have e1 : a.getD k 0 = a[k] := by rw [List.getD_eq_getElem?_getD, List.getElem?_eq_getElem (by omega)]; rfl
    have e2 : x.getD k 0 = x[k] := by rw [List.getD_eq_getElem?_getD, List.getElem?_eq_getElem (by omega)]; rfl
    have hp := (ha a[k] (List.getElem_mem _)).mul (hx x[k] (List.getElem_mem _))
    unfold dotTo
    rw [e1, e2]
    have := ih.add hp
    rwa [Nat.succ_mul]
def scaleL (s : Rat) (a : List Rat) : List Rat := a.map fun q => s * q
theorem dotTo_scale (s : Rat) (a x : List Rat) : ∀ k : Nat, k ≤ a.length → dotTo (scaleL s a) x k = s * dotTo a x k
  | 0, _ => by unfold dotTo; rw [Rat.mul_zero]
  | k + 1, h => by
    have ih := dotTo_scale s a x k (by omega)
    unfold dotTo
    have e : (scaleL s a).getD k 0 = s * a.getD k 0 := by
      unfold scaleL
      rw [List.getD_eq_getElem?_getD, List.getD_eq_getElem?_getD, List.getElem?_map, List.getElem?_eq_getElem (by omega)]
      rfl
    rw [ih, e]
    grind
theorem dotQ_scale (s : Rat) (a x : List Rat) : dotQ (scaleL s a) x = s * dotQ a x := by
  unfold dotQ
  have : (scaleL s a).length = a.length := by unfold scaleL; rw [List.length_map]
  rw [this]
  exact dotTo_scale s a x _ (Nat.le_refl _)

/-! ### the least common multiple -/
def lcmL (s : Nat) (l : List Nat) : Nat := l.foldl Nat.lcm s
theorem lcm_lcmL (s : Nat) : ∀ (l : List Nat) (t : Nat), Nat.lcm s (lcmL t l) = lcmL (Nat.lcm s t) l
  | [], t => rfl
  | x :: l, t => by
    show Nat.lcm s (lcmL (Nat.lcm t x) l) = lcmL (Nat.lcm (Nat.lcm s t) x) l
    rw [lcm_lcmL s l, Nat.lcm_assoc]
theorem lcmL_dvd {M : Nat} : ∀ {l : List Nat} {s : Nat}, s ∣ M → (∀ x ∈ l, x ∣ M) → lcmL s l ∣ M
  | [], s, h, _ => h
  | x :: l, s, h, k => lcmL_dvd (l := l) (s := Nat.lcm s x) (Nat.lcm_dvd h (k x List.mem_cons_self)) fun y hy => k y (List.mem_cons_of_mem _ hy)
theorem lcmL_app (s : Nat) (l m : List Nat) : lcmL s (l ++ m) = lcmL (lcmL s l) m := by unfold lcmL; rw [List.foldl_append]
end Calc
namespace Calc
section
variable {ok : Store → Bool} {t : T} {env : Env} {test : Env → Store → Option (Bool × Store)} {elt : Env → Store → Option (D × Store)}
theorem comp_drop (I : Nat → List D → Store → Prop) (items : List D) (hstep : ∀ i d acc st, items[i]? = some d → I i acc st → ok st = true ∧ acc.length < SZ ∧ ∃ env1 y st1, asg t d env = some env1 ∧ test env1 st = some (true, st) ∧ elt env1 st = some (y, st1) ∧ I (i + 1) (acc ++ [y]) st1)
    (hend : ∀ acc st, I items.length acc st → ok st = true) : ∀ (m i : Nat) (acc : List D) (st : Store), items.length - i = m → i ≤ items.length → I i acc st → ∃ xs st', compW ok t env test elt (items.drop i) acc st = some (xs, st') ∧ I items.length xs st'
  | 0, i, acc, st, hm, hi, h => by
    have e : i = items.length := by omega
    subst e
    rw [List.drop_length]
    refine ⟨acc, st, ?_, h⟩
    unfold compW
    rw [if_pos (hend acc st h)]
  | m + 1, i, acc, st, hm, hi, h => by
    have hlt : i < items.length := by omega
    obtain ⟨h1, hz, env1, y, st1, h2, h3, h4, h5⟩ := hstep i items[i] acc st (List.getElem?_eq_getElem hlt) h
    obtain ⟨xs, st', h6, h7⟩ := comp_drop I items hstep hend m (i + 1) (acc ++ [y]) st1 (by omega) hlt h5
    refine ⟨xs, st', ?_, h7⟩
    rw [List.drop_eq_getElem_cons hlt]
    unfold compW
    rw [if_pos h1, h2]
    simp only
    rw [h3, bnd_some, if_pos rfl, h4, bnd_some, if_pos hz]
    exact h6
theorem comp_inv (I : Nat → List D → Store → Prop) {items : List D} {st : Store} (h0 : I 0 [] st) (hstep : ∀ i d acc st, items[i]? = some d → I i acc st → ok st = true ∧ acc.length < SZ ∧ ∃ env1 y st1, asg t d env = some env1 ∧ test env1 st = some (true, st) ∧ elt env1 st = some (y, st1) ∧ I (i + 1) (acc ++ [y]) st1)
    (hend : ∀ acc st, I items.length acc st → ok st = true) : ∃ xs st', compW ok t env test elt items [] st = some (xs, st') ∧ I items.length xs st' := by
  have := comp_drop I items hstep hend items.length 0 [] st (Nat.sub_zero _) (Nat.zero_le _) h0
  rwa [List.drop_zero] at this
end
end Calc
namespace Calc
section
variable {ok : Store → Bool} {t : T} {env : Env} {test : Env → Store → Option (Bool × Store)} {elt : Env → Store → Option (D × Store)}
/-- every item that passes through g, the store left as it is -/
theorem comp_filt {α : Type} (g : α → D) (r : α → D) (p : α → Bool) (st : Store) (hok : ok st = true) : ∀ (xs : List α) (acc : List D), (∀ x ∈ xs, ∃ env1, asg t (r x) env = some env1 ∧ test env1 st = some (p x, st) ∧ (p x = true → elt env1 st = some (g x, st))) → acc.length + xs.length ≤ SZ → compW ok t env test elt (xs.map r) acc st = some (acc ++ (xs.filter p).map g, st)
  | [], acc, _, _ => by
    rw [List.map_nil, List.filter_nil, List.map_nil, List.append_nil]
    unfold compW
    rw [if_pos hok]
  | x :: xs, acc, h, hl => by
    obtain ⟨env1, h1, h2, h3⟩ := h x List.mem_cons_self
    rw [List.length_cons] at hl
    rw [List.map_cons]
    unfold compW
    rw [if_pos hok, h1]
    simp only
    rw [h2, bnd_some]
    cases hp : p x with
    | true =>
      rw [if_pos rfl, h3 hp, bnd_some, if_pos (by omega), comp_filt g r p st hok xs (acc ++ [g x]) (fun y hy => h y (List.mem_cons_of_mem _ hy)) (by rw [List.length_append, List.length_singleton]; omega), List.filter_cons_of_pos hp, List.map_cons, List.append_assoc]
      rfl
    | false =>
      rw [if_neg Bool.false_ne_true, comp_filt g r p st hok xs acc (fun y hy => h y (List.mem_cons_of_mem _ hy)) (by omega), List.filter_cons_of_neg (by rw [hp]; exact Bool.false_ne_true)]
end
theorem s_seqW {e : E} {env : Env} {st st' : Store} {x : D} {w : Walk} (h : denE e env st = some (x, st')) (hw : walkOf st' x = some w) : denSrc (.seq e) env st = some (w, st') := by
  simp only [denSrc]
  rw [h, bnd_some, hw]
theorem e_lc {elt : E} {t : T} {s : Src} {test : Oe} {own : List Nat} {env : Env} {st st1 st2 : Store} {w : Walk} {xs : List D} (h : denSrc s env st = some (w, st1)) (k : compW w.ok t (wipe env own) (fun env1 st2 => denTs test env1 st2) (fun env1 st2 => denE elt env1 st2) w.items [] st1 = some (xs, st2)) :
    denE (.lc elt t s test own) env st = some (.loc st2.length, st2 ++ [.lst xs]) := by
  simp only [denE]
  rw [h, bnd_some, k, bnd_some]
theorem e_bin {op : Bop} {a b : E} {x y d : D} {env : Env} {st st1 st2 st3 : Store} (h1 : denE a env st = some (x, st1)) (h2 : denE b env st1 = some (y, st2)) (h3 : binop op x y st2 = some (d, st3)) : denE (.bin op a b) env st = some (d, st3) := by
  simp only [denE]
  rw [h1, bnd_some, h2, bnd_some, h3]
theorem e_lstL {es : Es} {xs : List D} {env : Env} {st st1 : Store} (h : denEs es env st = some (xs, st1)) (hl : xs.length ≤ SZ) : denE (.lst es) env st = some (.loc st1.length, st1 ++ [.lst xs]) := by
  simp only [denE]
  rw [h, bnd_some, if_pos hl]
theorem e_lit {d : D} {env : Env} {st : Store} : denE (.lit d) env st = some (d, st) := by simp only [denE]
theorem e_ix {a i : E} {x y d : D} {env : Env} {st st1 st2 : Store} (h1 : denE a env st = some (x, st1)) (h2 : denE i env st1 = some (y, st2)) (h3 : index x y st2 = some d) : denE (.idx a i) env st = some (d, st2) := by
  simp only [denE]
  rw [h1, bnd_some, h2, bnd_some, h3]
theorem s_setM {i : Nat} {e : E} {d : D} {env : Env} {st st1 : Store} (h : denE e env st = some (d, st1)) (hi : i < env.length) : denS (.set i e) env st = some (.next, env.set i (some d), st1) := by
  simp only [denS]
  rw [h, bnd_some, if_pos hi]
theorem t_cmp {op : Cop} {a b : E} {x y : D} {c : Bool} {env : Env} {st st1 st2 : Store} (h1 : denE a env st = some (x, st1)) (h2 : denE b env st1 = some (y, st2)) (h3 : cmpop op x y st2 = some c) : denT (.cmp op a b) env st = some (c, st2) := by
  simp only [denT]
  rw [h1, bnd_some, h2, bnd_some, h3]
theorem e_ite {c a b : E} {k : Bool} {d : D} {env : Env} {st st1 st2 : Store} (h1 : denT c env st = some (k, st1)) (h2 : (if k = true then denE a env st1 else denE b env st1) = some (d, st2)) : denE (.ite c a b) env st = some (d, st2) := by
  simp only [denE]
  rw [h1, bnd_some, h2]
theorem t_not {a : E} {k : Bool} {env : Env} {st st1 : Store} (h1 : denT a env st = some (k, st1)) : denT (.not a) env st = some (!k, st1) := by
  simp only [denT]
  rw [h1, bnd_some]
theorem t_call {f : PySem.Str} {F : Fn} {es : Es} {k : Bool} {env : Env} {st st1 : Store} (h : denE (.call f F es) env st = some (.bl k, st1)) : denT (.call f F es) env st = some (k, st1) := by
  simp only [denT]
  simp only [denE] at h
  rw [h]
  rfl
theorem e_callK {f : PySem.Str} {F : Fn} {ks : List PySem.Str} {perm : List Nat} {es kes : Es} {xs ys : List D} {d : D} {env : Env} {st st1 st2 st3 : Store} (h : denEs es env st = some (xs, st1)) (h2 : denEs kes env st1 = some (ys, st2)) (k : F (permut perm (xs ++ ys)) st2 = some (d, st3)) : denE (.callK f F ks perm es kes) env st = some (d, st3) := by
  simp only [denE]
  rw [h, bnd_some, h2, bnd_some, k]
end Calc
end
section
set_option autoImplicit false
set_option maxRecDepth 100000
namespace Law
open Calc
def b__law_same (F__law_same : Fn) : Def := ⟨2, 3,
    (.cons (.ite (.cmp .isN (.var 1) (.lit .non)) (.cons (.ret (.cmp .isN (.var 0) (.lit .non)))
    .nil) .nil)
    (.cons (.ite (.or (.isi .isBool (.var 1)) (.isi .isBool (.var 0))) (.cons (.ret (.and (.isi .isBool (.var 1)) (.and (.isi .isBool (.var 0)) (.cmp .eq (.var 0) (.var 1)))))
    .nil) .nil)
    (.cons (.ite (.isi .isInt (.var 1)) (.cons (.ret (.and (.isi .isInt (.var 0)) (.cmp .eq (.var 0) (.var 1))))
    .nil) .nil)
    (.cons (.ite (.isi .isStr (.var 1)) (.cons (.ret (.and (.isi .isStr (.var 0)) (.cmp .eq (.var 0) (.var 1))))
    .nil) .nil)
    (.cons (.ite (.or (.not (.isi .isTup (.var 1))) (.or (.not (.isi .isTup (.var 0))) (.cmp .ne (.bl .len (.cons (.var 0) .nil)) (.bl .len (.cons (.var 1) .nil))))) (.cons (.ret (.lit (.bl false)))
    .nil) .nil)
    (.cons (.for_ (.nm 2) (.rng (.cons (.bl .len (.cons (.var 1) .nil)) .nil)) (.cons (.ite (.not (.call "_law_same" F__law_same (.cons (.idx (.var 0) (.var 2)) (.cons (.idx (.var 1) (.var 2)) .nil)))) (.cons (.ret (.lit (.bl false)))
    .nil) .nil)
    .nil))
    (.cons (.ret (.lit (.bl true)))
    .nil)))))))⟩
noncomputable def f__law_same : Nat → Fn
  | 0 => fun _ _ => none
  | k + 1 => denDef (b__law_same (f__law_same k))
def b__law_gcd : Def := ⟨2, 3,
    (.cons (.par 0 1 (.bl .abs (.cons (.var 0) .nil)) (.bl .abs (.cons (.var 1) .nil)))
    (.cons (.for_ (.nm 2) (.rng (.cons (.lit (.int 20000)) .nil)) (.cons (.ite (.cmp .eq (.var 1) (.lit (.int 0))) (.cons .brk
    .nil) .nil)
    (.cons (.par 0 1 (.var 1) (.bin .mod (.bl .int (.cons (.var 0) .nil)) (.var 1)))
    .nil)))
    (.cons (.ret (.var 0))
    .nil)))⟩
noncomputable def f__law_gcd : Fn := denDef (b__law_gcd )
def b__law_fr (F__law_gcd : Fn) : Def := ⟨2, 3,
    (.cons (.set 2 (.ite (.cmp .gt (.var 1) (.lit (.int 0))) (.call "_law_gcd" F__law_gcd (.cons (.var 0) (.cons (.var 1) .nil))) (.bin .sub (.lit (.int 0)) (.call "_law_gcd" F__law_gcd (.cons (.var 0) (.cons (.var 1) .nil))))))
    (.cons (.ret (.tup (.cons (.bin .fdiv (.var 0) (.var 2)) (.cons (.bin .fdiv (.var 1) (.var 2)) .nil))))
    .nil))⟩
noncomputable def f__law_fr : Fn := denDef (b__law_fr f__law_gcd)
def b__law_plus (F__law_fr : Fn) : Def := ⟨2, 2,
    (.cons (.ret (.call "_law_fr" F__law_fr (.cons (.bin .add (.bin .mul (.idx (.var 0) (.lit (.int 0))) (.idx (.var 1) (.lit (.int 1)))) (.bin .mul (.idx (.var 1) (.lit (.int 0))) (.idx (.var 0) (.lit (.int 1))))) (.cons (.bin .mul (.idx (.var 0) (.lit (.int 1))) (.idx (.var 1) (.lit (.int 1)))) .nil))))
    .nil)⟩
noncomputable def f__law_plus : Fn := denDef (b__law_plus f__law_fr)
def b__law_times (F__law_fr : Fn) : Def := ⟨2, 2,
    (.cons (.ret (.call "_law_fr" F__law_fr (.cons (.bin .mul (.idx (.var 0) (.lit (.int 0))) (.idx (.var 1) (.lit (.int 0)))) (.cons (.bin .mul (.idx (.var 0) (.lit (.int 1))) (.idx (.var 1) (.lit (.int 1)))) .nil))))
    .nil)⟩
noncomputable def f__law_times : Fn := denDef (b__law_times f__law_fr)
def b__law_bounds (F__law_plus : Fn) (F__law_times : Fn) : Def := ⟨2, 11,
    (.cons (.set 2 (.lst .nil))
    (.cons (.for_ (.tup [(.nm 3), (.nm 4), (.nm 5)]) (.seq (.idx (.var 0) (.lit (.int 1)))) (.cons (.par 6 7 (.var 4) (.var 4))
    (.cons (.for_ (.nm 8) (.rng (.cons (.idx (.var 0) (.lit (.int 0))) .nil)) (.cons (.par 9 10 (.call "_law_times" F__law_times (.cons (.idx (.var 3) (.var 8)) (.cons (.idx (.idx (.var 1) (.var 8)) (.lit (.int 0))) .nil))) (.call "_law_times" F__law_times (.cons (.idx (.var 3) (.var 8)) (.cons (.idx (.idx (.var 1) (.var 8)) (.lit (.int 1))) .nil))))
    (.cons (.set 6 (.call "_law_plus" F__law_plus (.cons (.var 6) (.cons (.ite (.cmp .gt (.idx (.idx (.var 3) (.var 8)) (.lit (.int 0))) (.lit (.int 0))) (.var 9) (.var 10)) .nil))))
    (.cons (.set 7 (.call "_law_plus" F__law_plus (.cons (.var 7) (.cons (.ite (.cmp .gt (.idx (.idx (.var 3) (.var 8)) (.lit (.int 0))) (.lit (.int 0))) (.var 10) (.var 9)) .nil))))
    .nil))))
    (.cons (.ex (.meth .append (.var 2) (.cons (.tup (.cons (.var 6) (.cons (.var 7) .nil))) .nil)))
    .nil))))
    (.cons (.ret (.bl .tuple (.cons (.var 2) .nil)))
    .nil)))⟩
noncomputable def f__law_bounds : Fn := denDef (b__law_bounds f__law_plus f__law_times)
def b_divisor : Def := ⟨2, 2,
    (.cons (.par 0 1 (.bl .abs (.cons (.var 0) .nil)) (.bl .abs (.cons (.var 1) .nil)))
    (.cons (.whl (.var 1) (.cons (.par 0 1 (.var 1) (.bin .mod (.var 0) (.var 1)))
    .nil))
    (.cons (.ret (.var 0))
    .nil)))⟩
noncomputable def f_divisor : Fn := denDef (b_divisor )
def b_lowest (F_divisor : Fn) : Def := ⟨2, 3,
    (.cons (.set 2 (.call "divisor" F_divisor (.cons (.var 0) (.cons (.var 1) .nil))))
    (.cons (.ite (.cmp .lt (.var 1) (.lit (.int 0))) (.cons (.set 2 (.neg (.var 2)))
    .nil) .nil)
    (.cons (.ret (.tup (.cons (.bin .fdiv (.var 0) (.var 2)) (.cons (.bin .fdiv (.var 1) (.var 2)) .nil))))
    .nil)))⟩
noncomputable def f_lowest : Fn := denDef (b_lowest f_divisor)
def b_plus (F_lowest : Fn) : Def := ⟨2, 2,
    (.cons (.ite (.cmp .eq (.idx (.var 0) (.lit (.int 0))) (.lit (.int 0))) (.cons (.ret (.var 1))
    .nil) .nil)
    (.cons (.ite (.cmp .eq (.idx (.var 1) (.lit (.int 0))) (.lit (.int 0))) (.cons (.ret (.var 0))
    .nil) .nil)
    (.cons (.ret (.call "lowest" F_lowest (.cons (.bin .add (.bin .mul (.idx (.var 0) (.lit (.int 0))) (.idx (.var 1) (.lit (.int 1)))) (.bin .mul (.idx (.var 1) (.lit (.int 0))) (.idx (.var 0) (.lit (.int 1))))) (.cons (.bin .mul (.idx (.var 0) (.lit (.int 1))) (.idx (.var 1) (.lit (.int 1)))) .nil))))
    .nil)))⟩
noncomputable def f_plus : Fn := denDef (b_plus f_lowest)
def b_is_less : Def := ⟨2, 2,
    (.cons (.ret (.cmp .lt (.bin .mul (.idx (.var 0) (.lit (.int 0))) (.idx (.var 1) (.lit (.int 1)))) (.bin .mul (.idx (.var 1) (.lit (.int 0))) (.idx (.var 0) (.lit (.int 1))))))
    .nil)⟩
noncomputable def f_is_less : Fn := denDef (b_is_less )
def b_greater_of (F_is_less : Fn) : Def := ⟨2, 2,
    (.cons (.ret (.ite (.call "is_less" F_is_less (.cons (.var 0) (.cons (.var 1) .nil))) (.var 1) (.var 0)))
    .nil)⟩
noncomputable def f_greater_of : Fn := denDef (b_greater_of f_is_less)
def b_product (F_lowest : Fn) : Def := ⟨2, 2,
    (.cons (.ret (.call "lowest" F_lowest (.cons (.bin .mul (.idx (.var 0) (.lit (.int 0))) (.idx (.var 1) (.lit (.int 0)))) (.cons (.bin .mul (.idx (.var 0) (.lit (.int 1))) (.idx (.var 1) (.lit (.int 1)))) .nil))))
    .nil)⟩
noncomputable def f_product : Fn := denDef (b_product f_lowest)
def b_inner_bounds (F_plus : Fn) (F_greater_of : Fn) (F_is_less : Fn) (F_product : Fn) : Def := ⟨2, 13,
    (.cons (.set 2 (.lst .nil))
    (.cons (.for_ (.tup [(.nm 3), (.nm 4), (.nm 5)]) (.seq (.idx (.var 0) (.lit (.int 1)))) (.cons (.par 6 7 (.var 4) (.var 4))
    (.cons (.for_ (.tup [(.nm 8), (.tup [(.nm 9), (.nm 10)])]) (.zip (.var 3) (.var 1)) (.cons (.par 11 12 (.call "product" F_product (.cons (.var 8) (.cons (.var 9) .nil))) (.call "product" F_product (.cons (.var 8) (.cons (.var 10) .nil))))
    (.cons (.set 6 (.call "plus" F_plus (.cons (.var 6) (.cons (.ite (.call "is_less" F_is_less (.cons (.var 11) (.cons (.var 12) .nil))) (.var 11) (.var 12)) .nil))))
    (.cons (.set 7 (.call "plus" F_plus (.cons (.var 7) (.cons (.call "greater_of" F_greater_of (.cons (.var 11) (.cons (.var 12) .nil))) .nil))))
    .nil))))
    (.cons (.ex (.meth .append (.var 2) (.cons (.tup (.cons (.var 6) (.cons (.var 7) .nil))) .nil)))
    .nil))))
    (.cons (.ret (.bl .tuple (.cons (.var 2) .nil)))
    .nil)))⟩
noncomputable def f_inner_bounds : Fn := denDef (b_inner_bounds f_plus f_greater_of f_is_less f_product)
def b__law_draw : Def := ⟨2, 5,
    (.cons (.sub (.var 0) (.lit (.int 1)) (.bin .add (.idx (.var 0) (.lit (.int 1))) (.lit (.int 1))))
    (.cons (.ite (.and (.cmp .eq (.idx (.var 0) (.lit (.int 0))) (.lit (.int 0))) (.cmp .gt (.bl .len (.cons (.idx (.var 0) (.lit (.int 2))) .nil)) (.lit (.int 0)))) (.cons (.sub (.var 0) (.lit (.int 0)) (.meth .pop (.idx (.var 0) (.lit (.int 2))) .nil))
    .nil) .nil)
    (.cons (.ite (.cmp .gt (.idx (.var 0) (.lit (.int 0))) (.lit (.int 0))) (.cons (.set 2 (.bin .mod (.bl .int (.cons (.idx (.var 0) (.lit (.int 0))) .nil)) (.var 1)))
    (.cons (.sub (.var 0) (.lit (.int 0)) (.bin .fdiv (.idx (.var 0) (.lit (.int 0))) (.var 1)))
    (.cons (.ret (.var 2))
    .nil))) .nil)
    (.cons (.set 3 (.idx (.idx (.var 0) (.lit (.int 3))) (.bin .mod (.bl .int (.cons (.idx (.var 0) (.lit (.int 1))) .nil)) (.bl .len (.cons (.idx (.var 0) (.lit (.int 3))) .nil)))))
    (.cons (.set 4 (.bin .mod (.bl .int (.cons (.bin .add (.bin .add (.bin .mul (.var 3) (.lit (.int 48271))) (.bin .mul (.idx (.var 0) (.lit (.int 1))) (.lit (.int 69621)))) (.lit (.int 1))) .nil)) (.lit (.int 2147483647))))
    (.cons (.ret (.bin .mod (.bin .fdiv (.bin .mod (.bl .int (.cons (.bin .add (.bin .add (.bin .mul (.var 4) (.var 4)) (.bin .mul (.var 4) (.lit (.int 16807)))) (.bin .mul (.idx (.var 0) (.lit (.int 1))) (.lit (.int 40014)))) .nil)) (.lit (.int 2147483629))) (.lit (.int 32))) (.var 1)))
    .nil))))))⟩
noncomputable def f__law_draw : Fn := denDef (b__law_draw )
def b__law_pick (F__law_draw : Fn) : Def := ⟨2, 2,
    (.cons (.ret (.idx (.var 1) (.call "_law_draw" F__law_draw (.cons (.var 0) (.cons (.bl .len (.cons (.var 1) .nil)) .nil)))))
    .nil)⟩
noncomputable def f__law_pick : Fn := denDef (b__law_pick f__law_draw)
def b__law_draw_fr (F__law_fr : Fn) (F__law_pick : Fn) (F__law_draw : Fn) : Def := ⟨3, 3,
    (.cons (.ret (.call "_law_fr" F__law_fr (.cons (.bin .sub (.call "_law_draw" F__law_draw (.cons (.var 0) (.cons (.bin .add (.bin .mul (.lit (.int 2)) (.var 1)) (.lit (.int 1))) .nil))) (.var 1)) (.cons (.call "_law_pick" F__law_pick (.cons (.var 0) (.cons (.var 2) .nil))) .nil))))
    .nil)⟩
noncomputable def f__law_draw_fr : Fn := denDef (b__law_draw_fr f__law_fr f__law_pick f__law_draw)
def b__law_box (F__law_plus : Fn) (F__law_pick : Fn) (F__law_draw_fr : Fn) : Def := ⟨2, 5,
    (.cons (.set 2 (.lst .nil))
    (.cons (.for_ (.nm 3) (.rng (.cons (.var 1) .nil)) (.cons (.set 4 (.call "_law_draw_fr" F__law_draw_fr (.cons (.var 0) (.cons (.lit (.int 9)) (.cons (.lst (.cons (.lit (.int 1)) (.cons (.lit (.int 2)) (.cons (.lit (.int 3)) .nil)))) .nil)))))
    (.cons (.ex (.meth .append (.var 2) (.cons (.tup (.cons (.var 4) (.cons (.call "_law_plus" F__law_plus (.cons (.var 4) (.cons (.call "_law_pick" F__law_pick (.cons (.var 0) (.cons (.lst (.cons (.tup (.cons (.lit (.int 0)) (.cons (.lit (.int 1)) .nil))) (.cons (.tup (.cons (.lit (.int 1)) (.cons (.lit (.int 1)) .nil))) (.cons (.tup (.cons (.lit (.int 7)) (.cons (.lit (.int 3)) .nil))) (.cons (.tup (.cons (.lit (.int 40)) (.cons (.lit (.int 1)) .nil))) (.cons (.tup (.cons (.lit (.int 1)) (.cons (.lit (.int 9999)) .nil))) .nil)))))) .nil))) .nil))) .nil))) .nil)))
    .nil)))
    (.cons (.ret (.bl .tuple (.cons (.var 2) .nil)))
    .nil)))⟩
noncomputable def f__law_box : Fn := denDef (b__law_box f__law_plus f__law_pick f__law_draw_fr)
def b__law_dot (F__law_plus : Fn) (F__law_times : Fn) : Def := ⟨2, 4,
    (.cons (.set 2 (.tup (.cons (.lit (.int 0)) (.cons (.lit (.int 1)) .nil))))
    (.cons (.for_ (.nm 3) (.rng (.cons (.bl .len (.cons (.var 0) .nil)) .nil)) (.cons (.set 2 (.call "_law_plus" F__law_plus (.cons (.var 2) (.cons (.call "_law_times" F__law_times (.cons (.idx (.var 0) (.var 3)) (.cons (.idx (.var 1) (.var 3)) .nil))) .nil))))
    .nil))
    (.cons (.ret (.var 2))
    .nil)))⟩
noncomputable def f__law_dot : Fn := denDef (b__law_dot f__law_plus f__law_times)
def b__law_answer (F__law_plus : Fn) (F__law_times : Fn) (F__law_dot : Fn) : Def := ⟨2, 7,
    (.cons (.set 2 (.call "_law_plus" F__law_plus (.cons (.call "_law_dot" F__law_dot (.cons (.idx (.idx (.var 0) (.lit (.int 2))) (.lit (.int 0))) (.cons (.var 1) .nil))) (.cons (.idx (.idx (.var 0) (.lit (.int 2))) (.lit (.int 1))) .nil))))
    (.cons (.for_ (.tup [(.nm 3), (.nm 4), (.nm 5)]) (.seq (.idx (.var 0) (.lit (.int 1)))) (.cons (.set 6 (.call "_law_plus" F__law_plus (.cons (.call "_law_dot" F__law_dot (.cons (.var 3) (.cons (.var 1) .nil))) (.cons (.var 4) .nil))))
    (.cons (.ite (.cmp .gt (.idx (.var 6) (.lit (.int 0))) (.lit (.int 0))) (.cons (.set 2 (.call "_law_plus" F__law_plus (.cons (.var 2) (.cons (.call "_law_times" F__law_times (.cons (.var 5) (.cons (.var 6) .nil))) .nil))))
    .nil) .nil)
    .nil)))
    (.cons (.ret (.var 2))
    .nil)))⟩
noncomputable def f__law_answer : Fn := denDef (b__law_answer f__law_plus f__law_times f__law_dot)
def b__law_draw_row (F__law_draw_fr : Fn) : Def := ⟨4, 5,
    (.cons (.ret (.bl .tuple (.cons (.lc (.call "_law_draw_fr" F__law_draw_fr (.cons (.var 0) (.cons (.var 2) (.cons (.var 3) .nil)))) (.nm 4) (.rng (.cons (.var 1) .nil)) .none [4]) .nil)))
    .nil)⟩
noncomputable def f__law_draw_row : Fn := denDef (b__law_draw_row f__law_draw_fr)
def b_scaled_row (F_product : Fn) : Def := ⟨2, 3,
    (.cons (.ret (.gen .tuple (.call "product" F_product (.cons (.var 0) (.cons (.var 2) .nil))) (.nm 2) (.seq (.var 1)) .none [2]))
    .nil)⟩
noncomputable def f_scaled_row : Fn := denDef (b_scaled_row f_product)
def b_multiple (F_divisor : Fn) : Def := ⟨2, 2,
    (.cons (.ret (.bin .mul (.bin .fdiv (.var 0) (.call "divisor" F_divisor (.cons (.var 0) (.cons (.var 1) .nil)))) (.var 1)))
    .nil)⟩
noncomputable def f_multiple : Fn := denDef (b_multiple f_divisor)
def b_common_below (F_multiple : Fn) : Def := ⟨1, 4,
    (.cons (.set 1 (.lit (.int 1)))
    (.cons (.for_ (.tup [(.nm 2), (.nm 3)]) (.seq (.var 0)) (.cons (.set 1 (.call "multiple" F_multiple (.cons (.var 1) (.cons (.var 3) .nil))))
    .nil))
    (.cons (.ret (.var 1))
    .nil)))⟩
noncomputable def f_common_below : Fn := denDef (b_common_below f_multiple)
def b_as_whole (F_product : Fn) (F_scaled_row : Fn) (F_multiple : Fn) (F_common_below : Fn) : Def := ⟨1, 8,
    (.cons (.set 1 (.lit (.int 1)))
    (.cons (.for_ (.tup [(.nm 2), (.nm 3), (.nm 4)]) (.seq (.idx (.var 0) (.lit (.int 1)))) (.cons (.set 1 (.call "multiple" F_multiple (.cons (.var 1) (.cons (.call "common_below" F_common_below (.cons (.bin .add (.var 2) (.tup (.cons (.var 3) (.cons (.var 4) .nil)))) .nil)) .nil))))
    .nil))
    (.cons (.set 5 (.tup (.cons (.var 1) (.cons (.lit (.int 1)) .nil))))
    (.cons (.set 6 (.gen .tuple (.tup (.cons (.call "scaled_row" F_scaled_row (.cons (.var 5) (.cons (.var 2) .nil))) (.cons (.call "product" F_product (.cons (.var 5) (.cons (.var 3) .nil))) (.cons (.call "product" F_product (.cons (.var 5) (.cons (.var 4) .nil))) .nil)))) (.tup [(.nm 2), (.nm 3), (.nm 4)]) (.seq (.idx (.var 0) (.lit (.int 1)))) .none [2, 3, 4]))
    (.cons (.set 7 (.tup (.cons (.bin .mul (.var 1) (.var 1)) (.cons (.lit (.int 1)) .nil))))
    (.cons (.ret (.tup (.cons (.var 1) (.cons (.tup (.cons (.idx (.var 0) (.lit (.int 0))) (.cons (.var 6) (.cons (.tup (.cons (.call "scaled_row" F_scaled_row (.cons (.var 7) (.cons (.idx (.idx (.var 0) (.lit (.int 2))) (.lit (.int 0))) .nil))) (.cons (.call "product" F_product (.cons (.var 7) (.cons (.idx (.idx (.var 0) (.lit (.int 2))) (.lit (.int 1))) .nil))) .nil))) .nil)))) .nil))))
    .nil))))))⟩
noncomputable def f_as_whole : Fn := denDef (b_as_whole f_product f_scaled_row f_multiple f_common_below)
def b__law_taken (F__law_times : Fn) : Def := ⟨2, 3,
    (.cons (.ret (.bl .tuple (.cons (.lc (.call "_law_times" F__law_times (.cons (.var 0) (.cons (.var 2) .nil))) (.nm 2) (.seq (.var 1)) .none [2]) .nil)))
    .nil)⟩
noncomputable def f__law_taken : Fn := denDef (b__law_taken f__law_times)
def b__law_times_all (F__law_gcd : Fn) : Def := ⟨1, 6,
    (.cons (.set 1 (.lit (.int 1)))
    (.cons (.for_ (.tup [(.nm 2), (.nm 3), (.nm 4)]) (.seq (.idx (.var 0) (.lit (.int 1)))) (.cons (.for_ (.nm 5) (.seq (.bin .add (.var 2) (.tup (.cons (.var 3) (.cons (.var 4) .nil))))) (.cons (.set 1 (.bin .fdiv (.bin .mul (.var 1) (.idx (.var 5) (.lit (.int 1)))) (.call "_law_gcd" F__law_gcd (.cons (.var 1) (.cons (.idx (.var 5) (.lit (.int 1))) .nil)))))
    .nil))
    .nil))
    (.cons (.ret (.var 1))
    .nil)))⟩
noncomputable def f__law_times_all : Fn := denDef (b__law_times_all f__law_gcd)
def b__law_whole (F__law_times : Fn) (F__law_taken : Fn) (F__law_times_all : Fn) : Def := ⟨1, 7,
    (.cons (.set 1 (.call "_law_times_all" F__law_times_all (.cons (.var 0) .nil)))
    (.cons (.set 2 (.bl .tuple (.cons (.lc (.tup (.cons (.call "_law_taken" F__law_taken (.cons (.tup (.cons (.var 1) (.cons (.lit (.int 1)) .nil))) (.cons (.var 4) .nil))) (.cons (.call "_law_times" F__law_times (.cons (.tup (.cons (.var 1) (.cons (.lit (.int 1)) .nil))) (.cons (.var 5) .nil))) (.cons (.call "_law_times" F__law_times (.cons (.tup (.cons (.var 1) (.cons (.lit (.int 1)) .nil))) (.cons (.var 6) .nil))) .nil)))) (.tup [(.nm 4), (.nm 5), (.nm 6)]) (.seq (.idx (.var 0) (.lit (.int 1)))) .none [4, 5, 6]) .nil)))
    (.cons (.set 3 (.tup (.cons (.bin .mul (.var 1) (.var 1)) (.cons (.lit (.int 1)) .nil))))
    (.cons (.ret (.tup (.cons (.var 1) (.cons (.tup (.cons (.idx (.var 0) (.lit (.int 0))) (.cons (.var 2) (.cons (.tup (.cons (.call "_law_taken" F__law_taken (.cons (.var 3) (.cons (.idx (.idx (.var 0) (.lit (.int 2))) (.lit (.int 0))) .nil))) (.cons (.call "_law_times" F__law_times (.cons (.var 3) (.cons (.idx (.idx (.var 0) (.lit (.int 2))) (.lit (.int 1))) .nil))) .nil))) .nil)))) .nil))))
    .nil))))⟩
noncomputable def f__law_whole : Fn := denDef (b__law_whole f__law_times f__law_taken f__law_times_all)
def b__law_net (F__law_draw_fr : Fn) (F__law_draw_row : Fn) (F__law_draw : Fn) (F__law_taken : Fn) (F__law_times : Fn) (F__law_pick : Fn) : Def := ⟨5, 11,
    (.cons (.set 5 (.lst .nil))
    (.cons (.for_ (.nm 6) (.rng (.cons (.call "_law_draw" F__law_draw (.cons (.var 0) (.cons (.bin .add (.var 2) (.lit (.int 1))) .nil))) .nil)) (.cons (.par 7 8 (.call "_law_draw_row" F__law_draw_row (.cons (.var 0) (.cons (.var 1) (.cons (.var 3) (.cons (.var 4) .nil))))) (.call "_law_draw_fr" F__law_draw_fr (.cons (.var 0) (.cons (.var 3) (.cons (.var 4) .nil)))))
    (.cons (.ite (.and (.cmp .ne (.var 5) (.lst .nil)) (.cmp .eq (.call "_law_draw" F__law_draw (.cons (.var 0) (.cons (.lit (.int 3)) .nil))) (.lit (.int 0)))) (.cons (.set 9 (.call "_law_pick" F__law_pick (.cons (.var 0) (.cons (.var 5) .nil))))
    (.cons (.set 10 (.call "_law_pick" F__law_pick (.cons (.var 0) (.cons (.lst (.cons (.tup (.cons (.lit (.int 1)) (.cons (.lit (.int 1)) .nil))) (.cons (.tup (.cons (.lit (.int 2)) (.cons (.lit (.int 1)) .nil))) (.cons (.tup (.cons (.lit (.int 1)) (.cons (.lit (.int 2)) .nil))) (.cons (.tup (.cons (.neg (.lit (.int 1))) (.cons (.lit (.int 1)) .nil))) (.cons (.tup (.cons (.neg (.lit (.int 1))) (.cons (.lit (.int 3)) .nil))) .nil)))))) .nil))))
    (.cons (.par 7 8 (.call "_law_taken" F__law_taken (.cons (.var 10) (.cons (.idx (.var 9) (.lit (.int 0))) .nil))) (.call "_law_times" F__law_times (.cons (.var 10) (.cons (.idx (.var 9) (.lit (.int 1))) .nil))))
    .nil))) .nil)
    (.cons (.ex (.meth .append (.var 5) (.cons (.tup (.cons (.var 7) (.cons (.var 8) (.cons (.call "_law_draw_fr" F__law_draw_fr (.cons (.var 0) (.cons (.var 3) (.cons (.var 4) .nil)))) .nil)))) .nil)))
    .nil))))
    (.cons (.ret (.tup (.cons (.var 1) (.cons (.bl .tuple (.cons (.var 5) .nil)) (.cons (.tup (.cons (.call "_law_draw_row" F__law_draw_row (.cons (.var 0) (.cons (.var 1) (.cons (.var 3) (.cons (.var 4) .nil))))) (.cons (.call "_law_draw_fr" F__law_draw_fr (.cons (.var 0) (.cons (.var 3) (.cons (.var 4) .nil)))) .nil))) .nil)))))
    .nil)))⟩
noncomputable def f__law_net : Fn := denDef (b__law_net f__law_draw_fr f__law_draw_row f__law_draw f__law_taken f__law_times f__law_pick)
def b__law_bag : Def := ⟨1, 4,
    (.cons (.set 1 (.bin .add (.lc (.bl .abs (.cons (.bl .int (.cons (.var 3) .nil)) .nil)) (.nm 3) (.seq (.var 0)) .none [3]) (.lst (.cons (.lit (.int 7)) .nil))))
    (.cons (.set 2 (.lst .nil))
    (.cons (.ite (.cmp .eq (.bin .mod (.bl .int (.cons (.idx (.var 1) (.lit (.int 0))) .nil)) (.lit (.int 2))) (.lit (.int 0))) (.cons (.set 2 (.lc (.bin .fdiv (.var 3) (.lit (.int 2))) (.nm 3) (.seq (.var 1)) (.some (.cmp .ge (.var 3) (.bin .pow (.lit (.int 10)) (.lit (.int 18))))) [3]))
    (.cons (.ex (.meth .reverse (.var 2) .nil))
    .nil)) .nil)
    (.cons (.ret (.lst (.cons (.lit (.int 0)) (.cons (.lit (.int 0)) (.cons (.var 2) (.cons (.lc (.bin .mod (.bl .int (.cons (.var 3) .nil)) (.lit (.int 2147483647))) (.nm 3) (.seq (.var 1)) .none [3]) .nil))))))
    .nil))))⟩
noncomputable def f__law_bag : Fn := denDef (b__law_bag )
def b_law (F__law_same : Fn) (F__law_bounds : Fn) (F_inner_bounds : Fn) (F__law_box : Fn) (F__law_answer : Fn) (F__law_times : Fn) (F__law_draw_row : Fn) (F_as_whole : Fn) (F__law_whole : Fn) (F__law_net : Fn) (F__law_pick : Fn) (F__law_draw : Fn) (F__law_bag : Fn) : Def := ⟨1, 10,
    (.cons (.set 1 (.call "_law_bag" F__law_bag (.cons (.var 0) .nil)))
    (.cons (.for_ (.nm 2) (.rng (.cons (.lit (.int 4)) .nil)) (.cons (.set 3 (.bin .add (.lit (.int 1)) (.call "_law_draw" F__law_draw (.cons (.var 1) (.cons (.lit (.int 4)) .nil)))))
    (.cons (.set 4 (.call "_law_net" F__law_net (.cons (.var 1) (.cons (.var 3) (.cons (.lit (.int 6)) (.cons (.lit (.int 5)) (.cons (.call "_law_pick" F__law_pick (.cons (.var 1) (.cons (.lst (.cons (.lst (.cons (.lit (.int 1)) .nil)) (.cons (.lst (.cons (.lit (.int 1)) (.cons (.lit (.int 2)) .nil))) (.cons (.lst (.cons (.lit (.int 2)) (.cons (.lit (.int 3)) (.cons (.lit (.int 4)) .nil)))) (.cons (.lst (.cons (.lit (.int 6)) (.cons (.lit (.int 10)) (.cons (.lit (.int 15)) .nil)))) (.cons (.lst (.cons (.lit (.int 1)) (.cons (.lit (.int 99991)) (.cons (.lit (.int 7)) .nil)))) .nil)))))) .nil))) .nil)))))))
    (.cons (.set 5 (.call "_law_whole" F__law_whole (.cons (.var 4) .nil)))
    (.cons (.set 6 (.ite (.cmp .gt (.var 2) (.lit (.int 0))) (.call "as_whole" F_as_whole (.cons (.var 4) .nil)) (.callK "as_whole" F_as_whole ["net"] [0] .nil (.cons (.var 4) .nil))))
    (.cons (.ite (.not (.call "_law_same" F__law_same (.cons (.var 6) (.cons (.var 5) .nil)))) (.cons (.ret (.lit (.bl false)))
    .nil) .nil)
    (.cons (.for_ (.nm 7) (.rng (.cons (.lit (.int 2)) .nil)) (.cons (.set 8 (.call "_law_draw_row" F__law_draw_row (.cons (.var 1) (.cons (.var 3) (.cons (.lit (.int 5)) (.cons (.lst (.cons (.lit (.int 1)) (.cons (.lit (.int 2)) .nil))) .nil))))))
    (.cons (.ite (.cmp .ne (.call "_law_answer" F__law_answer (.cons (.idx (.var 6) (.lit (.int 1))) (.cons (.var 8) .nil))) (.call "_law_times" F__law_times (.cons (.tup (.cons (.bin .mul (.idx (.var 5) (.lit (.int 0))) (.idx (.var 5) (.lit (.int 0)))) (.cons (.lit (.int 1)) .nil))) (.cons (.call "_law_answer" F__law_answer (.cons (.var 4) (.cons (.var 8) .nil))) .nil)))) (.cons (.ret (.lit (.bl false)))
    .nil) .nil)
    .nil)))
    (.cons (.set 9 (.call "_law_box" F__law_box (.cons (.var 1) (.cons (.var 3) .nil))))
    (.cons (.ite (.not (.call "_law_same" F__law_same (.cons (.ite (.cmp .gt (.var 2) (.lit (.int 0))) (.call "inner_bounds" F_inner_bounds (.cons (.var 4) (.cons (.var 9) .nil))) (.callK "inner_bounds" F_inner_bounds ["box", "net"] [1, 0] .nil (.cons (.var 9) (.cons (.var 4) .nil)))) (.cons (.call "_law_bounds" F__law_bounds (.cons (.var 4) (.cons (.var 9) .nil))) .nil)))) (.cons (.ret (.lit (.bl false)))
    .nil) .nil)
    .nil)))))))))
    (.cons (.ret (.lit (.bl true)))
    .nil)))⟩
noncomputable def f_law : Fn := denDef (b_law (f__law_same 7) f__law_bounds f_inner_bounds f__law_box f__law_answer f__law_times f__law_draw_row f_as_whole f__law_whole f__law_net f__law_pick f__law_draw f__law_bag)
end Law
end
section
set_option Elab.async false
set_option linter.all false
set_option maxRecDepth 100000
set_option autoImplicit false
set_option exponentiation.threshold 20000
namespace Law
open Calc

theorem rng20000 : ∃ its : List D, its.length = 20000 ∧ rngOf [.int 20000] = some ⟨its, []⟩ := ⟨_, by rw [List.length_map, List.length_range], rng_at (n := 20000) (by decide)⟩
theorem gcd_ok (a b : Int) (st : Store) (ha : Sm 9000 a) (hb : Sm 9000 b) : f__law_gcd [.int a, .int b] st = some (.int (Int.gcd a b : Nat), st) := by
  obtain ⟨its, hl, hr⟩ := rng20000
  obtain ⟨y, hy⟩ := euclid_for' (ok := Walk.ok ⟨its, []⟩) (fun _ => rfl) (body := fun env st => denSs (b__law_gcd.body.nth 1).bd env st)
    (fun a b i st => by
      by_cases h : b = 0
      · simp [-Option.some.injEq, -Prod.mk.injEq, denS, denE, denEs, denT, denO, denTs, denSrc, bltn, binop, cmpop, eqv_int, abs_int, index, seqOf, atI, ixI, asTr, truth, fr, b__law_gcd, Ss.nth, S.bd, denSs, h]
      · simp [-Option.some.injEq, -Prod.mk.injEq, denS, denE, denEs, denT, denO, denTs, denSrc, bltn, binop, cmpop, eqv_int, abs_int, index, seqOf, atI, ixI, asTr, truth, fr, b__law_gcd, Ss.nth, S.bd, denSs, h]) a.natAbs b.natAbs its none st ha hb (by omega)
  refine def_pure (env0 := [_, _, _]) rfl rfl (ss_next (by simp [-Option.some.injEq, -Prod.mk.injEq, denS, denE, denEs, denT, denO, denTs, denSrc, bltn, binop, cmpop, eqv_int, abs_int, index, seqOf, atI, ixI, asTr, truth, fr] <;> rfl) (ss_next (s_for (by simp [-Option.some.injEq, -Prod.mk.injEq, denS, denE, denEs, denT, denO, denTs, denSrc, bltn, binop, cmpop, eqv_int, abs_int, index, seqOf, atI, ixI, asTr, truth, fr, hr] <;> rfl) hy) (ss_ret (s_ret (by simp [-Option.some.injEq, -Prod.mk.injEq, denS, denE, denEs, denT, denO, denTs, denSrc, bltn, binop, cmpop, eqv_int, abs_int, index, seqOf, atI, ixI, asTr, truth, fr] <;> rfl)))))
theorem law_fr_ok (a b : Int) (st : Store) (ha : Sm 9000 a) (hb : Sm 8999 b) (h : 0 < b) : f__law_fr [.int a, .int b] st = some (fr (Rat.divInt a b), st) := by
  have hg := gcd_ok a b st ha (hb.up (by omega))
  have g0 : (Int.gcd a b : Int) ≠ 0 := by
    have := Int.gcd_pos_of_ne_zero_right a (show b ≠ 0 by omega)
    omega
  have gd : divOk (Int.gcd a b : Nat) = true := divOk_of (k := 8999) (by
    unfold Sm at *
    rw [Int.natAbs_natCast]
    have : Int.gcd a b ≤ b.natAbs := Nat.le_of_dvd (by omega) (Nat.gcd_dvd_right _ _)
    omega) (by decide) g0
  rw [fr_div h]
  refine def_pure (env0 := [_, _, _]) rfl rfl (ss_next (by simp [-Option.some.injEq, -Prod.mk.injEq, denS, denE, denEs, denT, denO, denTs, denSrc, bltn, binop, cmpop, eqv_int, abs_int, index, seqOf, atI, ixI, asTr, truth, fr, h, hg] <;> rfl) (ss_ret (s_ret (by simp [-Option.some.injEq, -Prod.mk.injEq, denS, denE, denEs, denT, denO, denTs, denSrc, bltn, binop, cmpop, eqv_int, abs_int, index, seqOf, atI, ixI, asTr, truth, fr, gd, SZ] <;> rfl))))
theorem law_plus_ok (p q : Rat) (st : Store) (hp : Bd p) (hq : Bd q) : f__law_plus [fr p, fr q] st = some (fr (p + q), st) := by
  rw [← add_div p q]
  have h1 := law_fr_ok (p.num * q.den + q.num * p.den) (p.den * q.den) st (((hp.num.mul hq.den).add (hq.num.mul hp.den)).up (by decide)) (((hp.den.mul hq.den)).up (by decide)) (Int.mul_pos (den_pos' p) (den_pos' q))
  have m1 := mulOk_of hp.num hq.den (by decide)
  have m2 := mulOk_of hq.num hp.den (by decide)
  have m3 := mulOk_of hp.den hq.den (by decide)
  exact def_pure (env0 := [_, _]) rfl rfl (ss_ret (s_ret (by simp [-Option.some.injEq, -Prod.mk.injEq, denS, denE, denEs, denT, denO, denTs, denSrc, bltn, binop, cmpop, eqv_int, abs_int, index, seqOf, atI, ixI, asTr, truth, fr, m1, m2, m3, h1] <;> rfl)))
theorem law_times_ok (p q : Rat) (st : Store) (hp : Bd p) (hq : Bd q) : f__law_times [fr p, fr q] st = some (fr (p * q), st) := by
  rw [← mul_div p q]
  have h1 := law_fr_ok (p.num * q.num) (p.den * q.den) st ((hp.num.mul hq.num).up (by decide)) (((hp.den.mul hq.den)).up (by decide)) (Int.mul_pos (den_pos' p) (den_pos' q))
  have m1 := mulOk_of hp.num hq.num (by decide)
  have m3 := mulOk_of hp.den hq.den (by decide)
  exact def_pure (env0 := [_, _]) rfl rfl (ss_ret (s_ret (by simp [-Option.some.injEq, -Prod.mk.injEq, denS, denE, denEs, denT, denO, denTs, denSrc, bltn, binop, cmpop, eqv_int, abs_int, index, seqOf, atI, ixI, asTr, truth, fr, m1, m3, h1] <;> rfl)))
theorem divisor_ok (a b : Int) (st : Store) : f_divisor [.int a, .int b] st = some (.int (Int.gcd a b : Nat), st) := by
  have hy := euclid_while (f := fun env st => bnd (denT (.var 1) env st) fun k st1 => if k = true then denSs (b_divisor.body.nth 1).bd env st1 else some (.brk, env, st1))
    (fun a b st => by
      by_cases h : b = 0
      · simp [-Option.some.injEq, -Prod.mk.injEq, denS, denE, denEs, denT, denO, denTs, denSrc, bltn, binop, cmpop, eqv_int, abs_int, index, seqOf, atI, ixI, asTr, truth, fr, h]
      · simp [-Option.some.injEq, -Prod.mk.injEq, denS, denE, denEs, denT, denO, denTs, denSrc, bltn, binop, cmpop, eqv_int, abs_int, index, seqOf, atI, ixI, asTr, truth, fr, b_divisor, Ss.nth, S.bd, denSs, h]) b.natAbs a.natAbs st
  exact def_pure (env0 := [_, _]) rfl rfl (ss_next (by simp [-Option.some.injEq, -Prod.mk.injEq, denS, denE, denEs, denT, denO, denTs, denSrc, bltn, binop, cmpop, eqv_int, abs_int, index, seqOf, atI, ixI, asTr, truth, fr] <;> rfl) (ss_next (s_whl hy) (ss_ret (s_ret (by simp [-Option.some.injEq, -Prod.mk.injEq, denS, denE, denEs, denT, denO, denTs, denSrc, bltn, binop, cmpop, eqv_int, abs_int, index, seqOf, atI, ixI, asTr, truth, fr] <;> rfl)))))
theorem lowest_ok (a b : Int) (st : Store) (hb : Sm 8999 b) (h : 0 < b) : f_lowest [.int a, .int b] st = some (fr (Rat.divInt a b), st) := by
  have hg := divisor_ok a b st
  have g0 : (Int.gcd a b : Int) ≠ 0 := by
    have := Int.gcd_pos_of_ne_zero_right a (show b ≠ 0 by omega)
    omega
  have gd : divOk (Int.gcd a b : Nat) = true := divOk_of (k := 8999) (by
    unfold Sm at *
    rw [Int.natAbs_natCast]
    have : Int.gcd a b ≤ b.natAbs := Nat.le_of_dvd (by omega) (Nat.gcd_dvd_right _ _)
    omega) (by decide) g0
  have h' : ¬ b < 0 := by omega
  rw [fr_div h]
  refine def_pure (env0 := [_, _, _]) rfl rfl (ss_next (by simp [-Option.some.injEq, -Prod.mk.injEq, denS, denE, denEs, denT, denO, denTs, denSrc, bltn, binop, cmpop, eqv_int, abs_int, index, seqOf, atI, ixI, asTr, truth, fr, hg] <;> rfl) (ss_next (s_iteF (by simp [-Option.some.injEq, -Prod.mk.injEq, denS, denE, denEs, denT, denO, denTs, denSrc, bltn, binop, cmpop, eqv_int, abs_int, index, seqOf, atI, ixI, asTr, truth, fr, h'] <;> rfl) ss_nil) (ss_ret (s_ret (by simp [-Option.some.injEq, -Prod.mk.injEq, denS, denE, denEs, denT, denO, denTs, denSrc, bltn, binop, cmpop, eqv_int, abs_int, index, seqOf, atI, ixI, asTr, truth, fr, gd, SZ] <;> rfl)))))
end Law
end
section
set_option Elab.async false
set_option linter.all false
set_option maxRecDepth 100000
set_option autoImplicit false
set_option exponentiation.threshold 20000
namespace Law
open Calc

theorem product_ok (p q : Rat) (st : Store) (hp : Bd p) (hq : Bd q) : f_product [fr p, fr q] st = some (fr (p * q), st) := by
  rw [← mul_div p q]
  have h1 := lowest_ok (p.num * q.num) (p.den * q.den) st (((hp.den.mul hq.den)).up (by decide)) (Int.mul_pos (den_pos' p) (den_pos' q))
  have m1 := mulOk_of hp.num hq.num (by decide)
  have m3 := mulOk_of hp.den hq.den (by decide)
  exact def_pure (env0 := [_, _]) rfl rfl (ss_ret (s_ret (by simp [-Option.some.injEq, -Prod.mk.injEq, denS, denE, denEs, denT, denO, denTs, denSrc, bltn, binop, cmpop, eqv_int, abs_int, index, seqOf, atI, ixI, asTr, truth, fr, m1, m3, h1] <;> rfl)))
theorem plus_ok (p q : Rat) (st : Store) (hp : Bd p) (hq : Bd q) : f_plus [fr p, fr q] st = some (fr (p + q), st) := by
  by_cases h0 : p.num = 0
  · have e : p = 0 := Rat.num_eq_zero.mp h0
    rw [e, Rat.zero_add]
    exact def_pure (env0 := [_, _]) rfl rfl (ss_ret (s_iteT (by simp [-Option.some.injEq, -Prod.mk.injEq, denS, denE, denEs, denT, denO, denTs, denSrc, bltn, binop, cmpop, eqv_int, abs_int, index, seqOf, atI, ixI, asTr, truth, fr] <;> rfl) (ss_ret (s_ret (by simp [-Option.some.injEq, -Prod.mk.injEq, denS, denE, denEs, denT, denO, denTs, denSrc, bltn, binop, cmpop, eqv_int, abs_int, index, seqOf, atI, ixI, asTr, truth, fr] <;> rfl)))))
  by_cases h1 : q.num = 0
  · have e : q = 0 := Rat.num_eq_zero.mp h1
    rw [e, Rat.add_zero]
    exact def_pure (env0 := [_, _]) rfl rfl (ss_next (s_iteF (by simp [-Option.some.injEq, -Prod.mk.injEq, denS, denE, denEs, denT, denO, denTs, denSrc, bltn, binop, cmpop, eqv_int, abs_int, index, seqOf, atI, ixI, asTr, truth, fr, h0] <;> rfl) ss_nil) (ss_ret (s_iteT (by simp [-Option.some.injEq, -Prod.mk.injEq, denS, denE, denEs, denT, denO, denTs, denSrc, bltn, binop, cmpop, eqv_int, abs_int, index, seqOf, atI, ixI, asTr, truth, fr] <;> rfl) (ss_ret (s_ret (by simp [-Option.some.injEq, -Prod.mk.injEq, denS, denE, denEs, denT, denO, denTs, denSrc, bltn, binop, cmpop, eqv_int, abs_int, index, seqOf, atI, ixI, asTr, truth, fr] <;> rfl))))))
  rw [← add_div p q]
  have h2 := lowest_ok (p.num * q.den + q.num * p.den) (p.den * q.den) st (((hp.den.mul hq.den)).up (by decide)) (Int.mul_pos (den_pos' p) (den_pos' q))
  have m1 := mulOk_of hp.num hq.den (by decide)
  have m2 := mulOk_of hq.num hp.den (by decide)
  have m3 := mulOk_of hp.den hq.den (by decide)
  exact def_pure (env0 := [_, _]) rfl rfl (ss_next (s_iteF (by simp [-Option.some.injEq, -Prod.mk.injEq, denS, denE, denEs, denT, denO, denTs, denSrc, bltn, binop, cmpop, eqv_int, abs_int, index, seqOf, atI, ixI, asTr, truth, fr, h0] <;> rfl) ss_nil) (ss_next (s_iteF (by simp [-Option.some.injEq, -Prod.mk.injEq, denS, denE, denEs, denT, denO, denTs, denSrc, bltn, binop, cmpop, eqv_int, abs_int, index, seqOf, atI, ixI, asTr, truth, fr, h1] <;> rfl) ss_nil) (ss_ret (s_ret (by simp [-Option.some.injEq, -Prod.mk.injEq, denS, denE, denEs, denT, denO, denTs, denSrc, bltn, binop, cmpop, eqv_int, abs_int, index, seqOf, atI, ixI, asTr, truth, fr, m1, m2, m3, h2] <;> rfl)))))
theorem is_less_ok (p q : Rat) (st : Store) (hp : Bd p) (hq : Bd q) : f_is_less [fr p, fr q] st = some (.bl (decide (p < q)), st) := by
  have m1 := mulOk_of hp.num hq.den (by decide)
  have m2 := mulOk_of hq.num hp.den (by decide)
  have e : decide (p < q) = decide (p.num * q.den < q.num * p.den) := by rw [decide_eq_decide]; exact Rat.lt_iff p q
  rw [e]
  exact def_pure (env0 := [_, _]) rfl rfl (ss_ret (s_ret (by simp [-Option.some.injEq, -Prod.mk.injEq, denS, denE, denEs, denT, denO, denTs, denSrc, bltn, binop, cmpop, eqv_int, abs_int, index, seqOf, atI, ixI, asTr, truth, fr, m1, m2] <;> rfl)))
theorem greater_ok (p q : Rat) (st : Store) (hp : Bd p) (hq : Bd q) : f_greater_of [fr p, fr q] st = some (fr (if p < q then q else p), st) := by
  have h := is_less_ok p q st hp hq
  simp only [fr] at h
  by_cases hl : p < q
  · rw [if_pos hl]
    rw [decide_eq_true hl] at h
    exact def_pure (env0 := [_, _]) rfl rfl (ss_ret (s_ret (by simp [-Option.some.injEq, -Prod.mk.injEq, denS, denE, denEs, denT, denO, denTs, denSrc, bltn, binop, cmpop, eqv_int, abs_int, index, seqOf, atI, ixI, asTr, truth, fr, h] <;> rfl)))
  · rw [if_neg hl]
    rw [decide_eq_false hl] at h
    exact def_pure (env0 := [_, _]) rfl rfl (ss_ret (s_ret (by simp [-Option.some.injEq, -Prod.mk.injEq, denS, denE, denEs, denT, denO, denTs, denSrc, bltn, binop, cmpop, eqv_int, abs_int, index, seqOf, atI, ixI, asTr, truth, fr, h] <;> rfl)))
theorem multiple_ok (a b : Nat) (st : Store) (ha : Sm 4000 (a : Int)) (hb : Sm 4000 (b : Int)) (h : 0 < b) : f_multiple [.int a, .int b] st = some (.int (Nat.lcm a b : Nat), st) := by
  have hg := divisor_ok a b st
  have e0 : Int.gcd (a : Int) (b : Int) = Nat.gcd a b := by simp [-Option.some.injEq, -Prod.mk.injEq, denS, denE, denEs, denT, denO, denTs, denSrc, bltn, binop, cmpop, eqv_int, abs_int, index, seqOf, atI, ixI, asTr, truth, fr]
  rw [e0] at hg
  have g0 : 0 < Nat.gcd a b := Nat.gcd_pos_of_pos_right _ h
  have gd : divOk (Nat.gcd a b : Nat) = true := divOk_of (k := 4000) (by
    unfold Sm at *
    rw [Int.natAbs_natCast] at *
    have : Nat.gcd a b ≤ b := Nat.le_of_dvd h (Nat.gcd_dvd_right _ _)
    omega) (by decide) (by omega)
  have e1 : (a : Int).fdiv (Nat.gcd a b : Nat) = ((a / Nat.gcd a b : Nat) : Int) := by
    rw [Int.fdiv_eq_ediv_of_nonneg _ (by omega), Int.natCast_ediv]
  have m : mulOk ((a / Nat.gcd a b : Nat) : Int) b = true := mulOk_of (k := 4000) (m := 4000) (by
    unfold Sm at *
    rw [Int.natAbs_natCast] at *
    exact Nat.lt_of_le_of_lt (Nat.div_le_self _ _) ha) hb (by decide)
  have e2 : ((a / Nat.gcd a b : Nat) : Int) * (b : Int) = (Nat.lcm a b : Nat) := by
    rw [← Int.natCast_mul]
    congr 1
    unfold Nat.lcm
    rw [Nat.div_mul_right_comm (Nat.gcd_dvd_left _ _)]
  rw [← e2]
  have m' : mulOk ((a : Int).fdiv (Nat.gcd a b : Nat)) b = true := by rw [e1]; exact m
  rw [← e1]
  exact def_pure (env0 := [_, _]) rfl rfl (ss_ret (s_ret (by simp [-Option.some.injEq, -Prod.mk.injEq, denS, denE, denEs, denT, denO, denTs, denSrc, bltn, binop, cmpop, eqv_int, abs_int, index, seqOf, atI, ixI, asTr, truth, fr, hg, gd, m'] <;> rfl)))

/-! ### rows -/
def row (a : List Rat) : D := .tup (a.map fr)

theorem dot_step (a x : List Rat) (i : Nat) (T u v : Rat) (y : Option D) (st : Store) (i1 : index (row a) (.int i) st = some (fr u)) (i2 : index (row x) (.int i) st = some (fr v)) (t1 : f__law_times [fr u, fr v] st = some (fr (u * v), st)) (t2 : f__law_plus [fr T, fr (u * v)] st = some (fr (T + u * v), st)) :
    denSs ((b__law_dot f__law_plus f__law_times).body.nth 1).bd [some (row a), some (row x), some (fr T), some (.int i)] st = some (.next, [some (row a), some (row x), some (fr (T + u * v)), some (.int i)], st) := by
  show denSs (.cons (.set 2 _) .nil) _ _ = _
  refine ss_next (env' := [some (row a), some (row x), some (fr (T + u * v)), some (.int i)]) (st' := st) ?_ ss_nil
  simp only [denS, denE, denEs, bnd_some, List.getElem?_cons_zero, List.getElem?_cons_succ, i1, i2, t1, t2, List.length_cons, List.length_nil]
  rfl

theorem dot_ok {a x : List Rat} {M M' A X m : Nat} (hm : m + m ≤ 2000) (st : Store) (hM : 0 < M) (hM' : 0 < M') (ha : ∀ q ∈ a, Bq M A q) (hx : ∀ q ∈ x, Bq M' X q) (hl : a.length ≤ x.length) (hn : a.length < 2 ^ 62) (h1 : M * M' < 2 ^ m) (h2 : (a.length + 1) * (A * X + 1) < 2 ^ m) (h3 : M < 2 ^ m) (h4 : M' < 2 ^ m) (h5 : A < 2 ^ m) (h6 : X < 2 ^ m) :
    f__law_dot [row a, row x] st = some (fr (dotQ a x), st) := by
  have hr : rngOf [.int a.length] = some ⟨(List.range a.length).map fun (i : Nat) => D.int (i : Int), []⟩ := rng_at hn
  have hMM : 0 < M * M' := Nat.mul_pos hM hM'
  have hax : A * X < 2 ^ m := by
    have : 1 * (A * X + 1) ≤ (a.length + 1) * (A * X + 1) := Nat.mul_le_mul_right _ (by omega)
    omega
  have tot : ∀ k, k ≤ a.length → Bd (dotTo a x k) := fun k hk => by
    have hb := dotTo_bq hMM ha hx k hk (by omega)
    refine hb.bd h1 (Nat.lt_of_le_of_lt ?_ h2) hm
    exact Nat.mul_le_mul (by omega) (by omega)
  generalize hits : ((List.range a.length).map fun (i : Nat) => D.int (i : Int)) = its at hr
  have hil : its.length = a.length := by rw [← hits, List.length_map, List.length_range]
  obtain ⟨env', st', e1, y, rfl, rfl⟩ := for_inv (ok := Walk.ok ⟨its, []⟩) (t := .nm 3) (body := fun env st => denSs ((b__law_dot f__law_plus f__law_times).body.nth 1).bd env st)
    (fun i env st' => ∃ y, env = [some (row a), some (row x), some (fr (dotTo a x i)), y] ∧ st' = st) (items := its) (env := [some (row a), some (row x), some (fr 0), none]) (st := st) ⟨none, rfl, rfl⟩
    (fun i d env st' hd hI => by
      rw [← hits] at hd
      obtain ⟨hi, rfl⟩ := range_at hd
      obtain ⟨y, rfl, rfl⟩ := hI
      refine ⟨rfl, [some (row a), some (row x), some (fr (dotTo a x i)), some (.int i)], [some (row a), some (row x), some (fr (dotTo a x (i + 1))), some (.int i)], st', rfl, ?_, _, rfl, rfl⟩
      have g1 : (a.map fr)[i]? = some (fr a[i]) := by rw [List.getElem?_map, List.getElem?_eq_getElem hi]; rfl
      have g2 : (x.map fr)[i]? = some (fr x[i]) := by rw [List.getElem?_map, List.getElem?_eq_getElem (by omega)]; rfl
      have i1 : index (row a) (.int i) st' = some (fr a[i]) := by show atI (a.map fr) i = _; exact atI_nat g1
      have i2 : index (row x) (.int i) st' = some (fr x[i]) := by show atI (x.map fr) i = _; exact atI_nat g2
      have b1 := ha a[i] (List.getElem_mem _)
      have b2 := hx x[i] (List.getElem_mem _)
      have t1 := law_times_ok a[i] x[i] st' (b1.bd h3 h5 hm) (b2.bd h4 h6 hm)
      have t2 := law_plus_ok (dotTo a x i) (a[i] * x[i]) st' (tot i (by omega)) ((b1.mul b2).bd h1 hax hm)
      have e3 : dotTo a x (i + 1) = dotTo a x i + a[i] * x[i] := by
        show dotTo a x i + a.getD i 0 * x.getD i 0 = _
        rw [List.getD_eq_getElem?_getD, List.getElem?_eq_getElem hi, List.getD_eq_getElem?_getD, List.getElem?_eq_getElem (by omega)]; rfl
      rw [e3]
      exact dot_step a x i _ _ _ y st' i1 i2 t1 t2)
    (fun _ _ _ => rfl)
  rw [hil] at e1
  have hlen : (bltn .len [row a] st') = some (.int a.length, st') := by show some (D.int ((a.map fr).length : Nat), st') = _; rw [List.length_map]
  refine def_pure (env0 := [_, _, _, _]) rfl rfl (ss_next (env' := [some (row a), some (row x), some (fr 0), none]) (st' := st') ?_ (ss_next (s_for (w := ⟨its, []⟩) (st' := st') ?_ e1) (ss_ret (s_ret ?_))))
  · rw [fr_zero]; simp [-Option.some.injEq, -Prod.mk.injEq, denS, denE, denEs, denT, denO, denTs, denSrc, bltn, binop, cmpop, eqv_int, abs_int, index, seqOf, atI, ixI, asTr, truth, fr, SZ]
  · exact s_rng (by simp only [denE, denEs, bnd_some, List.getElem?_cons_zero, hlen]) hr
  · simp only [denE, List.getElem?_cons_zero, List.getElem?_cons_succ]; rfl
end Law
end
section
set_option Elab.async false
set_option linter.all false
set_option maxRecDepth 100000
set_option autoImplicit false
set_option exponentiation.threshold 20000
namespace Law
open Calc

theorem under_frs (n : Nat) : ∀ a : List Rat, D.unders n (a.map fr) = true
  | [] => rfl
  | q :: a => by
    show (D.under n (fr q) && D.unders n (a.map fr)) = true
    rw [under_frs n a]; rfl
theorem under_row (n : Nat) (a : List Rat) : D.under n (row a) = true := under_frs n a
theorem row_scale (t : Rat) (a : List Rat) : row (scaleL t a) = .tup (a.map fun q => fr (t * q)) := by
  unfold row scaleL
  rw [List.map_map]; rfl
theorem taken_ok {t : Rat} {a : List Rat} (st : Store) (ht : Bd t) (ha : ∀ q ∈ a, Bd q) (hl : a.length ≤ SZ) : f__law_taken [fr t, row a] st = some (row (scaleL t a), st) := by
  have hc := comp_map (ok := Walk.ok ⟨a.map fr, []⟩) (t := .nm 2) (env := [some (fr t), some (row a), none]) (test := fun env1 st2 => denTs .none env1 st2) (elt := fun env1 st2 => denE (.call "_law_times" f__law_times (.cons (.var 0) (.cons (.var 2) .nil))) env1 st2)
    (fun q => fr (t * q)) fr st rfl a [] (fun q hq => ⟨[some (fr t), some (row a), some (fr q)], rfl, by simp only [denTs], by
      have h := law_times_ok t q st ht (ha q hq)
      simp [-Option.some.injEq, -Prod.mk.injEq, denS, denE, denEs, denT, denO, denTs, denSrc, bltn, binop, cmpop, eqv_int, abs_int, index, seqOf, atI, ixI, asTr, truth, h]⟩) (by simpa [-Option.some.injEq, -Prod.mk.injEq, denS, denE, denEs, denT, denO, denTs, denSrc, bltn, binop, cmpop, eqv_int, abs_int, index, seqOf, atI, ixI, asTr, truth] using hl)
  rw [row_scale]
  rw [List.nil_append] at hc
  refine def_app (env0 := [some (fr t), some (row a), none]) rfl rfl (ss_ret (s_ret (e_lcTup (w := ⟨a.map fr, []⟩) (s_seqT (by simp [-Option.some.injEq, -Prod.mk.injEq, denS, denE, denEs, denT, denO, denTs, denSrc, bltn, binop, cmpop, eqv_int, abs_int, index, seqOf, atI, ixI, asTr, truth] <;> rfl)) hc))) ?_
  rw [← row_scale]
  exact under_row _ _
theorem scaled_ok {t : Rat} {a : List Rat} (st : Store) (ht : Bd t) (ha : ∀ q ∈ a, Bd q) (hl : a.length ≤ SZ) : f_scaled_row [fr t, row a] st = some (row (scaleL t a), st) := by
  have hc := comp_map (ok := Walk.ok ⟨a.map fr, []⟩) (t := .nm 2) (env := [some (fr t), some (row a), none]) (test := fun env1 st2 => denTs .none env1 st2) (elt := fun env1 st2 => denE (.call "product" f_product (.cons (.var 0) (.cons (.var 2) .nil))) env1 st2)
    (fun q => fr (t * q)) fr st rfl a [] (fun q hq => ⟨[some (fr t), some (row a), some (fr q)], rfl, by simp only [denTs], by
      have h := product_ok t q st ht (ha q hq)
      simp [-Option.some.injEq, -Prod.mk.injEq, denS, denE, denEs, denT, denO, denTs, denSrc, bltn, binop, cmpop, eqv_int, abs_int, index, seqOf, atI, ixI, asTr, truth, h]⟩) (by simpa [-Option.some.injEq, -Prod.mk.injEq, denS, denE, denEs, denT, denO, denTs, denSrc, bltn, binop, cmpop, eqv_int, abs_int, index, seqOf, atI, ixI, asTr, truth] using hl)
  rw [row_scale]
  rw [List.nil_append] at hc
  exact def_pure (env0 := [some (fr t), some (row a), none]) rfl rfl (ss_ret (s_ret (e_genTup (w := ⟨a.map fr, []⟩) (s_seqT (by simp [-Option.some.injEq, -Prod.mk.injEq, denS, denE, denEs, denT, denO, denTs, denSrc, bltn, binop, cmpop, eqv_int, abs_int, index, seqOf, atI, ixI, asTr, truth] <;> rfl)) hc)))

/-! ### denominators -/
def dens (a : List Rat) : List Nat := a.map Rat.den
theorem take_succ_dens {a : List Rat} {i : Nat} {q : Rat} (h : a[i]? = some q) : (dens a).take (i + 1) = (dens a).take i ++ [q.den] := by
  unfold dens
  rw [List.take_add_one, List.getElem?_map, h]; rfl
theorem dens_dvd {M : Nat} {a : List Rat} {s : Nat} (hs : s ∣ M) (ha : ∀ q ∈ a, q.den ∣ M) (i : Nat) : lcmL s ((dens a).take i) ∣ M :=
  lcmL_dvd hs fun x hx => by
    obtain ⟨q, hq, rfl⟩ := List.mem_map.mp (List.mem_of_mem_take hx)
    exact ha q hq
theorem sm_dvd {M x k : Nat} (hM : 0 < M) (h : M < 2 ^ k) (hx : x ∣ M) : Sm k (x : Int) := by
  unfold Sm
  rw [Int.natAbs_natCast]
  exact Nat.lt_of_le_of_lt (Nat.le_of_dvd hM hx) h
theorem common_ok {M : Nat} {a : List Rat} (st : Store) (hM : 0 < M) (hs : M < 2 ^ 4000) (ha : ∀ q ∈ a, q.den ∣ M) : f_common_below [row a] st = some (.int (lcmL 1 (dens a) : Nat), st) := by
  obtain ⟨env', st', e1, y, z, rfl, rfl⟩ := for_inv (ok := Walk.ok ⟨a.map fr, []⟩) (t := .tup [.nm 2, .nm 3]) (body := fun env st => denSs ((b_common_below f_multiple).body.nth 1).bd env st)
    (fun i env st' => ∃ y z, env = [some (row a), some (.int (lcmL 1 ((dens a).take i) : Nat)), y, z] ∧ st' = st) (items := a.map fr) (env := [some (row a), some (.int 1), none, none]) (st := st) ⟨none, none, rfl, rfl⟩
    (fun i d env st' hd hI => by
      obtain ⟨q, hq, rfl⟩ := map_at hd
      obtain ⟨y, z, rfl, rfl⟩ := hI
      refine ⟨rfl, [some (row a), some (.int (lcmL 1 ((dens a).take i) : Nat)), some (.int q.num), some (.int q.den)], [some (row a), some (.int (lcmL 1 ((dens a).take (i + 1)) : Nat)), some (.int q.num), some (.int q.den)], st', rfl, ?_, _, _, rfl, rfl⟩
      have h := multiple_ok (lcmL 1 ((dens a).take i)) q.den st' (sm_dvd hM hs (dens_dvd (Nat.one_dvd _) ha i)) (sm_dvd hM hs (ha q (List.mem_of_getElem? hq))) q.den_pos
      rw [take_succ_dens hq, lcmL_app]
      show denSs (.cons (.set 1 _) .nil) _ _ = _
      refine ss_next ?_ ss_nil
      simp [-Option.some.injEq, -Prod.mk.injEq, denS, denE, denEs, denT, denO, denTs, denSrc, bltn, binop, cmpop, eqv_int, abs_int, index, seqOf, atI, ixI, asTr, truth, h]
      rfl)
    (fun _ _ _ => rfl)
  have hlen : (a.map fr).length = (dens a).length := by unfold dens; rw [List.length_map, List.length_map]
  rw [hlen, List.take_length] at e1
  exact def_pure (env0 := [_, _, _, _]) rfl rfl (ss_next (by simp [-Option.some.injEq, -Prod.mk.injEq, denS, denE, denEs, denT, denO, denTs, denSrc, bltn, binop, cmpop, eqv_int, abs_int, index, seqOf, atI, ixI, asTr, truth] <;> rfl) (ss_next (s_for (w := ⟨a.map fr, []⟩) (s_seqT (by simp [-Option.some.injEq, -Prod.mk.injEq, denS, denE, denEs, denT, denO, denTs, denSrc, bltn, binop, cmpop, eqv_int, abs_int, index, seqOf, atI, ixI, asTr, truth] <;> rfl)) e1) (ss_ret (s_ret (by simp [-Option.some.injEq, -Prod.mk.injEq, denS, denE, denEs, denT, denO, denTs, denSrc, bltn, binop, cmpop, eqv_int, abs_int, index, seqOf, atI, ixI, asTr, truth] <;> rfl)))))

/-! ### nets -/
abbrev Hg := List Rat × Rat × Rat
def hd (h : Hg) : D := .tup [row h.1, fr h.2.1, fr h.2.2]
def hall (h : Hg) : List Rat := h.1 ++ [h.2.1, h.2.2]
def netD (n : Nat) (hs : List Hg) (d : List Rat) (e : Rat) : D := .tup [.int n, .tup (hs.map hd), .tup [row d, fr e]]
def scaleH (t : Rat) (h : Hg) : Hg := (scaleL t h.1, t * h.2.1, t * h.2.2)
def timesTo (hs : List Hg) (i : Nat) : Nat := (hs.take i).foldl (fun s h => lcmL s (dens (hall h))) 1
def timesQ (hs : List Hg) : Nat := timesTo hs hs.length
theorem timesTo_succ {hs : List Hg} {i : Nat} {h : Hg} (e : hs[i]? = some h) : timesTo hs (i + 1) = lcmL (timesTo hs i) (dens (hall h)) := by
  unfold timesTo
  rw [List.take_add_one, e, Option.toList_some, List.foldl_append]; rfl
theorem timesTo_dvd {M : Nat} {hs : List Hg} (hh : ∀ h ∈ hs, ∀ q ∈ hall h, q.den ∣ M) : ∀ i : Nat, timesTo hs i ∣ M
  | 0 => Nat.one_dvd _
  | i + 1 => by
    cases e : hs[i]? with
    | none =>
      have hl := List.getElem?_eq_none_iff.mp e
      have : timesTo hs (i + 1) = timesTo hs i := by unfold timesTo; rw [List.take_of_length_le (by omega), List.take_of_length_le hl]
      rw [this]; exact timesTo_dvd hh i
    | some h =>
      rw [timesTo_succ e]
      have := dens_dvd (timesTo_dvd hh i) (hh h (List.mem_of_getElem? e)) (dens (hall h)).length
      rwa [List.take_length] at this
theorem add_rows (h : Hg) (st : Store) (hl : h.1.length + 2 ≤ SZ) : binop .add (row h.1) (.tup [fr h.2.1, fr h.2.2]) st = some (row (hall h), st) := by
  unfold row hall
  show (if (h.1.map fr).length + [fr h.2.1, fr h.2.2].length ≤ SZ then _ else _) = _
  rw [if_pos (by rw [List.length_map]; exact hl), List.map_append]; rfl
end Law
end
section
set_option Elab.async false
set_option linter.all false
set_option maxRecDepth 100000
set_option autoImplicit false
set_option exponentiation.threshold 20000
namespace Law
open Calc

/-- the check of sizes for a net: M, B -/
structure NetOk (M B m : Nat) (n : Nat) (hs : List Hg) (d : List Rat) (e : Rat) : Prop where
  pos : 0 < M
  sM : M < 2 ^ m
  sB : B < 2 ^ m
  hb : ∀ h ∈ hs, ∀ q ∈ hall h, Bq M B q
  db : ∀ q ∈ d, Bq M B q
  eb : Bq M B e
  hl : ∀ h ∈ hs, h.1.length = n
  dl : d.length = n
  nl : n ≤ 1000
  kl : hs.length ≤ 1000
theorem lcm_step (s q : Nat) (hq : 0 < q) : ((s : Int) * (q : Int)).fdiv (Nat.gcd s q : Nat) = (Nat.lcm s q : Nat) := by
  rw [Int.fdiv_eq_ediv_of_nonneg _ (Int.natCast_nonneg _), ← Int.natCast_mul, ← Int.natCast_ediv]
  rfl
theorem times_inner (nd : D) (h : Hg) (s : Nat) {M : Nat} (hM : 0 < M) (hs : M < 2 ^ 4000) (hsd : s ∣ M) (hh : ∀ q ∈ hall h, q.den ∣ M) (hl : h.1.length + 2 ≤ SZ) (x : Option D) (st : Store) :
    ∃ y, denSs ((b__law_times_all f__law_gcd).body.nth 1).bd [some nd, some (.int s), some (row h.1), some (fr h.2.1), some (fr h.2.2), x] st = some (.next, [some nd, some (.int (lcmL s (dens (hall h)) : Nat)), some (row h.1), some (fr h.2.1), some (fr h.2.2), y], st) := by
  obtain ⟨env', st', e1, y, rfl, rfl⟩ := for_inv (ok := Walk.ok ⟨(hall h).map fr, []⟩) (t := .nm 5) (body := fun env st => denSs (((b__law_times_all f__law_gcd).body.nth 1).bd.nth 0).bd env st)
    (fun i env st' => ∃ y, env = [some nd, some (.int (lcmL s ((dens (hall h)).take i) : Nat)), some (row h.1), some (fr h.2.1), some (fr h.2.2), y] ∧ st' = st) (items := (hall h).map fr) (env := [some nd, some (.int s), some (row h.1), some (fr h.2.1), some (fr h.2.2), x]) (st := st) ⟨x, rfl, rfl⟩
    (fun i d env st' hd hI => by
      obtain ⟨q, hq, rfl⟩ := map_at hd
      obtain ⟨y, rfl, rfl⟩ := hI
      refine ⟨rfl, [some nd, some (.int (lcmL s ((dens (hall h)).take i) : Nat)), some (row h.1), some (fr h.2.1), some (fr h.2.2), some (fr q)], [some nd, some (.int (lcmL s ((dens (hall h)).take (i + 1)) : Nat)), some (row h.1), some (fr h.2.1), some (fr h.2.2), some (fr q)], st', rfl, ?_, _, rfl, rfl⟩
      have s1 := sm_dvd hM hs (dens_dvd hsd hh i)
      have s2 := sm_dvd hM hs (hh q (List.mem_of_getElem? hq))
      have g := gcd_ok (lcmL s ((dens (hall h)).take i)) q.den st' (s1.up (by decide)) (s2.up (by decide))
      have e0 : Int.gcd ((lcmL s ((dens (hall h)).take i) : Nat) : Int) (q.den : Int) = Nat.gcd (lcmL s ((dens (hall h)).take i)) q.den := by simp [-Option.some.injEq, -Prod.mk.injEq, denS, denE, denEs, denT, denO, denTs, denSrc, bltn, binop, cmpop, eqv_int, abs_int, index, seqOf, atI, ixI, asTr, truth]
      rw [e0] at g
      have m := mulOk_of s1 s2 (by decide)
      have g0 : 0 < Nat.gcd (lcmL s ((dens (hall h)).take i)) q.den := Nat.gcd_pos_of_pos_right _ q.den_pos
      have gd : divOk (Nat.gcd (lcmL s ((dens (hall h)).take i)) q.den : Nat) = true := divOk_of (k := 4000) (by
        unfold Sm at *
        rw [Int.natAbs_natCast] at *
        have := Nat.le_of_dvd q.den_pos (Nat.gcd_dvd_right (lcmL s ((dens (hall h)).take i)) q.den)
        omega) (by decide) (by omega)
      have ls := lcm_step (lcmL s ((dens (hall h)).take i)) q.den q.den_pos
      rw [take_succ_dens hq, lcmL_app]
      generalize lcmL s ((dens (hall h)).take i) = z at *
      have ix1 : index (fr q) (.int 1) st' = some (.int q.den) := rfl
      show denSs (.cons (.set 1 _) .nil) _ _ = _
      refine ss_next (env' := [some nd, some (.int (Nat.lcm z q.den : Nat)), some (row h.1), some (fr h.2.1), some (fr h.2.2), some (fr q)]) (st' := st') ?_ ss_nil
      rw [← ls]
      simp [-Option.some.injEq, -Prod.mk.injEq, denS, denE, denEs, denT, denO, denTs, denSrc, bltn, binop, cmpop, eqv_int, abs_int, seqOf, atI, ixI, asTr, truth, ix1, m, g, gd])
    (fun _ _ _ => rfl)
  have hlen : ((hall h).map fr).length = (dens (hall h)).length := by unfold dens; rw [List.length_map, List.length_map]
  rw [hlen, List.take_length] at e1
  refine ⟨y, ss_next (s_for (w := ⟨(hall h).map fr, []⟩) (st' := st') (s_seqT ?_) e1) ss_nil⟩
  have ha := add_rows h st' hl
  simp [-Option.some.injEq, -Prod.mk.injEq, denS, denE, denEs, denT, denO, denTs, denSrc, bltn, cmpop, eqv_int, abs_int, index, seqOf, atI, ixI, asTr, truth, SZ]
  exact ha
theorem times_all_ok {M B m n : Nat} {hs : List Hg} {d : List Rat} {e : Rat} (N : NetOk M B m n hs d e) (hm : m ≤ 4000) (st : Store) : f__law_times_all [netD n hs d e] st = some (.int (timesQ hs : Nat), st) := by
  have sM : M < 2 ^ 4000 := Nat.lt_of_lt_of_le N.sM (Nat.pow_le_pow_right (by decide) hm)
  have hh : ∀ h ∈ hs, ∀ q ∈ hall h, q.den ∣ M := fun h hh q hq => (N.hb h hh q hq).den
  obtain ⟨env', st', e1, w, x, y, z, rfl, rfl⟩ := for_inv (ok := Walk.ok ⟨hs.map hd, []⟩) (t := .tup [.nm 2, .nm 3, .nm 4]) (body := fun env st => denSs ((b__law_times_all f__law_gcd).body.nth 1).bd env st)
    (fun i env st' => ∃ w x y z, env = [some (netD n hs d e), some (.int (timesTo hs i : Nat)), w, x, y, z] ∧ st' = st) (items := hs.map hd) (env := [some (netD n hs d e), some (.int 1), none, none, none, none]) (st := st) ⟨_, _, _, _, rfl, rfl⟩
    (fun i dd env st' hd' hI => by
      obtain ⟨h, hq, rfl⟩ := map_at hd'
      obtain ⟨w, x, y, z, rfl, rfl⟩ := hI
      obtain ⟨y', hy⟩ := times_inner (netD n hs d e) h (timesTo hs i) N.pos sM (timesTo_dvd hh i) (hh h (List.mem_of_getElem? hq)) (by rw [N.hl h (List.mem_of_getElem? hq)]; have := N.nl; unfold SZ; omega) z st'
      exact ⟨rfl, [some (netD n hs d e), some (.int (timesTo hs i : Nat)), some (row h.1), some (fr h.2.1), some (fr h.2.2), z], [some (netD n hs d e), some (.int (timesTo hs (i + 1) : Nat)), some (row h.1), some (fr h.2.1), some (fr h.2.2), y'], st', rfl, by rw [timesTo_succ hq]; exact hy, _, _, _, _, rfl, rfl⟩)
    (fun _ _ _ => rfl)
  rw [List.length_map] at e1
  have ix1 : index (netD n hs d e) (.int 1) st' = some (.tup (hs.map hd)) := rfl
  exact def_pure (env0 := [_, _, _, _, _, _]) rfl rfl (ss_next (by simp [-Option.some.injEq, -Prod.mk.injEq, denS, denE, denEs, denT, denO, denTs, denSrc, bltn, binop, cmpop, eqv_int, abs_int, index, seqOf, atI, ixI, asTr, truth] <;> rfl) (ss_next (s_for (w := ⟨hs.map hd, []⟩) (s_seqT (by simp [-Option.some.injEq, -Prod.mk.injEq, denS, denE, denEs, denT, denO, denTs, denSrc, bltn, binop, cmpop, eqv_int, abs_int, seqOf, atI, ixI, asTr, truth, ix1] <;> rfl)) e1) (ss_ret (s_ret (by simp [-Option.some.injEq, -Prod.mk.injEq, denS, denE, denEs, denT, denO, denTs, denSrc, bltn, binop, cmpop, eqv_int, abs_int, index, seqOf, atI, ixI, asTr, truth] <;> rfl)))))
/-! ### the whole net -/
def wholeD (n : Nat) (hs : List Hg) (d : List Rat) (e : Rat) : D :=
  .tup [.int (timesQ hs : Nat), netD n (hs.map (scaleH (timesQ hs : Nat))) (scaleL ((timesQ hs * timesQ hs : Nat) : Rat) d) (((timesQ hs * timesQ hs : Nat) : Rat) * e)]
theorem bd_nat {k : Nat} (h : k < 2 ^ 2000) : Bd (k : Rat) := ⟨by rw [Rat.num_natCast]; unfold Sm; rw [Int.natAbs_natCast]; exact h, by rw [Rat.den_natCast]; unfold Sm; exact Nat.lt_of_lt_of_le (by decide : 1 < 2 ^ 1) (Nat.pow_le_pow_right (by decide) (by decide))⟩
section
variable {M B m n : Nat} {hs : List Hg} {d : List Rat} {e : Rat}
theorem NetOk.times_dvd (N : NetOk M B m n hs d e) : timesQ hs ∣ M := timesTo_dvd (fun h hh q hq => (N.hb h hh q hq).den) _
theorem NetOk.times_lt (N : NetOk M B m n hs d e) : timesQ hs < 2 ^ m := Nat.lt_of_le_of_lt (Nat.le_of_dvd N.pos N.times_dvd) N.sM
theorem NetOk.bt (N : NetOk M B m n hs d e) (hm : m + m ≤ 2000) : Bd (timesQ hs : Nat) := bd_nat (Nat.lt_of_lt_of_le N.times_lt (Nat.pow_le_pow_right (by decide) (by omega)))
theorem NetOk.bs (N : NetOk M B m n hs d e) (hm : m + m ≤ 2000) : Bd (timesQ hs * timesQ hs : Nat) := by
  have h := N.times_lt
  have h2 : timesQ hs * timesQ hs < 2 ^ m * 2 ^ m := by
    rcases Nat.eq_zero_or_pos (timesQ hs) with z | z
    · rw [z]; exact Nat.mul_pos (Nat.two_pow_pos _) (Nat.two_pow_pos _)
    · exact Nat.mul_lt_mul'' h h
  rw [← Nat.pow_add] at h2
  exact bd_nat (Nat.lt_of_lt_of_le h2 (Nat.pow_le_pow_right (by decide) hm))
theorem NetOk.bh (N : NetOk M B m n hs d e) (hm : m + m ≤ 2000) {h : Hg} (hh : h ∈ hs) {q : Rat} (hq : q ∈ hall h) : Bd q := (N.hb h hh q hq).bd N.sM N.sB hm
theorem mem_a {h : Hg} {q : Rat} (hq : q ∈ h.1) : q ∈ hall h := List.mem_append_left _ hq
theorem mem_b (h : Hg) : h.2.1 ∈ hall h := List.mem_append_right _ (by simp [-Option.some.injEq, -Prod.mk.injEq, denS, denE, denEs, denT, denO, denTs, denSrc, bltn, binop, cmpop, eqv_int, abs_int, index, seqOf, atI, ixI, asTr, truth])
theorem mem_c (h : Hg) : h.2.2 ∈ hall h := List.mem_append_right _ (by simp [-Option.some.injEq, -Prod.mk.injEq, denS, denE, denEs, denT, denO, denTs, denSrc, bltn, binop, cmpop, eqv_int, abs_int, index, seqOf, atI, ixI, asTr, truth])
theorem whole_run (nd R S e1 r f : D) (T : Nat) (n Z : Int) (eT : (T : Int) * (T : Int) = Z) (X : List D) (st : Store) (ht : f__law_times_all [nd] st = some (.int T, st)) (mT : mulOk (T : Int) (T : Int) = true)
    (he : denE (.bl .tuple (.cons (.lc (.tup (.cons (.call "_law_taken" f__law_taken (.cons (.tup (.cons (.var 1) (.cons (.lit (.int 1)) .nil))) (.cons (.var 4) .nil))) (.cons (.call "_law_times" f__law_times (.cons (.tup (.cons (.var 1) (.cons (.lit (.int 1)) .nil))) (.cons (.var 5) .nil))) (.cons (.call "_law_times" f__law_times (.cons (.tup (.cons (.var 1) (.cons (.lit (.int 1)) .nil))) (.cons (.var 6) .nil))) .nil)))) (.tup [.nm 4, .nm 5, .nm 6]) (.seq (.idx (.var 0) (.lit (.int 1)))) .none [4, 5, 6]) .nil)) [some nd, some (.int T), none, none, none, none, none] st = some (.tup X, st ++ [.lst X]))
    (ix0 : ∀ st, index nd (.int 0) st = some (.int n)) (ix2 : ∀ st, index nd (.int 2) st = some (.tup [r, f])) (k1 : ∀ st, f__law_taken [.tup [.int Z, .int 1], r] st = some (R, st)) (k2 : ∀ st, f__law_times [.tup [.int Z, .int 1], f] st = some (S, st)) (hu : D.under st.length (.tup [.int T, .tup [.int n, .tup X, .tup [R, S]]]) = true) :
    f__law_whole [nd] st = some (.tup [.int T, .tup [.int n, .tup X, .tup [R, S]]], st) := by
  have ixa : ∀ st, index (.tup [r, f]) (.int 0) st = some r := fun _ => rfl
  have ixb : ∀ st, index (.tup [r, f]) (.int 1) st = some f := fun _ => rfl
  refine def_app (env0 := [_, _, _, _, _, _, _]) (ex := [.lst X]) rfl rfl (ss_next (env' := [some nd, some (.int T), none, none, none, none, none]) (st' := st) (by simp [-Option.some.injEq, -Prod.mk.injEq, denS, denE, denEs, denT, denO, denTs, denSrc, bltn, binop, cmpop, eqv_int, abs_int, index, seqOf, atI, ixI, asTr, truth, ht])
    (ss_next (env' := [some nd, some (.int T), some (.tup X), none, none, none, none]) (st' := st ++ [.lst X]) ?_
    (ss_next (env' := [some nd, some (.int T), some (.tup X), some (.tup [.int Z, .int 1]), none, none, none]) (st' := st ++ [.lst X]) ?_ (ss_ret (s_ret ?_))))) hu
  · simp only [denS]
    rw [he]
    rfl
  · rw [← eT]
    simp [-Option.some.injEq, -Prod.mk.injEq, denS, denE, denEs, denT, denO, denTs, denSrc, bltn, binop, cmpop, eqv_int, abs_int, index, seqOf, atI, ixI, asTr, truth, mT, SZ]
  · simp [-Option.some.injEq, -Prod.mk.injEq, denS, denE, denEs, denT, denO, denTs, denSrc, bltn, binop, cmpop, eqv_int, abs_int, seqOf, atI, ixI, asTr, truth, SZ, ix0, ix2, ixa, ixb, k1, k2]
theorem under_hds (n : Nat) : ∀ hs : List Hg, D.unders n (hs.map hd) = true
  | [] => rfl
  | h :: hs => by
    show (D.under n (hd h) && D.unders n (hs.map hd)) = true
    rw [under_hds n hs, Bool.and_true]
    show (D.under n (row h.1) && _) = true
    rw [under_row]; rfl
theorem under_net (k n : Nat) (hs : List Hg) (d : List Rat) (e : Rat) : D.under k (netD n hs d e) = true := by
  show (D.under k (.int n) && (D.under k (.tup (hs.map hd)) && (D.under k (.tup [row d, fr e]) && true))) = true
  have h1 : D.under k (.tup (hs.map hd)) = true := under_hds k hs
  have h2 : D.under k (.tup [row d, fr e]) = true := by
    show (D.under k (row d) && _) = true
    rw [under_row]; rfl
  rw [h1, h2]; rfl
theorem law_whole_ok (N : NetOk M B m n hs d e) (hm : m + m ≤ 2000) (st : Store) : f__law_whole [netD n hs d e] st = some (wholeD n hs d e, st) := by
  have ht := times_all_ok N (by omega) st
  have bt := N.bt hm
  have bs := N.bs hm
  have tl : ∀ h ∈ hs, h.1.length ≤ SZ := fun h hh => by rw [N.hl h hh]; have := N.nl; unfold SZ; omega
  have ix1 : index (netD n hs d e) (.int 1) st = some (.tup (hs.map hd)) := rfl
  have hW : wholeD n hs d e = .tup [.int (timesQ hs : Nat), .tup [.int n, .tup ((hs.map (scaleH (timesQ hs : Nat))).map hd), .tup [row (scaleL ((timesQ hs * timesQ hs : Nat) : Rat) d), fr (((timesQ hs * timesQ hs : Nat) : Rat) * e)]]] := rfl
  rw [hW]
  generalize hT : timesQ hs = T at *
  have hc := comp_map (ok := Walk.ok ⟨hs.map hd, []⟩) (t := .tup [.nm 4, .nm 5, .nm 6]) (env := [some (netD n hs d e), some (.int T), none, none, none, none, none]) (test := fun env1 st2 => denTs .none env1 st2)
    (elt := fun env1 st2 => denE (.tup (.cons (.call "_law_taken" f__law_taken (.cons (.tup (.cons (.var 1) (.cons (.lit (.int 1)) .nil))) (.cons (.var 4) .nil))) (.cons (.call "_law_times" f__law_times (.cons (.tup (.cons (.var 1) (.cons (.lit (.int 1)) .nil))) (.cons (.var 5) .nil))) (.cons (.call "_law_times" f__law_times (.cons (.tup (.cons (.var 1) (.cons (.lit (.int 1)) .nil))) (.cons (.var 6) .nil))) .nil)))) env1 st2)
    (fun h => hd (scaleH (T : Nat) h)) hd st rfl hs [] (fun h hh => ⟨[some (netD n hs d e), some (.int T), none, none, some (row h.1), some (fr h.2.1), some (fr h.2.2)], rfl, by simp only [denTs], by
      have h1 := taken_ok st bt (fun q hq => N.bh hm hh (mem_a hq)) (tl h hh)
      have h2 := law_times_ok (T : Nat) h.2.1 st bt (N.bh hm hh (mem_b h))
      have h3 := law_times_ok (T : Nat) h.2.2 st bt (N.bh hm hh (mem_c h))
      rw [fr_nat] at h1 h2 h3
      show _ = some (D.tup [row (scaleL T h.1), fr (T * h.2.1), fr (T * h.2.2)], st)
      generalize netD n hs d e = nd
      generalize row (scaleL T h.1) = x1 at *
      generalize fr (T * h.2.1) = x2 at *
      generalize fr (T * h.2.2) = x3 at *
      generalize row h.1 = y1 at *
      generalize fr h.2.1 = y2 at *
      generalize fr h.2.2 = y3 at *
      simp [-Option.some.injEq, -Prod.mk.injEq, denS, denE, denEs, denT, denO, denTs, denSrc, bltn, binop, cmpop, eqv_int, abs_int, index, seqOf, atI, ixI, asTr, truth, SZ, h1, h2, h3]⟩) (by have := N.kl; unfold SZ; simp [-Option.some.injEq, -Prod.mk.injEq, denS, denE, denEs, denT, denO, denTs, denSrc, bltn, binop, cmpop, eqv_int, abs_int, index, seqOf, atI, ixI, asTr, truth]; omega)
  rw [List.nil_append] at hc
  have hcd : (hs.map fun h => hd (scaleH (T : Nat) h)) = (hs.map (scaleH (T : Nat))).map hd := by rw [List.map_map]; rfl
  rw [hcd] at hc
  have mT : mulOk (T : Int) (T : Int) = true := by
    have h : Sm m (T : Int) := by unfold Sm; rw [Int.natAbs_natCast, ← hT]; exact N.times_lt
    exact mulOk_of h h (by omega)
  have he := e_lcTup (own := [4, 5, 6]) (env := [some (netD n hs d e), some (.int T), none, none, none, none, none]) (s := .seq (.idx (.var 0) (.lit (.int 1)))) (w := ⟨hs.map hd, []⟩) (s_seqT (e_ixV rfl ix1)) hc
  have k1 := fun st => taken_ok st bs (fun q hq => (N.db q hq).bd N.sM N.sB hm) (by rw [N.dl]; have := N.nl; unfold SZ; omega)
  have k2 := fun st => law_times_ok (T * T : Nat) e st bs (N.eb.bd N.sM N.sB hm)
  simp only [fr_nat] at k1 k2
  refine whole_run _ _ _ (.non) _ _ T n _ (by simp [-Option.some.injEq, -Prod.mk.injEq, denS, denE, denEs, denT, denO, denTs, denSrc, bltn, binop, cmpop, eqv_int, abs_int, index, seqOf, atI, ixI, asTr, truth]) _ st ht mT he (fun _ => rfl) (fun _ => rfl) k1 k2 ?_
  have hu := under_net st.length n (hs.map (scaleH (T : Nat))) (scaleL ((T * T : Nat) : Rat) d) (((T * T : Nat) : Rat) * e)
  show (true && (D.under st.length (netD n (hs.map (scaleH (T : Nat))) (scaleL ((T * T : Nat) : Rat) d) (((T * T : Nat) : Rat) * e)) && true)) = true
  rw [hu]; rfl
end
end Law
end
section
set_option Elab.async false
set_option linter.all false
set_option maxRecDepth 100000
set_option autoImplicit false
set_option exponentiation.threshold 20000
namespace Law
open Calc

section
variable {M B m n : Nat} {hs : List Hg} {d : List Rat} {e : Rat}
theorem as_run (nd R S r f : D) (T : Nat) (n Z : Int) (eT : (T : Int) * (T : Int) = Z) (X : List D) (st : Store) (o1 o2 o3 : Option D)
    (ht : denS ((b_as_whole f_product f_scaled_row f_multiple f_common_below).body.nth 1) [some nd, some (.int 1), none, none, none, none, none, none] st = some (.next, [some nd, some (.int T), o1, o2, o3, none, none, none], st)) (mT : mulOk (T : Int) (T : Int) = true)
    (he : denE (.gen .tuple (.tup (.cons (.call "scaled_row" f_scaled_row (.cons (.var 5) (.cons (.var 2) .nil))) (.cons (.call "product" f_product (.cons (.var 5) (.cons (.var 3) .nil))) (.cons (.call "product" f_product (.cons (.var 5) (.cons (.var 4) .nil))) .nil)))) (.tup [(.nm 2), (.nm 3), (.nm 4)]) (.seq (.idx (.var 0) (.lit (.int 1)))) .none [2, 3, 4]) [some nd, some (.int T), o1, o2, o3, some (.tup [.int T, .int 1]), none, none] st = some (.tup X, st))
    (ix0 : ∀ st, index nd (.int 0) st = some (.int n)) (ix2 : ∀ st, index nd (.int 2) st = some (.tup [r, f])) (k1 : ∀ st, f_scaled_row [.tup [.int Z, .int 1], r] st = some (R, st)) (k2 : ∀ st, f_product [.tup [.int Z, .int 1], f] st = some (S, st)) :
    f_as_whole [nd] st = some (.tup [.int T, .tup [.int n, .tup X, .tup [R, S]]], st) := by
  have ixa : ∀ st, index (.tup [r, f]) (.int 0) st = some r := fun _ => rfl
  have ixb : ∀ st, index (.tup [r, f]) (.int 1) st = some f := fun _ => rfl
  refine def_pure (env0 := [_, _, _, _, _, _, _, _]) rfl rfl (ss_next (env' := [some nd, some (.int 1), none, none, none, none, none, none]) (st' := st) (by simp [-Option.some.injEq, -Prod.mk.injEq, denS, denE, denEs, denT, denO, denTs, denSrc, bltn, binop, cmpop, eqv_int, abs_int, index, seqOf, atI, ixI, asTr, truth]) (ss_next ht
    (ss_next (env' := [some nd, some (.int T), o1, o2, o3, some (.tup [.int T, .int 1]), none, none]) (st' := st) (by simp [-Option.some.injEq, -Prod.mk.injEq, denS, denE, denEs, denT, denO, denTs, denSrc, bltn, binop, cmpop, eqv_int, abs_int, index, seqOf, atI, ixI, asTr, truth, SZ])
    (ss_next (env' := [some nd, some (.int T), o1, o2, o3, some (.tup [.int T, .int 1]), some (.tup X), none]) (st' := st) ?_
    (ss_next (env' := [some nd, some (.int T), o1, o2, o3, some (.tup [.int T, .int 1]), some (.tup X), some (.tup [.int Z, .int 1])]) (st' := st) ?_ (ss_ret (s_ret ?_)))))))
  · simp only [denS]
    rw [he]
    rfl
  · rw [← eT]
    simp [-Option.some.injEq, -Prod.mk.injEq, denS, denE, denEs, denT, denO, denTs, denSrc, bltn, binop, cmpop, eqv_int, abs_int, index, seqOf, atI, ixI, asTr, truth, mT, SZ]
  · simp [-Option.some.injEq, -Prod.mk.injEq, denS, denE, denEs, denT, denO, denTs, denSrc, bltn, binop, cmpop, eqv_int, abs_int, seqOf, atI, ixI, asTr, truth, SZ, ix0, ix2, ixa, ixb, k1, k2]
theorem as_step (nd : D) (h : Hg) (s t r : Nat) (o5 o6 o7 : Option D) (st : Store) (h0 : binop .add (row h.1) (.tup [fr h.2.1, fr h.2.2]) st = some (row (hall h), st)) (h1 : f_common_below [row (hall h)] st = some (.int t, st)) (h2 : f_multiple [.int s, .int t] st = some (.int r, st)) :
    denSs ((b_as_whole f_product f_scaled_row f_multiple f_common_below).body.nth 1).bd [some nd, some (.int s), some (row h.1), some (fr h.2.1), some (fr h.2.2), o5, o6, o7] st = some (.next, [some nd, some (.int r), some (row h.1), some (fr h.2.1), some (fr h.2.2), o5, o6, o7], st) := by
  show denSs (.cons (.set 1 _) .nil) _ _ = _
  refine ss_next (env' := [some nd, some (.int r), some (row h.1), some (fr h.2.1), some (fr h.2.2), o5, o6, o7]) (st' := st) ?_ ss_nil
  generalize row (hall h) = w at *
  generalize row h.1 = x at *
  generalize fr h.2.1 = y at *
  generalize fr h.2.2 = z at *
  simp [-Option.some.injEq, -Prod.mk.injEq, denS, denE, denEs, denT, denO, denTs, denSrc, bltn, cmpop, eqv_int, abs_int, index, seqOf, atI, ixI, asTr, truth, SZ, h0, h1, h2]
theorem as_times (N : NetOk M B m n hs d e) (hm : m ≤ 4000) (st : Store) : ∃ o1 o2 o3, denS ((b_as_whole f_product f_scaled_row f_multiple f_common_below).body.nth 1) [some (netD n hs d e), some (.int 1), none, none, none, none, none, none] st = some (.next, [some (netD n hs d e), some (.int (timesQ hs : Nat)), o1, o2, o3, none, none, none], st) := by
  have sM : M < 2 ^ 4000 := Nat.lt_of_lt_of_le N.sM (Nat.pow_le_pow_right (by decide) hm)
  have hh : ∀ h ∈ hs, ∀ q ∈ hall h, q.den ∣ M := fun h hh q hq => (N.hb h hh q hq).den
  obtain ⟨env', st', e1, x, y, z, rfl, rfl⟩ := for_inv (ok := Walk.ok ⟨hs.map hd, []⟩) (t := .tup [.nm 2, .nm 3, .nm 4]) (body := fun env st => denSs ((b_as_whole f_product f_scaled_row f_multiple f_common_below).body.nth 1).bd env st)
    (fun i env st' => ∃ x y z, env = [some (netD n hs d e), some (.int (timesTo hs i : Nat)), x, y, z, none, none, none] ∧ st' = st) (items := hs.map hd) (env := [some (netD n hs d e), some (.int 1), none, none, none, none, none, none]) (st := st) ⟨_, _, _, rfl, rfl⟩
    (fun i dd env st' hd' hI => by
      obtain ⟨h, hq, rfl⟩ := map_at hd'
      obtain ⟨x, y, z, rfl, rfl⟩ := hI
      have hmem := List.mem_of_getElem? hq
      have c1 := common_ok st' N.pos sM (hh h hmem)
      have d1 : lcmL 1 (dens (hall h)) ∣ M := by
        have := dens_dvd (Nat.one_dvd M) (hh h hmem) (dens (hall h)).length
        rwa [List.take_length] at this
      have c2 := multiple_ok (timesTo hs i) (lcmL 1 (dens (hall h))) st' (sm_dvd N.pos sM (timesTo_dvd hh i)) (sm_dvd N.pos sM d1) (Nat.pos_of_dvd_of_pos d1 N.pos)
      rw [lcm_lcmL, Nat.lcm_one_right, ← timesTo_succ hq] at c2
      have a1 := add_rows h st' (by rw [N.hl h hmem]; have := N.nl; unfold SZ; omega)
      exact ⟨rfl, [some (netD n hs d e), some (.int (timesTo hs i : Nat)), some (row h.1), some (fr h.2.1), some (fr h.2.2), none, none, none], [some (netD n hs d e), some (.int (timesTo hs (i + 1) : Nat)), some (row h.1), some (fr h.2.1), some (fr h.2.2), none, none, none], st', rfl, as_step _ h _ _ _ none none none st' a1 c1 c2, _, _, _, rfl, rfl⟩)
    (fun _ _ _ => rfl)
  rw [List.length_map] at e1
  exact ⟨x, y, z, s_for (w := ⟨hs.map hd, []⟩) (s_seqT (e_ixV rfl rfl)) e1⟩
theorem as_whole_ok (N : NetOk M B m n hs d e) (hm : m + m ≤ 2000) (st : Store) : f_as_whole [netD n hs d e] st = some (wholeD n hs d e, st) := by
  obtain ⟨o1, o2, o3, ht⟩ := as_times N (by omega) st
  have bt := N.bt hm
  have bs := N.bs hm
  have tl : ∀ h ∈ hs, h.1.length ≤ SZ := fun h hh => by rw [N.hl h hh]; have := N.nl; unfold SZ; omega
  have hW : wholeD n hs d e = .tup [.int (timesQ hs : Nat), .tup [.int n, .tup ((hs.map (scaleH (timesQ hs : Nat))).map hd), .tup [row (scaleL ((timesQ hs * timesQ hs : Nat) : Rat) d), fr (((timesQ hs * timesQ hs : Nat) : Rat) * e)]]] := rfl
  rw [hW]
  generalize hT : timesQ hs = T at *
  have hc := comp_map (ok := Walk.ok ⟨hs.map hd, []⟩) (t := .tup [.nm 2, .nm 3, .nm 4]) (env := [some (netD n hs d e), some (.int T), none, none, none, some (.tup [.int T, .int 1]), none, none]) (test := fun env1 st2 => denTs .none env1 st2)
    (elt := fun env1 st2 => denE (.tup (.cons (.call "scaled_row" f_scaled_row (.cons (.var 5) (.cons (.var 2) .nil))) (.cons (.call "product" f_product (.cons (.var 5) (.cons (.var 3) .nil))) (.cons (.call "product" f_product (.cons (.var 5) (.cons (.var 4) .nil))) .nil)))) env1 st2)
    (fun h => hd (scaleH (T : Nat) h)) hd st rfl hs [] (fun h hh => ⟨[some (netD n hs d e), some (.int T), some (row h.1), some (fr h.2.1), some (fr h.2.2), some (.tup [.int T, .int 1]), none, none], rfl, by simp only [denTs], by
      have h1 := scaled_ok st bt (fun q hq => N.bh hm hh (mem_a hq)) (tl h hh)
      have h2 := product_ok (T : Nat) h.2.1 st bt (N.bh hm hh (mem_b h))
      have h3 := product_ok (T : Nat) h.2.2 st bt (N.bh hm hh (mem_c h))
      rw [fr_nat] at h1 h2 h3
      show _ = some (D.tup [row (scaleL T h.1), fr (T * h.2.1), fr (T * h.2.2)], st)
      generalize netD n hs d e = nd
      generalize row (scaleL T h.1) = x1 at *
      generalize fr (T * h.2.1) = x2 at *
      generalize fr (T * h.2.2) = x3 at *
      generalize row h.1 = y1 at *
      generalize fr h.2.1 = y2 at *
      generalize fr h.2.2 = y3 at *
      simp [-Option.some.injEq, -Prod.mk.injEq, denS, denE, denEs, denT, denO, denTs, denSrc, bltn, binop, cmpop, eqv_int, abs_int, index, seqOf, atI, ixI, asTr, truth, SZ, h1, h2, h3]⟩) (by have := N.kl; unfold SZ; simp [-Option.some.injEq, -Prod.mk.injEq, denS, denE, denEs, denT, denO, denTs, denSrc, bltn, binop, cmpop, eqv_int, abs_int, index, seqOf, atI, ixI, asTr, truth]; omega)
  rw [List.nil_append] at hc
  have hcd : (hs.map fun h => hd (scaleH (T : Nat) h)) = (hs.map (scaleH (T : Nat))).map hd := by rw [List.map_map]; rfl
  rw [hcd] at hc
  have mT : mulOk (T : Int) (T : Int) = true := by
    have h : Sm m (T : Int) := by unfold Sm; rw [Int.natAbs_natCast, ← hT]; exact N.times_lt
    exact mulOk_of h h (by omega)
  have he := e_genTup (own := [2, 3, 4]) (env := [some (netD n hs d e), some (.int T), o1, o2, o3, some (.tup [.int T, .int 1]), none, none]) (s := .seq (.idx (.var 0) (.lit (.int 1)))) (w := ⟨hs.map hd, []⟩) (s_seqT (e_ixV rfl rfl)) hc
  have k1 := fun st => scaled_ok st bs (fun q hq => (N.db q hq).bd N.sM N.sB hm) (by rw [N.dl]; have := N.nl; unfold SZ; omega)
  have k2 := fun st => product_ok (T * T : Nat) e st bs (N.eb.bd N.sM N.sB hm)
  simp only [fr_nat] at k1 k2
  exact as_run _ _ _ _ _ T n _ (by simp [-Option.some.injEq, -Prod.mk.injEq, denS, denE, denEs, denT, denO, denTs, denSrc, bltn, binop, cmpop, eqv_int, abs_int, index, seqOf, atI, ixI, asTr, truth]) _ st o1 o2 o3 ht mT he (fun _ => rfl) (fun _ => rfl) k1 k2
end
end Law
end
section
set_option Elab.async false
set_option linter.all false
set_option maxRecDepth 100000
set_option autoImplicit false
set_option exponentiation.threshold 20000
namespace Law
open Calc

/-! ### the same -/
def pl : Nat → D → Prop
  | 0, _ => False
  | _ + 1, .int _ => True
  | k + 1, .tup xs => (∀ x ∈ xs, pl k x) ∧ xs.length < 2 ^ 62
  | _ + 1, _ => False
theorem same_ok : ∀ (k : Nat) (d : D) (st : Store), pl k d → f__law_same k [d, d] st = some (.bl true, st)
  | 0, _, _, h => h.elim
  | k + 1, .int i, st, _ => def_pure (env0 := [_, _, _]) rfl rfl (ss_next (s_iteF (by simp [-Option.some.injEq, -Prod.mk.injEq, denS, denE, denEs, denT, denO, denTs, denSrc, bltn, binop, cmpop, eqv_int, abs_int, index, seqOf, atI, ixI, asTr, truth] <;> rfl) ss_nil) (ss_next (s_iteF (by simp [-Option.some.injEq, -Prod.mk.injEq, denS, denE, denEs, denT, denO, denTs, denSrc, bltn, binop, cmpop, eqv_int, abs_int, index, seqOf, atI, ixI, asTr, truth] <;> rfl) ss_nil) (ss_ret (s_iteT (by simp [-Option.some.injEq, -Prod.mk.injEq, denS, denE, denEs, denT, denO, denTs, denSrc, bltn, binop, cmpop, eqv_int, abs_int, index, seqOf, atI, ixI, asTr, truth] <;> rfl) (ss_ret (s_ret (by simp [-Option.some.injEq, -Prod.mk.injEq, denS, denE, denEs, denT, denO, denTs, denSrc, bltn, binop, cmpop, eqv_int, abs_int, index, seqOf, atI, ixI, asTr, truth] <;> rfl)))))))
  | k + 1, .tup xs, st, h => by
    obtain ⟨h1, h2⟩ := h
    have ih := fun x (hx : x ∈ xs) => same_ok k x st (h1 x hx)
    have hr : rngOf [.int xs.length] = some ⟨(List.range xs.length).map fun (i : Nat) => D.int (i : Int), []⟩ := rng_at h2
    generalize hits : ((List.range xs.length).map fun (i : Nat) => D.int (i : Int)) = its at hr
    obtain ⟨env', st', e1, y, rfl, rfl⟩ := for_inv (ok := Walk.ok ⟨its, []⟩) (t := .nm 2) (body := fun env st => denSs ((b__law_same (f__law_same k)).body.nth 5).bd env st)
      (fun i env st' => ∃ y, env = [some (.tup xs), some (.tup xs), y] ∧ st' = st) (items := its) (env := [some (.tup xs), some (.tup xs), none]) (st := st) ⟨none, rfl, rfl⟩
      (fun i d env st' hd hI => by
        rw [← hits] at hd
        obtain ⟨hi, rfl⟩ := range_at hd
        obtain ⟨y, rfl, rfl⟩ := hI
        refine ⟨rfl, [some (.tup xs), some (.tup xs), some (.int i)], [some (.tup xs), some (.tup xs), some (.int i)], st', rfl, ?_, _, rfl, rfl⟩
        have i1 : index (.tup xs) (.int i) st' = some xs[i] := by show atI xs i = _; exact atI_nat (List.getElem?_eq_getElem hi)
        have c := ih xs[i] (List.getElem_mem _)
        show denSs (.cons (.ite _ _ _) .nil) _ _ = _
        refine ss_next (s_iteF ?_ ss_nil) ss_nil
        simp [-Option.some.injEq, -Prod.mk.injEq, denS, denE, denEs, denT, denO, denTs, denSrc, bltn, binop, cmpop, eqv_int, abs_int, seqOf, atI, ixI, asTr, truth, i1, c])
      (fun _ _ _ => rfl)
    have hlen : ∀ s : Store, bltn .len [.tup xs] s = some (.int xs.length, s) := fun _ => rfl
    have es : denEs (.cons (.bl .len (.cons (.var 1) .nil)) .nil) [some (.tup xs), some (.tup xs), none] st' = some ([.int xs.length], st') := by simp [-Option.some.injEq, -Prod.mk.injEq, denS, denE, denEs, denT, denO, denTs, denSrc, bltn, binop, cmpop, eqv_int, abs_int, index, seqOf, atI, ixI, asTr, truth]
    refine def_pure (env0 := [_, _, _]) rfl rfl (ss_next (s_iteF (by simp [-Option.some.injEq, -Prod.mk.injEq, denS, denE, denEs, denT, denO, denTs, denSrc, bltn, binop, cmpop, eqv_int, abs_int, index, seqOf, atI, ixI, asTr, truth] <;> rfl) ss_nil) (ss_next (s_iteF (by simp [-Option.some.injEq, -Prod.mk.injEq, denS, denE, denEs, denT, denO, denTs, denSrc, bltn, binop, cmpop, eqv_int, abs_int, index, seqOf, atI, ixI, asTr, truth] <;> rfl) ss_nil) (ss_next (s_iteF (by simp [-Option.some.injEq, -Prod.mk.injEq, denS, denE, denEs, denT, denO, denTs, denSrc, bltn, binop, cmpop, eqv_int, abs_int, index, seqOf, atI, ixI, asTr, truth] <;> rfl) ss_nil) (ss_next (s_iteF (by simp [-Option.some.injEq, -Prod.mk.injEq, denS, denE, denEs, denT, denO, denTs, denSrc, bltn, binop, cmpop, eqv_int, abs_int, index, seqOf, atI, ixI, asTr, truth] <;> rfl) ss_nil) (ss_next (s_iteF (by simp [-Option.some.injEq, -Prod.mk.injEq, denS, denE, denEs, denT, denO, denTs, denSrc, bltn, binop, cmpop, eqv_int, abs_int, index, seqOf, atI, ixI, asTr, truth] <;> rfl) ss_nil) (ss_next (s_for (w := ⟨its, []⟩) (s_rng es hr) e1) (ss_ret (s_ret (by simp [-Option.some.injEq, -Prod.mk.injEq, denS, denE, denEs, denT, denO, denTs, denSrc, bltn, binop, cmpop, eqv_int, abs_int, index, seqOf, atI, ixI, asTr, truth] <;> rfl)))))))))
theorem pl_fr {k : Nat} (q : Rat) : pl (k + 2) (fr q) := by
  refine ⟨fun x hx => ?_, by show (2 : Nat) < 2 ^ 62; decide⟩
  rcases List.mem_cons.mp hx with rfl | hx
  · trivial
  · rcases List.mem_cons.mp hx with rfl | hx
    · trivial
    · cases hx
theorem pl_row {k : Nat} {a : List Rat} (h : a.length < 2 ^ 62) : pl (k + 3) (row a) := by
  refine ⟨fun x hx => ?_, by rw [List.length_map]; exact h⟩
  obtain ⟨q, _, rfl⟩ := List.mem_map.mp hx
  exact pl_fr q
theorem pl_hd {k : Nat} {h : Hg} (hl : h.1.length < 2 ^ 62) : pl (k + 4) (hd h) := by
  refine ⟨fun x hx => ?_, by show (3 : Nat) < 2 ^ 62; decide⟩
  rcases List.mem_cons.mp hx with rfl | hx
  · exact pl_row hl
  · rcases List.mem_cons.mp hx with rfl | hx
    · exact pl_fr _
    · rcases List.mem_cons.mp hx with rfl | hx
      · exact pl_fr _
      · cases hx
theorem pl_net {k n : Nat} {hs : List Hg} {d : List Rat} {e : Rat} (h1 : ∀ h ∈ hs, h.1.length < 2 ^ 62) (h2 : d.length < 2 ^ 62) (h3 : hs.length < 2 ^ 62) : pl (k + 6) (netD n hs d e) := by
  refine ⟨fun x hx => ?_, by show (3 : Nat) < 2 ^ 62; decide⟩
  rcases List.mem_cons.mp hx with rfl | hx
  · trivial
  rcases List.mem_cons.mp hx with rfl | hx
  · refine ⟨fun x hx => ?_, by rw [List.length_map]; exact h3⟩
    obtain ⟨h, hh, rfl⟩ := List.mem_map.mp hx
    exact pl_hd (h1 h hh)
  rcases List.mem_cons.mp hx with rfl | hx
  · refine ⟨fun x hx => ?_, by show (2 : Nat) < 2 ^ 62; decide⟩
    rcases List.mem_cons.mp hx with rfl | hx
    · exact pl_row (k := k + 1) h2
    rcases List.mem_cons.mp hx with rfl | hx
    · exact pl_fr (k := k + 2) _
    · cases hx
  · cases hx
theorem pl_whole {M B m n : Nat} {hs : List Hg} {d : List Rat} {e : Rat} (N : NetOk M B m n hs d e) : pl 7 (wholeD n hs d e) := by
  refine ⟨fun x hx => ?_, by show (2 : Nat) < 2 ^ 62; decide⟩
  rcases List.mem_cons.mp hx with rfl | hx
  · trivial
  rcases List.mem_cons.mp hx with rfl | hx
  · have := N.nl
    have := N.kl
    refine pl_net (k := 0) (fun h hh => ?_) ?_ (by rw [List.length_map]; omega)
    · obtain ⟨h', hh', rfl⟩ := List.mem_map.mp hh
      show (scaleL _ h'.1).length < _
      unfold scaleL
      rw [List.length_map, N.hl h' hh']; omega
    · unfold scaleL
      rw [List.length_map, N.dl]; omega
  · cases hx

/-! ### answers -/
def hereQ (h : Hg) (x : List Rat) : Rat := dotQ h.1 x + h.2.1
def addQ (x : List Rat) (t : Rat) (h : Hg) : Rat := if 0 < (hereQ h x).num then t + h.2.2 * hereQ h x else t
def ansTo (hs : List Hg) (d : List Rat) (e : Rat) (x : List Rat) (i : Nat) : Rat := (hs.take i).foldl (addQ x) (dotQ d x + e)
def ansQ (hs : List Hg) (d : List Rat) (e : Rat) (x : List Rat) : Rat := hs.foldl (addQ x) (dotQ d x + e)
theorem ansTo_succ {hs : List Hg} {d : List Rat} {e : Rat} {x : List Rat} {i : Nat} {h : Hg} (q : hs[i]? = some h) : ansTo hs d e x (i + 1) = addQ x (ansTo hs d e x i) h := by
  unfold ansTo
  rw [List.take_add_one, q, Option.toList_some, List.foldl_append]; rfl
theorem num_pos (q : Rat) : 0 < q.num ↔ 0 < q := by
  rw [Rat.lt_iff]
  simp [-Option.some.injEq, -Prod.mk.injEq, denS, denE, denEs, denT, denO, denTs, denSrc, bltn, binop, cmpop, eqv_int, abs_int, index, seqOf, atI, ixI, asTr, truth]
theorem add_scale (s : Rat) (hs : 0 < s) (x : List Rat) (t : Rat) (h : Hg) : addQ x (s * s * t) (scaleH s h) = s * s * addQ x t h := by
  have e1 : hereQ (scaleH s h) x = s * hereQ h x := by
    unfold hereQ scaleH
    show dotQ (scaleL s h.1) x + s * h.2.1 = _
    rw [dotQ_scale, Rat.mul_add]
  unfold addQ
  rw [e1]
  by_cases c : 0 < hereQ h x
  · have c2 : 0 < s * hereQ h x := Rat.mul_pos hs c
    rw [if_pos ((num_pos _).mpr c), if_pos ((num_pos _).mpr c2)]
    show s * s * t + s * h.2.2 * (s * hereQ h x) = _
    grind
  · have c2 : ¬ 0 < s * hereQ h x := fun z => c (by
      have := (Rat.mul_pos_iff_of_pos_left hs).mp z
      exact this)
    rw [if_neg fun z => c ((num_pos _).mp z), if_neg fun z => c2 ((num_pos _).mp z)]
theorem ans_scale (s : Rat) (hs : 0 < s) (x : List Rat) : ∀ (l : List Hg) (t : Rat), (l.map (scaleH s)).foldl (addQ x) (s * s * t) = s * s * l.foldl (addQ x) t
  | [], t => rfl
  | h :: l, t => by
    rw [List.map_cons, List.foldl_cons, List.foldl_cons, add_scale s hs, ans_scale s hs x l]
theorem ansQ_scale (s : Rat) (hs : 0 < s) (l : List Hg) (d : List Rat) (e : Rat) (x : List Rat) : ansQ (l.map (scaleH s)) (scaleL (s * s) d) (s * s * e) x = s * s * ansQ l d e x := by
  unfold ansQ
  rw [dotQ_scale, ← Rat.mul_add, ans_scale s hs]
end Law
end
section
set_option Elab.async false
set_option linter.all false
set_option maxRecDepth 100000
set_option autoImplicit false
set_option exponentiation.threshold 20000
namespace Law
open Calc

theorem ans_set (nd xd df ef u v : D) (o3 o4 o5 o6 : Option D) (st : Store) (i2 : index nd (.int 2) st = some (.tup [df, ef])) (h1 : f__law_dot [df, xd] st = some (u, st)) (h2 : f__law_plus [u, ef] st = some (v, st)) :
    denS ((b__law_answer f__law_plus f__law_times f__law_dot).body.nth 0) [some nd, some xd, none, o3, o4, o5, o6] st = some (.next, [some nd, some xd, some v, o3, o4, o5, o6], st) := by
  have ia : index (.tup [df, ef]) (.int 0) st = some df := rfl
  have ib : index (.tup [df, ef]) (.int 1) st = some ef := rfl
  show denS (.set 2 _) _ _ = _
  simp [-Option.some.injEq, -Prod.mk.injEq, denS, denE, denEs, denT, denO, denTs, denSrc, bltn, binop, cmpop, eqv_int, abs_int, seqOf, atI, ixI, asTr, truth, i2, ia, ib, h1, h2]
theorem ans_here (nd xd a b c t u v : D) (o6 : Option D) (st : Store) (h1 : f__law_dot [a, xd] st = some (u, st)) (h2 : f__law_plus [u, b] st = some (v, st)) :
    denS (((b__law_answer f__law_plus f__law_times f__law_dot).body.nth 1).bd.nth 0) [some nd, some xd, some t, some a, some b, some c, o6] st = some (.next, [some nd, some xd, some t, some a, some b, some c, some v], st) := by
  show denS (.set 6 _) _ _ = _
  simp [-Option.some.injEq, -Prod.mk.injEq, denS, denE, denEs, denT, denO, denTs, denSrc, bltn, binop, cmpop, eqv_int, abs_int, index, seqOf, atI, ixI, asTr, truth, h1, h2]
theorem ans_add (nd xd a b c t p r : D) (q : Rat) (st : Store) (hq : 0 < q.num) (h1 : f__law_times [c, fr q] st = some (p, st)) (h2 : f__law_plus [t, p] st = some (r, st)) :
    denS (((b__law_answer f__law_plus f__law_times f__law_dot).body.nth 1).bd.nth 1) [some nd, some xd, some t, some a, some b, some c, some (fr q)] st = some (.next, [some nd, some xd, some r, some a, some b, some c, some (fr q)], st) := by
  have i0 : index (fr q) (.int 0) st = some (.int q.num) := rfl
  show denS (.ite _ _ _) _ _ = _
  refine s_iteT (st' := st) ?_ (ss_next (env' := [some nd, some xd, some r, some a, some b, some c, some (fr q)]) (st' := st) ?_ ss_nil)
  · simp [-Option.some.injEq, -Prod.mk.injEq, denS, denE, denEs, denT, denO, denTs, denSrc, bltn, binop, cmpop, eqv_int, abs_int, seqOf, atI, ixI, asTr, truth, i0, hq]
  · simp [-Option.some.injEq, -Prod.mk.injEq, denS, denE, denEs, denT, denO, denTs, denSrc, bltn, binop, cmpop, eqv_int, abs_int, index, seqOf, atI, ixI, asTr, truth, h1, h2]
theorem ans_no (nd xd a b c t : D) (q : Rat) (st : Store) (hq : ¬ 0 < q.num) :
    denS (((b__law_answer f__law_plus f__law_times f__law_dot).body.nth 1).bd.nth 1) [some nd, some xd, some t, some a, some b, some c, some (fr q)] st = some (.next, [some nd, some xd, some t, some a, some b, some c, some (fr q)], st) := by
  have i0 : index (fr q) (.int 0) st = some (.int q.num) := rfl
  show denS (.ite _ _ _) _ _ = _
  refine s_iteF (st' := st) ?_ ss_nil
  simp [-Option.some.injEq, -Prod.mk.injEq, denS, denE, denEs, denT, denO, denTs, denSrc, bltn, binop, cmpop, eqv_int, abs_int, seqOf, atI, ixI, asTr, truth, i0, hq]
theorem pow_mul_lt {a b k m : Nat} (ha : a < 2 ^ k) (hb : b < 2 ^ m) : a * b < 2 ^ (k + m) := by
  rw [Nat.pow_add]
  rcases Nat.eq_zero_or_pos a with z | z
  · rw [z, Nat.zero_mul]; exact Nat.mul_pos (Nat.two_pow_pos _) (Nat.two_pow_pos _)
  · exact Nat.mul_lt_mul'' ha hb
theorem pow_up {a k m : Nat} (ha : a < 2 ^ k) (h : k ≤ m) : a < 2 ^ m := Nat.lt_of_lt_of_le ha (Nat.pow_le_pow_right (by decide) h)
theorem pow_add_lt {a b k : Nat} (ha : a < 2 ^ k) (hb : b < 2 ^ k) : a + b < 2 ^ (k + 1) := by
  have : 2 ^ (k + 1) = 2 ^ k * 2 := Nat.pow_succ ..
  omega
section
variable {M B m n M' X : Nat} {hs : List Hg} {d : List Rat} {e : Rat} {x : List Rat}
/-- the bounds within an answer -/
structure AnsB (M B m n M' X len : Nat) : Prop where
  c0 : (n + 1) * (B * X + 1) < 2 ^ (3 * m + 25)
  c1 : M * (M * M') < 2 ^ (3 * m + 25)
  c2 : (n * (B * X) + B) < 2 ^ (3 * m + 25)
  c3 : (n * (B * X) + B) + len * (B * (n * (B * X) + B)) < 2 ^ (3 * m + 25)
  c4 : M * M' < 2 ^ (3 * m + 25)
theorem ansB {len : Nat} (hM : M < 2 ^ m) (hB : B < 2 ^ m) (hM' : M' < 2 ^ m) (hX : X < 2 ^ m) (hn : n ≤ 1000) (hl : len ≤ 1000) : AnsB M B m n M' X len := by
  have n1 : n < 2 ^ 10 := by have : (2:Nat) ^ 10 = 1024 := rfl; omega
  have n2 : n + 1 < 2 ^ 10 := by have : (2:Nat) ^ 10 = 1024 := rfl; omega
  have l1 : len < 2 ^ 10 := by have : (2:Nat) ^ 10 = 1024 := rfl; omega
  have bx := pow_mul_lt hB hX
  have bx1 : B * X + 1 < 2 ^ (m + m + 1) := by have : 2 ^ (m + m + 1) = 2 ^ (m + m) * 2 := Nat.pow_succ ..; omega
  have nbx := pow_mul_lt n1 bx
  have C : n * (B * X) + B < 2 ^ (10 + (m + m) + 1) := pow_add_lt nbx (pow_up hB (by omega))
  have BC := pow_mul_lt hB C
  have lBC := pow_mul_lt l1 BC
  refine ⟨pow_up (pow_mul_lt n2 bx1) (by omega), pow_up (pow_mul_lt hM (pow_mul_lt hM hM')) (by omega), pow_up C (by omega), ?_, pow_up (pow_mul_lt hM hM') (by omega)⟩
  exact pow_up (pow_add_lt (k := 10 + (m + (10 + (m + m) + 1))) (pow_up C (by omega)) lBC) (by omega)
theorem here_bq (N : NetOk M B m n hs d e) (hM' : 0 < M') (hx : ∀ q ∈ x, Bq M' X q) (hl : n ≤ x.length) {a : List Rat} {b : Rat} (ha : ∀ q ∈ a, Bq M B q) (hla : a.length = n) (hb : Bq M B b) : Bq (M * M') (n * (B * X) + B) (dotQ a x + b) := by
  have hMM := Nat.mul_pos N.pos hM'
  have h1 := dotTo_bq hMM ha hx a.length (Nat.le_refl _) (by omega)
  rw [hla] at h1
  have h2 := h1.add (hb.up (Nat.dvd_mul_right M M') hMM (Nat.le_refl _))
  unfold dotQ
  rw [hla]
  exact h2
theorem ans_bq (N : NetOk M B m n hs d e) (hM' : 0 < M') (hx : ∀ q ∈ x, Bq M' X q) (hl : n ≤ x.length) : ∀ i : Nat, Bq (M * (M * M')) ((n * (B * X) + B) + i * (B * (n * (B * X) + B))) (ansTo hs d e x i)
  | 0 => by
    have h := here_bq N hM' hx hl N.db N.dl N.eb
    have := h.up (Nat.dvd_mul_left (M * M') M) (Nat.mul_pos N.pos (Nat.mul_pos N.pos hM')) (Nat.le_refl _)
    simpa [-Option.some.injEq, -Prod.mk.injEq, denS, denE, denEs, denT, denO, denTs, denSrc, bltn, binop, cmpop, eqv_int, abs_int, index, seqOf, atI, ixI, asTr, truth, ansTo] using this
  | i + 1 => by
    have ih := ans_bq N hM' hx hl i
    cases q : hs[i]? with
    | none =>
      have hl2 := List.getElem?_eq_none_iff.mp q
      have e2 : ansTo hs d e x (i + 1) = ansTo hs d e x i := by unfold ansTo; rw [List.take_of_length_le (by omega), List.take_of_length_le hl2]
      rw [e2]
      exact ih.up (Nat.dvd_refl _) ih.pos (Nat.add_le_add_left (Nat.mul_le_mul_right _ (by omega)) _)
    | some h =>
      rw [ansTo_succ q]
      have hm := List.mem_of_getElem? q
      have h1 := here_bq N hM' hx hl (fun q hq => N.hb h hm q (mem_a hq)) (N.hl h hm) (N.hb h hm _ (mem_b h))
      have h2 := (N.hb h hm _ (mem_c h)).mul h1
      unfold addQ hereQ
      split
      · have h3 := ih.add h2
        refine h3.up (Nat.dvd_refl _) ih.pos ?_
        rw [Nat.succ_mul]; omega
      · exact ih.up (Nat.dvd_refl _) ih.pos (Nat.add_le_add_left (Nat.mul_le_mul_right _ (by omega)) _)
theorem answer_ok (N : NetOk M B m n hs d e) (hm : m ≤ 300) (hM' : 0 < M') (sM' : M' < 2 ^ m) (sX : X < 2 ^ m) (hx : ∀ q ∈ x, Bq M' X q) (hl : n ≤ x.length) (st : Store) : f__law_answer [netD n hs d e, row x] st = some (fr (ansQ hs d e x), st) := by
  have AB := ansB (n := n) (len := hs.length) N.sM N.sB sM' sX N.nl N.kl
  have hk : (3 * m + 25) + (3 * m + 25) ≤ 2000 := by omega
  have up : ∀ {y : Nat}, y < 2 ^ m → y < 2 ^ (3 * m + 25) := fun h => pow_up h (by omega)
  have dot : ∀ {a : List Rat}, (∀ q ∈ a, Bq M B q) → a.length = n → f__law_dot [row a, row x] st = some (fr (dotQ a x), st) := fun {a} ha hla =>
    dot_ok hk st N.pos hM' ha hx (by omega) (by have := N.nl; omega) AB.c4 (by rw [hla]; exact AB.c0) (up N.sM) (up sM') (up N.sB) (up sX)
  have bdot : ∀ {a : List Rat}, (∀ q ∈ a, Bq M B q) → a.length = n → Bd (dotQ a x) := fun {a} ha hla => by
    have h1 := dotTo_bq (Nat.mul_pos N.pos hM') ha hx a.length (Nat.le_refl _) (by omega)
    refine h1.bd AB.c4 (Nat.lt_of_le_of_lt ?_ AB.c2) hk
    rw [hla]; omega
  have bent : ∀ {q : Rat}, Bq M B q → Bd q := fun h => h.bd (up N.sM) (up N.sB) hk
  have bhere : ∀ {a : List Rat} {b : Rat}, (∀ q ∈ a, Bq M B q) → a.length = n → Bq M B b → Bd (dotQ a x + b) := fun {a b} ha hla hb => (here_bq N hM' hx hl ha hla hb).bd AB.c4 AB.c2 hk
  have btot : ∀ i, i ≤ hs.length → Bd (ansTo hs d e x i) := fun i hi => (ans_bq N hM' hx hl i).bd AB.c1 (Nat.lt_of_le_of_lt (Nat.add_le_add_left (Nat.mul_le_mul_right _ hi) _) AB.c3) hk
  obtain ⟨env', st', e1, o3, o4, o5, o6, rfl, rfl⟩ := for_inv (ok := Walk.ok ⟨hs.map hd, []⟩) (t := .tup [.nm 3, .nm 4, .nm 5]) (body := fun env st => denSs ((b__law_answer f__law_plus f__law_times f__law_dot).body.nth 1).bd env st)
    (fun i env st' => ∃ o3 o4 o5 o6, env = [some (netD n hs d e), some (row x), some (fr (ansTo hs d e x i)), o3, o4, o5, o6] ∧ st' = st) (items := hs.map hd) (env := [some (netD n hs d e), some (row x), some (fr (ansTo hs d e x 0)), none, none, none, none]) (st := st) ⟨_, _, _, _, rfl, rfl⟩
    (fun i dd env st' hd' hI => by
      obtain ⟨h, hq, rfl⟩ := map_at hd'
      obtain ⟨o3, o4, o5, o6, rfl, rfl⟩ := hI
      have hmem := List.mem_of_getElem? hq
      have hil := (List.getElem?_eq_some_iff.mp hq).1
      have ha : ∀ q ∈ h.1, Bq M B q := fun q hq => N.hb h hmem q (mem_a hq)
      have hbb := N.hb h hmem _ (mem_b h)
      have hcb := N.hb h hmem _ (mem_c h)
      have h1 := dot ha (N.hl h hmem)
      have h2 := law_plus_ok (dotQ h.1 x) h.2.1 st' (bdot ha (N.hl h hmem)) (bent hbb)
      have hbh := bhere ha (N.hl h hmem) hbb
      have h3 := law_times_ok h.2.2 (dotQ h.1 x + h.2.1) st' (bent hcb) hbh
      have h4 := law_plus_ok (ansTo hs d e x i) (h.2.2 * (dotQ h.1 x + h.2.1)) st' (btot i (by omega)) ((hcb.mul (here_bq N hM' hx hl ha (N.hl h hmem) hbb)).bd AB.c1 (Nat.lt_of_le_of_lt (by
        have : 1 * (B * (n * (B * X) + B)) ≤ hs.length * (B * (n * (B * X) + B)) := Nat.mul_le_mul_right _ (by omega)
        omega) AB.c3) hk)
      have s1 := ans_here (netD n hs d e) (row x) (row h.1) (fr h.2.1) (fr h.2.2) (fr (ansTo hs d e x i)) _ _ o6 st' h1 h2
      refine ⟨rfl, [some (netD n hs d e), some (row x), some (fr (ansTo hs d e x i)), some (row h.1), some (fr h.2.1), some (fr h.2.2), o6], [some (netD n hs d e), some (row x), some (fr (ansTo hs d e x (i + 1))), some (row h.1), some (fr h.2.1), some (fr h.2.2), some (fr (dotQ h.1 x + h.2.1))], st', rfl, ?_, _, _, _, _, rfl, rfl⟩
      rw [ansTo_succ hq]
      by_cases hp : 0 < (dotQ h.1 x + h.2.1).num
      · have e2 : addQ x (ansTo hs d e x i) h = ansTo hs d e x i + h.2.2 * (dotQ h.1 x + h.2.1) := if_pos hp
        rw [e2]
        exact ss_next s1 (ss_next (ans_add _ _ _ _ _ _ _ _ _ _ hp h3 h4) ss_nil)
      · have e2 : addQ x (ansTo hs d e x i) h = ansTo hs d e x i := if_neg hp
        rw [e2]
        exact ss_next s1 (ss_next (ans_no _ _ _ _ _ _ _ _ hp) ss_nil))
    (fun _ _ _ => rfl)
  have hlen : (hs.map hd).length = hs.length := List.length_map _
  rw [hlen] at e1
  have ef : ansTo hs d e x hs.length = ansQ hs d e x := by unfold ansTo ansQ; rw [List.take_length]
  rw [ef] at e1
  have e0 : ansTo hs d e x 0 = dotQ d x + e := rfl
  rw [e0] at e1
  have z1 := dot N.db N.dl
  have z2 := law_plus_ok (dotQ d x) e st' (bdot N.db N.dl) (bent N.eb)
  exact def_pure (env0 := [_, _, _, _, _, _, _]) rfl rfl (ss_next (ans_set _ _ _ _ _ _ _ _ _ _ st' rfl z1 z2) (ss_next (s_for (w := ⟨hs.map hd, []⟩) (s_seqT (e_ixV rfl rfl)) e1) (ss_ret (s_ret (by simp [-Option.some.injEq, -Prod.mk.injEq, denS, denE, denEs, denT, denO, denTs, denSrc, bltn, binop, cmpop, eqv_int, abs_int, index, seqOf, atI, ixI, asTr, truth] <;> rfl)))))
end
end Law
end
section
set_option Elab.async false
set_option linter.all false
set_option maxRecDepth 100000
set_option autoImplicit false
set_option exponentiation.threshold 20000
namespace Law
open Calc

def pr (p : Rat × Rat) : D := .tup [fr p.1, fr p.2]
def boxD (bx : List (Rat × Rat)) : D := .tup (bx.map pr)
def lo1 (a : Rat) (p : Rat × Rat) : Rat := if 0 < a.num then a * p.1 else a * p.2
def hi1 (a : Rat) (p : Rat × Rat) : Rat := if 0 < a.num then a * p.2 else a * p.1
def sumTo (f : Rat → Rat × Rat → Rat) (b : Rat) (a : List Rat) (bx : List (Rat × Rat)) : Nat → Rat
  | 0 => b
  | k + 1 => sumTo f b a bx k + f (a.getD k 0) (bx.getD k (0, 0))
theorem getD_at {α : Type} {l : List α} {k : Nat} {x z : α} (h : l[k]? = some x) : l.getD k z = x := by rw [List.getD_eq_getElem?_getD, h]; rfl
theorem sum_bq {M M' B X : Nat} {f : Rat → Rat × Rat → Rat} {b : Rat} {a : List Rat} {bx : List (Rat × Rat)} (hM : 0 < M) (hM' : 0 < M') (hf : ∀ q p, Bq M B q → Bq M' X p.1 → Bq M' X p.2 → Bq (M * M') (B * X) (f q p)) (hb : Bq M B b) (ha : ∀ q ∈ a, Bq M B q) (hx : ∀ p ∈ bx, Bq M' X p.1 ∧ Bq M' X p.2) :
    ∀ k, k ≤ a.length → k ≤ bx.length → Bq (M * M') (B + k * (B * X)) (sumTo f b a bx k)
  | 0, _, _ => by
    have := hb.up (Nat.dvd_mul_right M M') (Nat.mul_pos hM hM') (Nat.le_refl _)
    simpa [-Option.some.injEq, -Prod.mk.injEq, denS, denE, denEs, denT, denO, denTs, denSrc, bltn, binop, cmpop, eqv_int, abs_int, index, seqOf, atI, ixI, asTr, truth, sumTo] using this
  | k + 1, h1, h2 => by
    have ih := sum_bq hM hM' hf hb ha hx k (by omega) (by omega)
    have e1 := getD_at (z := (0 : Rat)) (List.getElem?_eq_getElem (show k < a.length by omega))
    have e2 := getD_at (z := ((0, 0) : Rat × Rat)) (List.getElem?_eq_getElem (show k < bx.length by omega))
    unfold sumTo
    rw [e1, e2]
    have p := hx bx[k] (List.getElem_mem _)
    have h3 := ih.add (hf a[k] bx[k] (ha _ (List.getElem_mem _)) p.1 p.2)
    refine h3.up (Nat.dvd_refl _) h3.pos ?_
    rw [Nat.succ_mul]; omega
theorem lo1_bq {M M' B X : Nat} (q : Rat) (p : Rat × Rat) (h : Bq M B q) (h1 : Bq M' X p.1) (h2 : Bq M' X p.2) : Bq (M * M') (B * X) (lo1 q p) := by
  unfold lo1
  split
  · exact h.mul h1
  · exact h.mul h2
theorem hi1_bq {M M' B X : Nat} (q : Rat) (p : Rat × Rat) (h : Bq M B q) (h1 : Bq M' X p.1) (h2 : Bq M' X p.2) : Bq (M * M') (B * X) (hi1 q p) := by
  unfold hi1
  split
  · exact h.mul h2
  · exact h.mul h1
theorem mul_le_l {a p q : Rat} (ha : 0 ≤ a) (h : p ≤ q) : a * p ≤ a * q := Rat.mul_le_mul_of_nonneg_left h ha
theorem lo_less {a : Rat} {p : Rat × Rat} (h : p.1 ≤ p.2) : (if a * p.1 < a * p.2 then a * p.1 else a * p.2) = lo1 a p := by
  unfold lo1
  by_cases c : 0 < a
  · rw [if_pos ((num_pos _).mpr c)]
    have h1 := mul_le_l (Rat.le_of_lt c) h
    split
    · rfl
    · grind
  · rw [if_neg fun z => c ((num_pos _).mp z)]
    have h1 := mul_le_l (a := -a) (by grind) h
    have h2 : ¬ a * p.1 < a * p.2 := by grind
    rw [if_neg h2]
theorem hi_less {a : Rat} {p : Rat × Rat} (h : p.1 ≤ p.2) : (if a * p.1 < a * p.2 then a * p.2 else a * p.1) = hi1 a p := by
  unfold hi1
  by_cases c : 0 < a
  · rw [if_pos ((num_pos _).mpr c)]
    have h1 := mul_le_l (Rat.le_of_lt c) h
    split
    · rfl
    · grind
  · rw [if_neg fun z => c ((num_pos _).mp z)]
    have h1 := mul_le_l (a := -a) (by grind) h
    have h2 : ¬ a * p.1 < a * p.2 := by grind
    rw [if_neg h2]

theorem set_last (st : Store) (c c' : Cell) : (st ++ [c]).set st.length c' = st ++ [c'] := by
  rw [List.set_append_right _ _ (Nat.le_refl _), Nat.sub_self]; rfl
theorem at_last (st : Store) (c : Cell) : (st ++ [c])[st.length]? = some c := by
  rw [List.getElem?_append_right (Nat.le_refl _), Nat.sub_self]; rfl
theorem app_last (st : Store) (xs : List D) (x : D) (h : xs.length < SZ) : meth .append (.loc st.length) [x] (st ++ [Cell.lst xs]) = some (.non, st ++ [Cell.lst (xs ++ [x])]) := by
  unfold meth
  simp only [at_last]
  rw [if_pos h, set_last]

/-! ### the law's own bounds -/
theorem lb_step (nd bd L b c low high a l h ba bb t1 t2 r1 r2 : D) (q : Rat) (k : Nat) (o9 o10 : Option D) (st : Store) (i1 : index a (.int k) st = some (fr q)) (i2 : index bd (.int k) st = some (.tup [ba, bb])) (h1 : f__law_times [fr q, ba] st = some (t1, st)) (h2 : f__law_times [fr q, bb] st = some (t2, st))
    (h3 : f__law_plus [low, if 0 < q.num then t1 else t2] st = some (r1, st)) (h4 : f__law_plus [high, if 0 < q.num then t2 else t1] st = some (r2, st)) :
    denSs (((b__law_bounds f__law_plus f__law_times).body.nth 1).bd.nth 1).bd [some nd, some bd, some L, some a, some b, some c, some low, some high, some (.int k), o9, o10] st = some (.next, [some nd, some bd, some L, some a, some b, some c, some r1, some r2, some (.int k), some t1, some t2], st) := by
  have ia : index (.tup [ba, bb]) (.int 0) st = some ba := rfl
  have ib : index (.tup [ba, bb]) (.int 1) st = some bb := rfl
  have iq : index (fr q) (.int 0) st = some (.int q.num) := rfl
  show denSs (.cons (.par 9 10 _ _) (.cons (.set 6 _) (.cons (.set 7 _) .nil))) _ _ = _
  refine ss_next (env' := [some nd, some bd, some L, some a, some b, some c, some low, some high, some (.int k), some t1, some t2]) (st' := st) (by simp [-Option.some.injEq, -Prod.mk.injEq, denS, denE, denEs, denT, denO, denTs, denSrc, bltn, binop, cmpop, eqv_int, abs_int, seqOf, atI, ixI, asTr, truth, i1, i2, ia, ib, h1, h2]) (ss_next (env' := [some nd, some bd, some L, some a, some b, some c, some r1, some high, some (.int k), some t1, some t2]) (st' := st) ?_ (ss_next (env' := [some nd, some bd, some L, some a, some b, some c, some r1, some r2, some (.int k), some t1, some t2]) (st' := st) ?_ ss_nil))
  · by_cases hp : 0 < q.num
    · rw [if_pos hp] at h3
      simp [-Option.some.injEq, -Prod.mk.injEq, denS, denE, denEs, denT, denO, denTs, denSrc, bltn, binop, cmpop, eqv_int, abs_int, seqOf, atI, ixI, asTr, truth, i1, iq, hp, h3]
    · rw [if_neg hp] at h3
      simp [-Option.some.injEq, -Prod.mk.injEq, denS, denE, denEs, denT, denO, denTs, denSrc, bltn, binop, cmpop, eqv_int, abs_int, seqOf, atI, ixI, asTr, truth, i1, iq, hp, h3]
  · by_cases hp : 0 < q.num
    · rw [if_pos hp] at h4
      simp [-Option.some.injEq, -Prod.mk.injEq, denS, denE, denEs, denT, denO, denTs, denSrc, bltn, binop, cmpop, eqv_int, abs_int, seqOf, atI, ixI, asTr, truth, i1, iq, hp, h4]
    · rw [if_neg hp] at h4
      simp [-Option.some.injEq, -Prod.mk.injEq, denS, denE, denEs, denT, denO, denTs, denSrc, bltn, binop, cmpop, eqv_int, abs_int, seqOf, atI, ixI, asTr, truth, i1, iq, hp, h4]
def bdQ (bx : List (Rat × Rat)) (h : Hg) : D := .tup [fr (sumTo lo1 h.2.1 h.1 bx h.1.length), fr (sumTo hi1 h.2.1 h.1 bx h.1.length)]
structure BoxOk (M' X m n : Nat) (bx : List (Rat × Rat)) : Prop where
  pos : 0 < M'
  sM : M' < 2 ^ m
  sX : X < 2 ^ m
  ent : ∀ p ∈ bx, Bq M' X p.1 ∧ Bq M' X p.2
  ord : ∀ p ∈ bx, p.1 ≤ p.2
  len : bx.length = n
section
variable {M B m n M' X : Nat} {hs : List Hg} {d : List Rat} {e : Rat} {bx : List (Rat × Rat)}
/-- what both walks need at one step -/
structure StepB (bx : List (Rat × Rat)) (h : Hg) (k : Nat) (q : Rat) (p : Rat × Rat) (st : Store) : Prop where
  bq : Bd q
  b1 : Bd p.1
  b2 : Bd p.2
  m1 : Bd (q * p.1)
  m2 : Bd (q * p.2)
  lo : Bd (sumTo lo1 h.2.1 h.1 bx k)
  hi : Bd (sumTo hi1 h.2.1 h.1 bx k)
  l1 : Bd (lo1 q p)
  h1 : Bd (hi1 q p)
theorem stepB (N : NetOk M B m n hs d e) (hm : m ≤ 300) (Bx : BoxOk M' X m n bx) {h : Hg} (hh : h ∈ hs) {k : Nat} {q : Rat} {p : Rat × Rat} (hq : h.1[k]? = some q) (hp : bx[k]? = some p) (st : Store) : StepB bx h k q p st := by
  have AB := ansB (n := n) (len := hs.length) N.sM N.sB Bx.sM Bx.sX N.nl N.kl
  have hk : (3 * m + 25) + (3 * m + 25) ≤ 2000 := by omega
  have up : ∀ {y : Nat}, y < 2 ^ m → y < 2 ^ (3 * m + 25) := fun h => pow_up h (by omega)
  have qb := N.hb h hh q (mem_a (List.mem_of_getElem? hq))
  have pb := Bx.ent p (List.mem_of_getElem? hp)
  have hkn : k < n := by have := (List.getElem?_eq_some_iff.mp hq).1; rw [N.hl h hh] at this; exact this
  have bxl : B * X < 2 ^ (3 * m + 25) := by
    have : 1 * (B * X + 1) ≤ (n + 1) * (B * X + 1) := Nat.mul_le_mul_right _ (by omega)
    have := AB.c0
    omega
  have sm : ∀ {f : Rat → Rat × Rat → Rat}, (∀ q p, Bq M B q → Bq M' X p.1 → Bq M' X p.2 → Bq (M * M') (B * X) (f q p)) → Bd (sumTo f h.2.1 h.1 bx k) := fun {f} hf => by
    have h1 := sum_bq N.pos Bx.pos hf (N.hb h hh _ (mem_b h)) (fun q hq => N.hb h hh q (mem_a hq)) Bx.ent k (by rw [N.hl h hh]; omega) (by rw [Bx.len]; omega)
    refine h1.bd AB.c4 (Nat.lt_of_le_of_lt ?_ AB.c2) hk
    rw [Nat.add_comm]
    exact Nat.add_le_add_right (Nat.mul_le_mul_right _ (by omega)) _
  exact ⟨qb.bd (up N.sM) (up N.sB) hk, pb.1.bd (up Bx.sM) (up Bx.sX) hk, pb.2.bd (up Bx.sM) (up Bx.sX) hk, (qb.mul pb.1).bd AB.c4 bxl hk, (qb.mul pb.2).bd AB.c4 bxl hk, sm lo1_bq, sm hi1_bq, (lo1_bq q p qb pb.1 pb.2).bd AB.c4 bxl hk, (hi1_bq q p qb pb.1 pb.2).bd AB.c4 bxl hk⟩
theorem lb_inner (N : NetOk M B m n hs d e) (hm : m ≤ 300) (Bx : BoxOk M' X m n bx) {h : Hg} (hh : h ∈ hs) (L : D) (o8 o9 o10 : Option D) (st : Store) :
    ∃ p8 p9 p10, denS (((b__law_bounds f__law_plus f__law_times).body.nth 1).bd.nth 1) [some (netD n hs d e), some (boxD bx), some L, some (row h.1), some (fr h.2.1), some (fr h.2.2), some (fr h.2.1), some (fr h.2.1), o8, o9, o10] st =
      some (.next, [some (netD n hs d e), some (boxD bx), some L, some (row h.1), some (fr h.2.1), some (fr h.2.2), some (fr (sumTo lo1 h.2.1 h.1 bx h.1.length)), some (fr (sumTo hi1 h.2.1 h.1 bx h.1.length)), p8, p9, p10], st) := by
  have hln := N.hl h hh
  rw [hln]
  have hr : rngOf [.int n] = some ⟨(List.range n).map fun (i : Nat) => D.int (i : Int), []⟩ := rng_at (by have := N.nl; omega)
  generalize hits : ((List.range n).map fun (i : Nat) => D.int (i : Int)) = its at hr
  have hil : its.length = n := by rw [← hits, List.length_map, List.length_range]
  obtain ⟨env', st', e1, p8, p9, p10, rfl, rfl⟩ := for_inv (ok := Walk.ok ⟨its, []⟩) (t := .nm 8) (body := fun env st => denSs (((b__law_bounds f__law_plus f__law_times).body.nth 1).bd.nth 1).bd env st)
    (fun i env st' => ∃ o8 o9 o10, env = [some (netD n hs d e), some (boxD bx), some L, some (row h.1), some (fr h.2.1), some (fr h.2.2), some (fr (sumTo lo1 h.2.1 h.1 bx i)), some (fr (sumTo hi1 h.2.1 h.1 bx i)), o8, o9, o10] ∧ st' = st) (items := its)
    (env := [some (netD n hs d e), some (boxD bx), some L, some (row h.1), some (fr h.2.1), some (fr h.2.2), some (fr h.2.1), some (fr h.2.1), o8, o9, o10]) (st := st) ⟨_, _, _, rfl, rfl⟩
    (fun i dd env st' hd' hI => by
      rw [← hits] at hd'
      obtain ⟨hi, rfl⟩ := range_at hd'
      obtain ⟨o8, o9, o10, rfl, rfl⟩ := hI
      have hi1' : i < h.1.length := by rw [N.hl h hh]; exact hi
      have hi2' : i < bx.length := by rw [Bx.len]; exact hi
      have q1 := List.getElem?_eq_getElem hi1'
      have q2 := List.getElem?_eq_getElem hi2'
      generalize h.1[i] = q at q1
      generalize bx[i] = p at q2
      have S := stepB N hm Bx hh q1 q2 st'
      have i1 : index (row h.1) (.int i) st' = some (fr q) := by show atI (h.1.map fr) i = _; exact atI_nat (by rw [List.getElem?_map, q1]; rfl)
      have i2 : index (boxD bx) (.int i) st' = some (.tup [fr p.1, fr p.2]) := by show atI (bx.map pr) i = _; exact atI_nat (by rw [List.getElem?_map, q2]; rfl)
      have e2 : sumTo lo1 h.2.1 h.1 bx (i + 1) = sumTo lo1 h.2.1 h.1 bx i + lo1 q p := by show _ + lo1 _ _ = _; rw [getD_at q1, getD_at q2]
      have e3 : sumTo hi1 h.2.1 h.1 bx (i + 1) = sumTo hi1 h.2.1 h.1 bx i + hi1 q p := by show _ + hi1 _ _ = _; rw [getD_at q1, getD_at q2]
      have t1 := law_times_ok q p.1 st' S.bq S.b1
      have t2 := law_times_ok q p.2 st' S.bq S.b2
      have t3 := law_plus_ok _ _ st' S.lo S.l1
      have t4 := law_plus_ok _ _ st' S.hi S.h1
      have f1 : fr (lo1 q p) = if 0 < q.num then fr (q * p.1) else fr (q * p.2) := by unfold lo1; split <;> rfl
      have f2 : fr (hi1 q p) = if 0 < q.num then fr (q * p.2) else fr (q * p.1) := by unfold hi1; split <;> rfl
      rw [f1] at t3
      rw [f2] at t4
      exact ⟨rfl, [some (netD n hs d e), some (boxD bx), some L, some (row h.1), some (fr h.2.1), some (fr h.2.2), some (fr (sumTo lo1 h.2.1 h.1 bx i)), some (fr (sumTo hi1 h.2.1 h.1 bx i)), some (.int i), o9, o10], _, st', rfl, lb_step _ _ _ _ _ _ _ _ (fr p.1) (fr p.1) _ _ _ _ _ _ q i o9 o10 st' i1 i2 t1 t2 t3 t4, _, _, _, by rw [e2, e3], rfl⟩)
    (fun _ _ _ => rfl)
  rw [hil] at e1
  refine ⟨p8, p9, p10, s_for (w := ⟨its, []⟩) (s_rng ?_ hr) e1⟩
  simp only [denEs]
  rw [e_ixV (x := netD n hs d e) (d := .int n) rfl rfl]
  rfl
theorem lb_outer (nd bd a b c l h : D) (xs : List D) (o3 o4 o5 o6 o7 o8 o9 o10 p8 p9 p10 : Option D) (st : Store) (hx : xs.length < SZ)
    (hin : denS (((b__law_bounds f__law_plus f__law_times).body.nth 1).bd.nth 1) [some nd, some bd, some (.loc st.length), some a, some b, some c, some b, some b, o8, o9, o10] (st ++ [Cell.lst xs]) = some (.next, [some nd, some bd, some (.loc st.length), some a, some b, some c, some l, some h, p8, p9, p10], st ++ [Cell.lst xs])) :
    denSs ((b__law_bounds f__law_plus f__law_times).body.nth 1).bd [some nd, some bd, some (.loc st.length), some a, some b, some c, o6, o7, o8, o9, o10] (st ++ [Cell.lst xs]) = some (.next, [some nd, some bd, some (.loc st.length), some a, some b, some c, some l, some h, p8, p9, p10], st ++ [Cell.lst (xs ++ [.tup [l, h]])]) := by
  have ap := app_last st xs (.tup [l, h]) hx
  refine ss_next (env' := [some nd, some bd, some (.loc st.length), some a, some b, some c, some b, some b, o8, o9, o10]) (st' := st ++ [Cell.lst xs]) (by simp [-Option.some.injEq, -Prod.mk.injEq, denS, denE, denEs, denT, denO, denTs, denSrc, bltn, binop, cmpop, eqv_int, abs_int, index, seqOf, atI, ixI, asTr, truth]) (ss_next hin (ss_next (env' := [some nd, some bd, some (.loc st.length), some a, some b, some c, some l, some h, p8, p9, p10]) (st' := st ++ [Cell.lst (xs ++ [.tup [l, h]])]) ?_ ss_nil))
  simp [-Option.some.injEq, -Prod.mk.injEq, denS, denE, denEs, denT, denO, denTs, denSrc, bltn, binop, cmpop, eqv_int, abs_int, index, seqOf, atI, ixI, asTr, truth, SZ, ap]
theorem under_bd (k : Nat) (bx : List (Rat × Rat)) : ∀ hs : List Hg, D.unders k (hs.map (bdQ bx)) = true
  | [] => rfl
  | h :: hs => by
    show (D.under k (bdQ bx h) && D.unders k (hs.map (bdQ bx))) = true
    rw [under_bd k bx hs, Bool.and_true]
    rfl
theorem law_bounds_ok (N : NetOk M B m n hs d e) (hm : m ≤ 300) (Bx : BoxOk M' X m n bx) (st : Store) : f__law_bounds [netD n hs d e, boxD bx] st = some (.tup (hs.map (bdQ bx)), st) := by
  obtain ⟨env', st', e1, o3, o4, o5, o6, o7, o8, o9, o10, rfl, rfl⟩ := for_inv (ok := Walk.ok ⟨hs.map hd, []⟩) (t := .tup [.nm 3, .nm 4, .nm 5]) (body := fun env st => denSs ((b__law_bounds f__law_plus f__law_times).body.nth 1).bd env st)
    (fun i env st' => ∃ o3 o4 o5 o6 o7 o8 o9 o10, env = [some (netD n hs d e), some (boxD bx), some (.loc st.length), o3, o4, o5, o6, o7, o8, o9, o10] ∧ st' = st ++ [Cell.lst ((hs.take i).map (bdQ bx))]) (items := hs.map hd)
    (env := [some (netD n hs d e), some (boxD bx), some (.loc st.length), none, none, none, none, none, none, none, none]) (st := st ++ [Cell.lst []]) ⟨_, _, _, _, _, _, _, _, rfl, rfl⟩
    (fun i dd env st' hd' hI => by
      obtain ⟨h, hq, rfl⟩ := map_at hd'
      obtain ⟨o3, o4, o5, o6, o7, o8, o9, o10, rfl, rfl⟩ := hI
      have hmem := List.mem_of_getElem? hq
      have hil := (List.getElem?_eq_some_iff.mp hq).1
      obtain ⟨p8, p9, p10, hin⟩ := lb_inner N hm Bx hmem (.loc st.length) o8 o9 o10 (st ++ [Cell.lst ((hs.take i).map (bdQ bx))])
      have ho := lb_outer _ _ _ _ _ _ _ ((hs.take i).map (bdQ bx)) o3 o4 o5 o6 o7 o8 o9 o10 p8 p9 p10 st (by rw [List.length_map, List.length_take]; have := N.kl; unfold SZ; omega) hin
      refine ⟨rfl, [some (netD n hs d e), some (boxD bx), some (.loc st.length), some (row h.1), some (fr h.2.1), some (fr h.2.2), o6, o7, o8, o9, o10], _, _, rfl, ho, _, _, _, _, _, _, _, _, rfl, ?_⟩
      rw [List.take_add_one, hq, Option.toList_some, List.map_append]; rfl)
    (fun _ _ _ => rfl)
  rw [List.length_map, List.take_length] at e1
  refine def_app (env0 := [_, _, _, _, _, _, _, _, _, _, _]) (ex := [Cell.lst (hs.map (bdQ bx))]) rfl rfl (ss_next (env' := [some (netD n hs d e), some (boxD bx), some (.loc st.length), none, none, none, none, none, none, none, none]) (st' := st ++ [Cell.lst []]) (by simp [-Option.some.injEq, -Prod.mk.injEq, denS, denE, denEs, denT, denO, denTs, denSrc, bltn, binop, cmpop, eqv_int, abs_int, index, seqOf, atI, ixI, asTr, truth, SZ]) (ss_next (s_for (w := ⟨hs.map hd, []⟩) (st' := st ++ [Cell.lst []]) (s_seqT (e_ixV rfl rfl)) e1) (ss_ret (s_ret ?_)))) (under_bd _ _ _)
  rw [e_bl1]
  generalize hs.map (bdQ bx) = Y
  simp [-Option.some.injEq, -Prod.mk.injEq, denS, denE, denEs, denT, denO, denTs, denSrc, bltn, binop, cmpop, eqv_int, abs_int, index, seqOf, atI, ixI, asTr, truth, at_last]
end
end Law
end
section
set_option Elab.async false
set_option linter.all false
set_option maxRecDepth 100000
set_option autoImplicit false
set_option exponentiation.threshold 20000
namespace Law
open Calc

theorem zipM_at : ∀ {xs ys : List D} {i : Nat} {d : D}, (zipD xs ys)[i]? = some d → ∃ x y, xs[i]? = some x ∧ ys[i]? = some y ∧ d = .tup [x, y]
  | [], ys, i, d, h => by cases ys <;> simp [-Option.some.injEq, -Prod.mk.injEq, denS, denE, denEs, denT, denO, denTs, denSrc, bltn, binop, cmpop, eqv_int, abs_int, index, seqOf, atI, ixI, asTr, truth, zipD] at h
  | x :: xs, [], i, d, h => by simp [-Option.some.injEq, -Prod.mk.injEq, denS, denE, denEs, denT, denO, denTs, denSrc, bltn, binop, cmpop, eqv_int, abs_int, index, seqOf, atI, ixI, asTr, truth, zipD] at h
  | x :: xs, y :: ys, 0, d, h => by
    simp only [zipD, List.getElem?_cons_zero] at h
    cases h
    exact ⟨x, y, rfl, rfl, rfl⟩
  | x :: xs, y :: ys, i + 1, d, h => by
    simp only [zipD, List.getElem?_cons_succ] at h
    obtain ⟨a, b, h1, h2, h3⟩ := zipM_at h
    exact ⟨a, b, by simpa [-Option.some.injEq, -Prod.mk.injEq, denS, denE, denEs, denT, denO, denTs, denSrc, bltn, binop, cmpop, eqv_int, abs_int, index, seqOf, atI, ixI, asTr, truth] using h1, by simpa [-Option.some.injEq, -Prod.mk.injEq, denS, denE, denEs, denT, denO, denTs, denSrc, bltn, binop, cmpop, eqv_int, abs_int, index, seqOf, atI, ixI, asTr, truth] using h2, h3⟩
theorem zipM_len : ∀ xs ys : List D, (zipD xs ys).length = min xs.length ys.length
  | [], ys => by cases ys <;> simp [-Option.some.injEq, -Prod.mk.injEq, denS, denE, denEs, denT, denO, denTs, denSrc, bltn, binop, cmpop, eqv_int, abs_int, index, seqOf, atI, ixI, asTr, truth, zipD]
  | x :: xs, [] => by simp [-Option.some.injEq, -Prod.mk.injEq, denS, denE, denEs, denT, denO, denTs, denSrc, bltn, binop, cmpop, eqv_int, abs_int, index, seqOf, atI, ixI, asTr, truth, zipD]
  | x :: xs, y :: ys => by simp only [zipD, List.length_cons, zipM_len xs ys]; omega
theorem ib_step (nd bd L a b c low high num one two f s l1 h1 r1 r2 : D) (lt : Bool) (o11 o12 : Option D) (st : Store) (t1 : f_product [num, one] st = some (f, st)) (t2 : f_product [num, two] st = some (s, st)) (t3 : f_is_less [f, s] st = some (.bl lt, st)) (t4 : f_plus [low, if lt = true then f else s] st = some (r1, st))
    (t5 : f_greater_of [f, s] st = some (h1, st)) (t6 : f_plus [high, h1] st = some (r2, st)) :
    denSs (((b_inner_bounds f_plus f_greater_of f_is_less f_product).body.nth 1).bd.nth 1).bd [some nd, some bd, some L, some a, some b, some c, some low, some high, some num, some one, some two, o11, o12] st = some (.next, [some nd, some bd, some L, some a, some b, some c, some r1, some r2, some num, some one, some two, some f, some s], st) := by
  show denSs (.cons (.par 11 12 _ _) (.cons (.set 6 _) (.cons (.set 7 _) .nil))) _ _ = _
  refine ss_next (env' := [some nd, some bd, some L, some a, some b, some c, some low, some high, some num, some one, some two, some f, some s]) (st' := st) (by simp [-Option.some.injEq, -Prod.mk.injEq, denS, denE, denEs, denT, denO, denTs, denSrc, bltn, binop, cmpop, eqv_int, abs_int, index, seqOf, atI, ixI, asTr, truth, t1, t2]) (ss_next (env' := [some nd, some bd, some L, some a, some b, some c, some r1, some high, some num, some one, some two, some f, some s]) (st' := st) ?_ (ss_next (env' := [some nd, some bd, some L, some a, some b, some c, some r1, some r2, some num, some one, some two, some f, some s]) (st' := st) (by simp [-Option.some.injEq, -Prod.mk.injEq, denS, denE, denEs, denT, denO, denTs, denSrc, bltn, binop, cmpop, eqv_int, abs_int, index, seqOf, atI, ixI, asTr, truth, t5, t6]) ss_nil))
  cases lt with
  | true =>
    rw [if_pos rfl] at t4
    simp [-Option.some.injEq, -Prod.mk.injEq, denS, denE, denEs, denT, denO, denTs, denSrc, bltn, binop, cmpop, eqv_int, abs_int, index, seqOf, atI, ixI, asTr, truth, t3, t4]
  | false =>
    rw [if_neg Bool.false_ne_true] at t4
    simp [-Option.some.injEq, -Prod.mk.injEq, denS, denE, denEs, denT, denO, denTs, denSrc, bltn, binop, cmpop, eqv_int, abs_int, index, seqOf, atI, ixI, asTr, truth, t3, t4]
section
variable {M B m n M' X : Nat} {hs : List Hg} {d : List Rat} {e : Rat} {bx : List (Rat × Rat)}
theorem ib_inner (N : NetOk M B m n hs d e) (hm : m ≤ 300) (Bx : BoxOk M' X m n bx) {h : Hg} (hh : h ∈ hs) (L : D) (o8 o9 o10 o11 o12 : Option D) (st : Store) :
    ∃ p8 p9 p10 p11 p12, denS (((b_inner_bounds f_plus f_greater_of f_is_less f_product).body.nth 1).bd.nth 1) [some (netD n hs d e), some (boxD bx), some L, some (row h.1), some (fr h.2.1), some (fr h.2.2), some (fr h.2.1), some (fr h.2.1), o8, o9, o10, o11, o12] st =
      some (.next, [some (netD n hs d e), some (boxD bx), some L, some (row h.1), some (fr h.2.1), some (fr h.2.2), some (fr (sumTo lo1 h.2.1 h.1 bx h.1.length)), some (fr (sumTo hi1 h.2.1 h.1 bx h.1.length)), p8, p9, p10, p11, p12], st) := by
  have hln := N.hl h hh
  rw [hln]
  have hzl : (zipD (h.1.map fr) (bx.map pr)).length = n := by rw [zipM_len, List.length_map, List.length_map, hln, Bx.len, Nat.min_self]
  obtain ⟨env', st', e1, p8, p9, p10, p11, p12, rfl, rfl⟩ := for_inv (ok := Walk.ok ⟨zipD (h.1.map fr) (bx.map pr), []⟩) (t := .tup [.nm 8, .tup [.nm 9, .nm 10]]) (body := fun env st => denSs (((b_inner_bounds f_plus f_greater_of f_is_less f_product).body.nth 1).bd.nth 1).bd env st)
    (fun i env st' => ∃ o8 o9 o10 o11 o12, env = [some (netD n hs d e), some (boxD bx), some L, some (row h.1), some (fr h.2.1), some (fr h.2.2), some (fr (sumTo lo1 h.2.1 h.1 bx i)), some (fr (sumTo hi1 h.2.1 h.1 bx i)), o8, o9, o10, o11, o12] ∧ st' = st) (items := zipD (h.1.map fr) (bx.map pr))
    (env := [some (netD n hs d e), some (boxD bx), some L, some (row h.1), some (fr h.2.1), some (fr h.2.2), some (fr h.2.1), some (fr h.2.1), o8, o9, o10, o11, o12]) (st := st) ⟨_, _, _, _, _, rfl, rfl⟩
    (fun i dd env st' hd' hI => by
      obtain ⟨x, y, hx, hy, rfl⟩ := zipM_at hd'
      obtain ⟨q, q1, rfl⟩ := map_at hx
      obtain ⟨p, q2, rfl⟩ := map_at hy
      obtain ⟨o8, o9, o10, o11, o12, rfl, rfl⟩ := hI
      have S := stepB N hm Bx hh q1 q2 st'
      have ord := Bx.ord p (List.mem_of_getElem? q2)
      have e2 : sumTo lo1 h.2.1 h.1 bx (i + 1) = sumTo lo1 h.2.1 h.1 bx i + lo1 q p := by show _ + lo1 _ _ = _; rw [getD_at q1, getD_at q2]
      have e3 : sumTo hi1 h.2.1 h.1 bx (i + 1) = sumTo hi1 h.2.1 h.1 bx i + hi1 q p := by show _ + hi1 _ _ = _; rw [getD_at q1, getD_at q2]
      have t1 := product_ok q p.1 st' S.bq S.b1
      have t2 := product_ok q p.2 st' S.bq S.b2
      have t3 := is_less_ok (q * p.1) (q * p.2) st' S.m1 S.m2
      have t5 := greater_ok (q * p.1) (q * p.2) st' S.m1 S.m2
      rw [hi_less ord] at t5
      have t4 := plus_ok _ _ st' S.lo S.l1
      have t6 := plus_ok _ _ st' S.hi S.h1
      have f1 : fr (lo1 q p) = if decide (q * p.1 < q * p.2) = true then fr (q * p.1) else fr (q * p.2) := by
        rw [← lo_less ord]
        by_cases c : q * p.1 < q * p.2
        · rw [if_pos c, decide_eq_true c, if_pos rfl]
        · rw [if_neg c, decide_eq_false c, if_neg Bool.false_ne_true]
      rw [f1] at t4
      exact ⟨rfl, [some (netD n hs d e), some (boxD bx), some L, some (row h.1), some (fr h.2.1), some (fr h.2.2), some (fr (sumTo lo1 h.2.1 h.1 bx i)), some (fr (sumTo hi1 h.2.1 h.1 bx i)), some (fr q), some (fr p.1), some (fr p.2), o11, o12], _, st', rfl, ib_step _ _ _ _ _ _ _ _ _ _ _ _ _ (fr p.1) _ _ _ _ o11 o12 st' t1 t2 t3 t4 t5 t6, _, _, _, _, _, by rw [e2, e3], rfl⟩)
    (fun _ _ _ => rfl)
  rw [hzl] at e1
  exact ⟨p8, p9, p10, p11, p12, s_for (w := ⟨zipD (h.1.map fr) (bx.map pr), []⟩) (s_zipT (by simp only [denE]; rfl) (by simp only [denE]; rfl)) e1⟩
theorem ib_outer (nd bd a b c l h : D) (xs : List D) (o3 o4 o5 o6 o7 o8 o9 o10 o11 o12 p8 p9 p10 p11 p12 : Option D) (st : Store) (hx : xs.length < SZ)
    (hin : denS (((b_inner_bounds f_plus f_greater_of f_is_less f_product).body.nth 1).bd.nth 1) [some nd, some bd, some (.loc st.length), some a, some b, some c, some b, some b, o8, o9, o10, o11, o12] (st ++ [Cell.lst xs]) = some (.next, [some nd, some bd, some (.loc st.length), some a, some b, some c, some l, some h, p8, p9, p10, p11, p12], st ++ [Cell.lst xs])) :
    denSs ((b_inner_bounds f_plus f_greater_of f_is_less f_product).body.nth 1).bd [some nd, some bd, some (.loc st.length), some a, some b, some c, o6, o7, o8, o9, o10, o11, o12] (st ++ [Cell.lst xs]) = some (.next, [some nd, some bd, some (.loc st.length), some a, some b, some c, some l, some h, p8, p9, p10, p11, p12], st ++ [Cell.lst (xs ++ [.tup [l, h]])]) := by
  have ap := app_last st xs (.tup [l, h]) hx
  refine ss_next (env' := [some nd, some bd, some (.loc st.length), some a, some b, some c, some b, some b, o8, o9, o10, o11, o12]) (st' := st ++ [Cell.lst xs]) (by simp [-Option.some.injEq, -Prod.mk.injEq, denS, denE, denEs, denT, denO, denTs, denSrc, bltn, binop, cmpop, eqv_int, abs_int, index, seqOf, atI, ixI, asTr, truth]) (ss_next hin (ss_next (env' := [some nd, some bd, some (.loc st.length), some a, some b, some c, some l, some h, p8, p9, p10, p11, p12]) (st' := st ++ [Cell.lst (xs ++ [.tup [l, h]])]) ?_ ss_nil))
  simp [-Option.some.injEq, -Prod.mk.injEq, denS, denE, denEs, denT, denO, denTs, denSrc, bltn, binop, cmpop, eqv_int, abs_int, index, seqOf, atI, ixI, asTr, truth, SZ, ap]
theorem inner_bounds_ok (N : NetOk M B m n hs d e) (hm : m ≤ 300) (Bx : BoxOk M' X m n bx) (st : Store) : f_inner_bounds [netD n hs d e, boxD bx] st = some (.tup (hs.map (bdQ bx)), st) := by
  obtain ⟨env', st', e1, o3, o4, o5, o6, o7, o8, o9, o10, o11, o12, rfl, rfl⟩ := for_inv (ok := Walk.ok ⟨hs.map hd, []⟩) (t := .tup [.nm 3, .nm 4, .nm 5]) (body := fun env st => denSs ((b_inner_bounds f_plus f_greater_of f_is_less f_product).body.nth 1).bd env st)
    (fun i env st' => ∃ o3 o4 o5 o6 o7 o8 o9 o10 o11 o12, env = [some (netD n hs d e), some (boxD bx), some (.loc st.length), o3, o4, o5, o6, o7, o8, o9, o10, o11, o12] ∧ st' = st ++ [Cell.lst ((hs.take i).map (bdQ bx))]) (items := hs.map hd)
    (env := [some (netD n hs d e), some (boxD bx), some (.loc st.length), none, none, none, none, none, none, none, none, none, none]) (st := st ++ [Cell.lst []]) ⟨_, _, _, _, _, _, _, _, _, _, rfl, rfl⟩
    (fun i dd env st' hd' hI => by
      obtain ⟨h, hq, rfl⟩ := map_at hd'
      obtain ⟨o3, o4, o5, o6, o7, o8, o9, o10, o11, o12, rfl, rfl⟩ := hI
      have hmem := List.mem_of_getElem? hq
      have hil := (List.getElem?_eq_some_iff.mp hq).1
      obtain ⟨p8, p9, p10, p11, p12, hin⟩ := ib_inner N hm Bx hmem (.loc st.length) o8 o9 o10 o11 o12 (st ++ [Cell.lst ((hs.take i).map (bdQ bx))])
      have ho := ib_outer _ _ _ _ _ _ _ ((hs.take i).map (bdQ bx)) o3 o4 o5 o6 o7 o8 o9 o10 o11 o12 p8 p9 p10 p11 p12 st (by rw [List.length_map, List.length_take]; have := N.kl; unfold SZ; omega) hin
      refine ⟨rfl, [some (netD n hs d e), some (boxD bx), some (.loc st.length), some (row h.1), some (fr h.2.1), some (fr h.2.2), o6, o7, o8, o9, o10, o11, o12], _, _, rfl, ho, _, _, _, _, _, _, _, _, _, _, rfl, ?_⟩
      rw [List.take_add_one, hq, Option.toList_some, List.map_append]; rfl)
    (fun _ _ _ => rfl)
  rw [List.length_map, List.take_length] at e1
  refine def_app (env0 := [_, _, _, _, _, _, _, _, _, _, _, _, _]) (ex := [Cell.lst (hs.map (bdQ bx))]) rfl rfl (ss_next (env' := [some (netD n hs d e), some (boxD bx), some (.loc st.length), none, none, none, none, none, none, none, none, none, none]) (st' := st ++ [Cell.lst []]) (by simp [-Option.some.injEq, -Prod.mk.injEq, denS, denE, denEs, denT, denO, denTs, denSrc, bltn, binop, cmpop, eqv_int, abs_int, index, seqOf, atI, ixI, asTr, truth, SZ]) (ss_next (s_for (w := ⟨hs.map hd, []⟩) (st' := st ++ [Cell.lst []]) (s_seqT (e_ixV rfl rfl)) e1) (ss_ret (s_ret ?_)))) (under_bd _ _ _)
  rw [e_bl1]
  generalize hs.map (bdQ bx) = Y
  simp [-Option.some.injEq, -Prod.mk.injEq, denS, denE, denEs, denT, denO, denTs, denSrc, bltn, binop, cmpop, eqv_int, abs_int, index, seqOf, atI, ixI, asTr, truth, at_last]
theorem pl_bds {bx : List (Rat × Rat)} {hs : List Hg} (h : hs.length < 2 ^ 62) : pl 6 (.tup (hs.map (bdQ bx))) := by
  refine ⟨fun x hx => ?_, by rw [List.length_map]; exact h⟩
  obtain ⟨g, _, rfl⟩ := List.mem_map.mp hx
  refine ⟨fun x hx => ?_, by show (2 : Nat) < 2 ^ 62; decide⟩
  rcases List.mem_cons.mp hx with rfl | hx
  · exact pl_fr (k := 2) _
  rcases List.mem_cons.mp hx with rfl | hx
  · exact pl_fr (k := 2) _
  · cases hx
end
end Law
end
section
set_option Elab.async false
set_option linter.all false
set_option maxRecDepth 100000
set_option autoImplicit false
set_option exponentiation.threshold 20000
namespace Law
open Calc

theorem gc_len {st st' : Store} {d : D} (h : st'.length = st.length) : gc st d st' = (d, st') := by
  unfold gc
  split
  · rw [← h, List.take_length]
  · rfl
theorem seqOf_loc {st : Store} {l : Nat} {xs : List D} (h : st[l]? = some (.lst xs)) : seqOf st (.loc l) = some xs := by simp only [seqOf, h]
theorem index_of {st : Store} {x : D} {xs : List D} {i : Int} (h : seqOf st x = some xs) : index x (.int i) st = atI xs i := by simp only [index, h]
theorem len_of {st : Store} {x : D} {xs : List D} (h : seqOf st x = some xs) : bltn .len [x] st = some (.int xs.length, st) := by simp only [bltn, h]
structure BagV (l lg lc : Nat) (b0 b1 : Int) (great cells : List Int) (st : Store) : Prop where
  at_ : st[l]? = some (.lst [.int b0, .int b1, .loc lg, .loc lc])
  g : st[lg]? = some (.lst (great.map D.int))
  c : st[lc]? = some (.lst (cells.map D.int))
  n1 : l ≠ lg
  n2 : l ≠ lc
  n3 : lg ≠ lc
theorem BagV.set {l lg lc : Nat} {b0 b1 : Int} {great cells : List Int} {st : Store} (v : BagV l lg lc b0 b1 great cells st) (x y : Int) : BagV l lg lc x y great cells (st.set l (.lst [.int x, .int y, .loc lg, .loc lc])) := by
  have hl := (List.getElem?_eq_some_iff.mp v.at_).1
  refine ⟨List.getElem?_set_self hl, ?_, ?_, v.n1, v.n2, v.n3⟩
  · rw [List.getElem?_set_ne v.n1]; exact v.g
  · rw [List.getElem?_set_ne v.n2]; exact v.c
theorem BagV.pop {l lg lc : Nat} {b0 b1 : Int} {great cells : List Int} {st : Store} (v : BagV l lg lc b0 b1 great cells st) : BagV l lg lc b0 b1 great.dropLast cells (st.set lg (.lst (great.dropLast.map D.int))) := by
  have hl := (List.getElem?_eq_some_iff.mp v.g).1
  refine ⟨?_, List.getElem?_set_self hl, ?_, v.n1, v.n2, v.n3⟩
  · rw [List.getElem?_set_ne (Ne.symm v.n1)]; exact v.at_
  · rw [List.getElem?_set_ne v.n3]; exact v.c
section
variable {l lg lc : Nat} {b0 b1 : Int} {great cells : List Int} {st : Store}
theorem BagV.i0 (v : BagV l lg lc b0 b1 great cells st) : index (.loc l) (.int 0) st = some (.int b0) := by rw [index_of (seqOf_loc v.at_)]; rfl
theorem BagV.i1 (v : BagV l lg lc b0 b1 great cells st) : index (.loc l) (.int 1) st = some (.int b1) := by rw [index_of (seqOf_loc v.at_)]; rfl
theorem BagV.i2 (v : BagV l lg lc b0 b1 great cells st) : index (.loc l) (.int 2) st = some (.loc lg) := by rw [index_of (seqOf_loc v.at_)]; rfl
theorem BagV.i3 (v : BagV l lg lc b0 b1 great cells st) : index (.loc l) (.int 3) st = some (.loc lc) := by rw [index_of (seqOf_loc v.at_)]; rfl
theorem BagV.lg_ (v : BagV l lg lc b0 b1 great cells st) : bltn .len [.loc lg] st = some (.int great.length, st) := by rw [len_of (seqOf_loc v.g), List.length_map]
theorem BagV.lc_ (v : BagV l lg lc b0 b1 great cells st) : bltn .len [.loc lc] st = some (.int cells.length, st) := by rw [len_of (seqOf_loc v.c), List.length_map]
theorem BagV.s1 (v : BagV l lg lc b0 b1 great cells st) (y : Int) : setIx (.loc l) (.int 1) (.int y) st = some (st.set l (.lst [.int b0, .int y, .loc lg, .loc lc])) := by simp only [setIx, v.at_]; rfl
theorem BagV.s0 (v : BagV l lg lc b0 b1 great cells st) (y : Int) : setIx (.loc l) (.int 0) (.int y) st = some (st.set l (.lst [.int y, .int b1, .loc lg, .loc lc])) := by simp only [setIx, v.at_]; rfl
theorem BagV.mp (v : BagV l lg lc b0 b1 great cells st) {x : Int} (h : great[great.length - 1]? = some x) : meth .pop (.loc lg) [] st = some (.int x, st.set lg (.lst (great.dropLast.map D.int))) := by
  unfold meth
  simp only [v.g, List.length_map]
  rw [List.getElem?_map, h]
  simp [-Option.some.injEq, -Prod.mk.injEq, denS, denE, denEs, denT, denO, denTs, denSrc, binop, cmpop, eqv_int, abs_int, asTr, truth, List.map_dropLast]
end
/-- all but the bag stays -/
structure Ext (l lg : Nat) (st st' : Store) : Prop where
  len : st'.length = st.length
  at_ : ∀ i, i ≠ l → i ≠ lg → st'[i]? = st[i]?
theorem Ext.refl (l lg : Nat) (st : Store) : Ext l lg st st := ⟨rfl, fun _ _ _ => rfl⟩
theorem Ext.trans {l lg : Nat} {a b c : Store} (x : Ext l lg a b) (y : Ext l lg b c) : Ext l lg a c := ⟨y.len.trans x.len, fun i h1 h2 => (y.at_ i h1 h2).trans (x.at_ i h1 h2)⟩
theorem Ext.setl {l lg : Nat} {st : Store} (c : Cell) : Ext l lg st (st.set l c) := ⟨List.length_set, fun i h1 _ => List.getElem?_set_ne (Ne.symm h1)⟩
theorem Ext.setg {l lg : Nat} {st : Store} (c : Cell) : Ext l lg st (st.set lg c) := ⟨List.length_set, fun i _ h1 => List.getElem?_set_ne (Ne.symm h1)⟩
structure Bag (r l lg lc : Nat) (st : Store) : Prop where
  ex : ∃ b0 b1 great cells, BagV l lg lc b0 b1 great cells st ∧ 0 ≤ b0 ∧ (∀ g ∈ great, 0 ≤ g) ∧ great.length ≤ SZ ∧ 0 ≤ b1 ∧ b1 + r ≤ 1000000 ∧ cells ≠ [] ∧ (∀ c ∈ cells, 0 ≤ c ∧ c < 2147483647)
theorem Bag.less {r r' l lg lc : Nat} {st : Store} (b : Bag r l lg lc st) (h : r' ≤ r) : Bag r' l lg lc st := by
  obtain ⟨b0, b1, gr, ce, v, h1, h2, h3, h4, h5, h6, h7⟩ := b.ex
  exact ⟨b0, b1, gr, ce, v, h1, h2, h3, h4, by omega, h6, h7⟩

theorem fm_lt {a m : Int} (h : 0 < m) : 0 ≤ a.fmod m ∧ a.fmod m < m := ⟨Int.fmod_nonneg_of_pos a h, Int.fmod_lt_of_pos a h⟩
theorem sm_of {a : Int} {k : Nat} (h0 : 0 ≤ a) (h : a < ((2 ^ k : Nat) : Int)) : Sm k a := by unfold Sm; omega
section
variable {l lg lc : Nat} {b0 b1 : Int} {great cells : List Int} {st : Store} {many : Int} {o2 o3 o4 : Option D}
theorem dr_1 (v : BagV l lg lc b0 b1 great cells st) : denS (b__law_draw.body.nth 0) [some (.loc l), some (.int many), o2, o3, o4] st = some (.next, [some (.loc l), some (.int many), o2, o3, o4], st.set l (.lst [.int b0, .int (b1 + 1), .loc lg, .loc lc])) := by
  have h1 := v.i1
  have h2 := v.s1 (b1 + 1)
  show denS (.sub _ _ _) _ _ = _
  simp [-Option.some.injEq, -Prod.mk.injEq, denS, denE, denEs, denT, denO, denTs, denSrc, binop, cmpop, eqv_int, abs_int, asTr, truth, h1, h2]
theorem dr_2y (v : BagV l lg lc 0 b1 great cells st) {x : Int} (h : great[great.length - 1]? = some x) : denS (b__law_draw.body.nth 1) [some (.loc l), some (.int many), o2, o3, o4] st = some (.next, [some (.loc l), some (.int many), o2, o3, o4], (st.set lg (.lst (great.dropLast.map D.int))).set l (.lst [.int x, .int b1, .loc lg, .loc lc])) := by
  have h0 := v.i0
  have h2 := v.i2
  have hl := v.lg_
  have hp := v.mp h
  have hlt : 0 < great.length := by have := (List.getElem?_eq_some_iff.mp h).1; omega
  have v2 := v.pop
  have h3 := v2.s0 x
  clear v2
  generalize (great.dropLast.map D.int) = gd at *
  show denS (.ite _ _ _) _ _ = _
  refine s_iteT (st' := st) ?_ (ss_next (env' := [some (.loc l), some (.int many), o2, o3, o4]) (st' := (st.set lg (.lst gd)).set l (.lst [.int x, .int b1, .loc lg, .loc lc])) ?_ ss_nil)
  · simp [-Option.some.injEq, -Prod.mk.injEq, denS, denE, denEs, denT, denO, denTs, denSrc, binop, cmpop, eqv_int, abs_int, asTr, truth, h0, h2, hl, hlt]
  · simp [-Option.some.injEq, -Prod.mk.injEq, denS, denE, denEs, denT, denO, denTs, denSrc, binop, cmpop, eqv_int, abs_int, asTr, truth, h2, hp, h3]
theorem dr_2n (v : BagV l lg lc b0 b1 great cells st) (h : b0 ≠ 0 ∨ great = []) : denS (b__law_draw.body.nth 1) [some (.loc l), some (.int many), o2, o3, o4] st = some (.next, [some (.loc l), some (.int many), o2, o3, o4], st) := by
  have h0 := v.i0
  have h2 := v.i2
  have hl := v.lg_
  show denS (.ite _ _ _) _ _ = _
  refine s_iteF (st' := st) ?_ ss_nil
  by_cases hb : b0 = 0
  · have hg : great = [] := h.resolve_left fun z => z hb
    subst hg
    simp [-Option.some.injEq, -Prod.mk.injEq, denS, denE, denEs, denT, denO, denTs, denSrc, binop, cmpop, eqv_int, abs_int, asTr, truth, h0, h2, hl, hb]
  · simp [-Option.some.injEq, -Prod.mk.injEq, denS, denE, denEs, denT, denO, denTs, denSrc, binop, cmpop, eqv_int, abs_int, asTr, truth, h0, hb]
theorem int_id (x : D) (i : Int) (st : Store) : bltn .int [.int i] st = some (.int i, st) := rfl
theorem dr_3y (v : BagV l lg lc b0 b1 great cells st) (h : 0 < b0) (hm : many ≠ 0) (hd : divOk many = true) : ∃ env', denS (b__law_draw.body.nth 2) [some (.loc l), some (.int many), o2, o3, o4] st = some (.ret (.int (b0.fmod many)), env', st.set l (.lst [.int (b0.fdiv many), .int b1, .loc lg, .loc lc])) := by
  have h0 := v.i0
  have hs := v.s0 (b0.fdiv many)
  have hi : bltn .int [.int b0] st = some (.int b0, st) := rfl
  refine ⟨[some (.loc l), some (.int many), some (.int (b0.fmod many)), o3, o4], ?_⟩
  show denS (.ite _ _ _) _ _ = _
  refine s_iteT (st' := st) ?_ (ss_next (env' := [some (.loc l), some (.int many), some (.int (b0.fmod many)), o3, o4]) (st' := st) ?_ (ss_next (env' := [some (.loc l), some (.int many), some (.int (b0.fmod many)), o3, o4]) (st' := st.set l (.lst [.int (b0.fdiv many), .int b1, .loc lg, .loc lc])) ?_ (ss_ret (s_ret ?_))))
  · simp [-Option.some.injEq, -Prod.mk.injEq, denS, denE, denEs, denT, denO, denTs, denSrc, binop, cmpop, eqv_int, abs_int, asTr, truth, h0, h]
  · simp [-Option.some.injEq, -Prod.mk.injEq, denS, denE, denEs, denT, denO, denTs, denSrc, binop, cmpop, eqv_int, abs_int, asTr, truth, h0, hi, hm]
  · simp [-Option.some.injEq, -Prod.mk.injEq, denS, denE, denEs, denT, denO, denTs, denSrc, binop, cmpop, eqv_int, abs_int, asTr, truth, h0, hd, hs]
  · simp [-Option.some.injEq, -Prod.mk.injEq, denS, denE, denEs, denT, denO, denTs, denSrc, binop, cmpop, eqv_int, abs_int, asTr, truth]
theorem dr_3n (v : BagV l lg lc b0 b1 great cells st) (h : ¬ 0 < b0) : denS (b__law_draw.body.nth 2) [some (.loc l), some (.int many), o2, o3, o4] st = some (.next, [some (.loc l), some (.int many), o2, o3, o4], st) := by
  have h0 := v.i0
  show denS (.ite _ _ _) _ _ = _
  refine s_iteF (st' := st) ?_ ss_nil
  simp [-Option.some.injEq, -Prod.mk.injEq, denS, denE, denEs, denT, denO, denTs, denSrc, binop, cmpop, eqv_int, abs_int, asTr, truth, h0, h]
theorem dr_4 (v : BagV l lg lc b0 b1 great cells st) (hc : cells ≠ []) {x : Int} (hx : cells[(b1.fmod cells.length).toNat]? = some x) : denS (b__law_draw.body.nth 3) [some (.loc l), some (.int many), o2, o3, o4] st = some (.next, [some (.loc l), some (.int many), o2, some (.int x), o4], st) := by
  have h1 := v.i1
  have h3 := v.i3
  have hl := v.lc_
  have hi : bltn .int [.int b1] st = some (.int b1, st) := rfl
  have hn : (cells.length : Int) ≠ 0 := by
    have : cells.length ≠ 0 := fun z => hc (List.length_eq_zero_iff.mp z)
    omega
  have hx' : index (.loc lc) (.int (b1.fmod cells.length)) st = some (.int x) := by
    have hf := fm_lt (a := b1) (m := cells.length) (by omega)
    rw [index_of (seqOf_loc v.c)]
    have e : (b1.fmod cells.length) = (((b1.fmod cells.length).toNat : Nat) : Int) := by omega
    rw [e]
    exact atI_nat (by rw [List.getElem?_map, hx]; rfl)
  show denS (.set 3 _) _ _ = _
  simp [-Option.some.injEq, -Prod.mk.injEq, denS, denE, denEs, denT, denO, denTs, denSrc, binop, cmpop, eqv_int, abs_int, asTr, truth, h1, h3, hl, hi, hc, hx']
theorem dr_5 (v : BagV l lg lc b0 b1 great cells st) {x : Int} (m1 : mulOk x 48271 = true) (m2 : mulOk b1 69621 = true) : denS (b__law_draw.body.nth 4) [some (.loc l), some (.int many), o2, some (.int x), o4] st = some (.next, [some (.loc l), some (.int many), o2, some (.int x), some (.int ((x * 48271 + b1 * 69621 + 1).fmod 2147483647))], st) := by
  have h1 := v.i1
  have hi : bltn .int [.int (x * 48271 + b1 * 69621 + 1)] st = some (.int (x * 48271 + b1 * 69621 + 1), st) := rfl
  show denS (.set 4 _) _ _ = _
  simp [-Option.some.injEq, -Prod.mk.injEq, denS, denE, denEs, denT, denO, denTs, denSrc, binop, cmpop, eqv_int, abs_int, asTr, truth, h1, m1, m2, hi]
theorem dr_6 (v : BagV l lg lc b0 b1 great cells st) {y : Int} (m1 : mulOk y y = true) (m2 : mulOk y 16807 = true) (m3 : mulOk b1 40014 = true) (d1 : divOk 32 = true) (hm : many ≠ 0) : denS (b__law_draw.body.nth 5) [some (.loc l), some (.int many), o2, o3, some (.int y)] st = some (.ret (.int ((((y * y + y * 16807 + b1 * 40014).fmod 2147483629).fdiv 32).fmod many)), [some (.loc l), some (.int many), o2, o3, some (.int y)], st) := by
  have h1 := v.i1
  have hi : bltn .int [.int (y * y + y * 16807 + b1 * 40014)] st = some (.int (y * y + y * 16807 + b1 * 40014), st) := rfl
  show denS (.ret _) _ _ = _
  simp [-Option.some.injEq, -Prod.mk.injEq, denS, denE, denEs, denT, denO, denTs, denSrc, binop, cmpop, eqv_int, abs_int, asTr, truth, h1, m1, m2, m3, d1, hi, hm]
end
theorem def_len {df : Def} {args : List D} {env0 env' : Env} {st st' : Store} {d : D} (hl : args.length = df.np) (he : args.map some ++ List.replicate (df.ns - df.np) none = env0) (h : denSs df.body env0 st = some (.ret d, env', st')) (hs : st'.length = st.length) : denDef df args st = some (d, st') := by
  subst he
  unfold denDef
  rw [if_pos hl, h]
  show some (gc st d st') = _
  rw [gc_len hs]
theorem draw_ok {r l lg lc : Nat} {st : Store} (b : Bag (r + 1) l lg lc st) {many : Int} (hm : 0 < many) (hs : Sm 100 many) : ∃ v st', f__law_draw [.loc l, .int many] st = some (.int v, st') ∧ 0 ≤ v ∧ v < many ∧ Bag r l lg lc st' ∧ Ext l lg st st' := by
  obtain ⟨b0, b1, great, cells, v, h1, h2, h3, h4, h5, h6, h7⟩ := b.ex
  have hd : divOk many = true := divOk_of (hs.up (by decide)) (by decide : 100 < 9000) (by omega)
  have v1 := v.set b0 (b1 + 1)
  have x1 : Ext l lg st (st.set l (.lst [.int b0, .int (b1 + 1), .loc lg, .loc lc])) := .setl _
  have s1 := dr_1 (many := many) (o2 := none) (o3 := none) (o4 := none) v
  generalize st.set l (.lst [.int b0, .int (b1 + 1), .loc lg, .loc lc]) = st1 at *
  have hb1 : b1 + 1 < ((2 ^ 30 : Nat) : Int) := by have : ((2 ^ 30 : Nat) : Int) = 1073741824 := by decide
                                                   omega
  -- the second step
  obtain ⟨c0, gr, st2, s2, v2, hc0, hgr, hgl, x2⟩ : ∃ c0 gr st2, denS (b__law_draw.body.nth 1) [some (.loc l), some (.int many), none, none, none] st1 = some (.next, [some (.loc l), some (.int many), none, none, none], st2) ∧ BagV l lg lc c0 (b1 + 1) gr cells st2 ∧ 0 ≤ c0 ∧ (∀ g ∈ gr, 0 ≤ g) ∧ gr.length ≤ SZ ∧ Ext l lg st1 st2 := by
    by_cases hb : b0 = 0
    · subst hb
      cases hl : great[great.length - 1]? with
      | some x =>
        refine ⟨x, great.dropLast, _, dr_2y v1 hl, v1.pop.set x (b1 + 1), h2 x (List.mem_of_getElem? hl), fun g hg => h2 g (List.dropLast_subset _ hg), by rw [List.length_dropLast]; omega, (Ext.setg _).trans (.setl _)⟩
      | none =>
        have he : great = [] := by
          have := List.getElem?_eq_none_iff.mp hl
          exact List.length_eq_zero_iff.mp (by omega)
        exact ⟨0, great, st1, dr_2n v1 (.inr he), v1, h1, h2, h3, .refl _ _ _⟩
    · exact ⟨b0, great, st1, dr_2n v1 (.inl hb), v1, h1, h2, h3, .refl _ _ _⟩
  by_cases hp : 0 < c0
  · obtain ⟨env', s3⟩ := dr_3y (many := many) (o2 := none) (o3 := none) (o4 := none) v2 hp (by omega) hd
    have hf := fm_lt (a := c0) hm
    refine ⟨_, _, def_len (env0 := [_, _, _, _, _]) rfl rfl (ss_next s1 (ss_next s2 (ss_ret s3))) (by rw [List.length_set, x2.len, x1.len]), hf.1, hf.2, ⟨_, _, _, _, v2.set _ _, ?_, hgr, hgl, by omega, by omega, h6, h7⟩, (x1.trans x2).trans (.setl _)⟩
    rw [Int.fdiv_eq_ediv_of_nonneg _ (by omega)]
    exact Int.ediv_nonneg hc0 (by omega)
  · have s3 := dr_3n (many := many) (o2 := none) (o3 := none) (o4 := none) v2 hp
    have hcl : 0 < cells.length := by
      have : cells.length ≠ 0 := fun z => h6 (List.length_eq_zero_iff.mp z)
      omega
    have hfi := fm_lt (a := b1 + 1) (m := cells.length) (by omega)
    obtain ⟨x, hx⟩ : ∃ x, cells[((b1 + 1).fmod cells.length).toNat]? = some x := ⟨_, List.getElem?_eq_getElem (by omega)⟩
    have hxb := h7 x (List.mem_of_getElem? hx)
    have p31 : ((2 ^ 31 : Nat) : Int) = 2147483648 := by decide
    have p17 : ((2 ^ 17 : Nat) : Int) = 131072 := by decide
    have p6 : ((2 ^ 6 : Nat) : Int) = 64 := by decide
    have mx : Sm 31 x := sm_of hxb.1 (by omega)
    have mb : Sm 30 (b1 + 1) := sm_of (by omega) hb1
    have k1 : Sm 17 (48271 : Int) := sm_of (by decide) (by omega)
    have k2 : Sm 17 (69621 : Int) := sm_of (by decide) (by omega)
    have k3 : Sm 17 (16807 : Int) := sm_of (by decide) (by omega)
    have k4 : Sm 17 (40014 : Int) := sm_of (by decide) (by omega)
    have s4 := dr_4 (many := many) (o2 := none) (o3 := none) (o4 := none) v2 h6 hx
    have s5 := dr_5 (many := many) (o2 := none) (o4 := none) v2 (x := x) (mulOk_of mx k1 (by decide)) (mulOk_of mb k2 (by decide))
    have hy := fm_lt (a := x * 48271 + (b1 + 1) * 69621 + 1) (m := 2147483647) (by decide)
    generalize (x * 48271 + (b1 + 1) * 69621 + 1).fmod 2147483647 = y at *
    have my : Sm 31 y := sm_of hy.1 (by omega)
    have s6 := dr_6 (many := many) (o2 := none) (o3 := some (.int x)) v2 (y := y) (mulOk_of my my (by decide)) (mulOk_of my k3 (by decide)) (mulOk_of mb k4 (by decide)) (divOk_of (sm_of (k := 6) (by decide) (by omega)) (by decide) (by decide)) (by omega)
    have hf := fm_lt (a := ((y * y + y * 16807 + (b1 + 1) * 40014).fmod 2147483629).fdiv 32) hm
    exact ⟨_, _, def_len (env0 := [_, _, _, _, _]) rfl rfl (ss_next s1 (ss_next s2 (ss_next s3 (ss_next s4 (ss_next s5 (ss_ret s6)))))) (by rw [x2.len, x1.len]), hf.1, hf.2, ⟨_, _, _, _, v2, hc0, hgr, hgl, by omega, by omega, h6, h7⟩, x1.trans x2⟩
end Law
end
section
set_option Elab.async false
set_option linter.all false
set_option maxRecDepth 100000
set_option autoImplicit false
set_option exponentiation.threshold 20000
namespace Law
open Calc

theorem under_ints (n : Nat) : ∀ xs : List Int, D.unders n (xs.map D.int) = true
  | [] => rfl
  | x :: xs => by
    show (true && D.unders n (xs.map D.int)) = true
    rw [under_ints n xs]; rfl
/-- behind a call that has drawn and left cells that nobody names -/
theorem gc_bag {r l lg lc : Nat} {st st1 ex : Store} {d : D} (b : Bag r l lg lc st1) (x : Ext l lg st st1) (hu : D.under st.length d = true) : gc st d (st1 ++ ex) = (d, st1) := by
  obtain ⟨b0, b1, great, cells, v, _⟩ := b.ex
  have hl := x.len
  have e := gc_mut (st := st) (st' := st1 ++ ex) (d := d) hu (by rw [List.length_append]; omega) (fun i c' hi hc => by
    rw [List.getElem?_append_left (by omega)] at hc
    by_cases h1 : i = l
    · subst h1
      rw [v.at_] at hc
      cases hc
      right
      have g := (List.getElem?_eq_some_iff.mp v.g).1
      have c := (List.getElem?_eq_some_iff.mp v.c).1
      show (true && (true && (decide (lg < st.length) && (decide (lc < st.length) && true)))) = true
      rw [decide_eq_true (by omega), decide_eq_true (by omega)]; rfl
    · by_cases h2 : i = lg
      · subst h2
        rw [v.g] at hc
        cases hc
        right
        exact under_ints _ _
      · left
        rw [← x.at_ i h1 h2]; exact hc)
  rw [e, ← hl, List.take_left]
theorem def_bag {df : Def} {args : List D} {env0 env' : Env} {st st1 ex : Store} {d : D} {r l lg lc : Nat} (hl : args.length = df.np) (he : args.map some ++ List.replicate (df.ns - df.np) none = env0) (h : denSs df.body env0 st = some (.ret d, env', st1 ++ ex)) (b : Bag r l lg lc st1) (x : Ext l lg st st1) (hu : D.under st.length d = true) : denDef df args st = some (d, st1) := by
  subst he
  unfold denDef
  rw [if_pos hl, h]
  show some (gc st _ _) = _
  rw [gc_bag b x hu]
theorem Ext.lst {l lg p : Nat} {st st' : Store} {c : Cell} (x : Ext l lg st st') (h : st[p]? = some c) (h1 : p ≠ l) (h2 : p ≠ lg) : st'[p]? = some c := by rw [x.at_ p h1 h2]; exact h
section
variable {r l lg lc p : Nat} {st : Store}
theorem pick_ok {xs : List D} (b : Bag (r + 1) l lg lc st) (hp : st[p]? = some (.lst xs)) (h1 : p ≠ l) (h2 : p ≠ lg) (hx : xs ≠ []) (hl : xs.length < 2 ^ 100) : ∃ x st', f__law_pick [.loc l, .loc p] st = some (x, st') ∧ x ∈ xs ∧ Bag r l lg lc st' ∧ Ext l lg st st' := by
  have hpos : 0 < xs.length := by
    have : xs.length ≠ 0 := fun z => hx (List.length_eq_zero_iff.mp z)
    omega
  obtain ⟨v, st', hd, hv0, hv1, b', x'⟩ := draw_ok b (many := (xs.length : Int)) (by omega) (sm_of (by omega) (by omega))
  have hp' := x'.lst hp h1 h2
  obtain ⟨k, rfl⟩ : ∃ k : Nat, v = (k : Int) := ⟨v.toNat, by omega⟩
  have hk : k < xs.length := by omega
  have hi : index (.loc p) (.int k) st' = some xs[k] := by rw [index_of (seqOf_loc hp')]; exact atI_nat (List.getElem?_eq_getElem hk)
  have hlen := len_of (st := st) (seqOf_loc hp)
  refine ⟨xs[k], st', def_len (env0 := [_, _]) rfl rfl (ss_ret (s_ret ?_)) x'.len, List.getElem_mem _, b', x'⟩
  simp [-Option.some.injEq, -Prod.mk.injEq, denS, denE, denEs, denT, denO, denTs, denSrc, binop, cmpop, eqv_int, abs_int, asTr, truth, hlen, hd, hi]
theorem draw_fr_ok {M s : Nat} {bl : List Int} (b : Bag (r + 2) l lg lc st) (hp : st[p]? = some (.lst (bl.map D.int))) (h1 : p ≠ l) (h2 : p ≠ lg) (hx : bl ≠ []) (hl : bl.length < 2 ^ 100) (hM : 0 < M) (hb : ∀ z ∈ bl, 0 < z ∧ z.natAbs ∣ M ∧ Sm 100 z) (hs : s < 2 ^ 50) :
    ∃ q st', f__law_draw_fr [.loc l, .int s, .loc p] st = some (fr q, st') ∧ Bq M s q ∧ Bag r l lg lc st' ∧ Ext l lg st st' := by
  have p50 : ((2 ^ 50 : Nat) : Int) = 1125899906842624 := by decide
  have p60 : ((2 ^ 60 : Nat) : Int) = 1152921504606846976 := by decide
  have hs' : (s : Int) < 1125899906842624 := by rw [← p50]; omega
  obtain ⟨v, st1, hd, hv0, hv1, b1, x1⟩ := draw_ok (r := r + 1) b (many := 2 * (s : Int) + 1) (by omega) ((sm_of (k := 60) (by omega) (by omega)).up (by decide))
  have hp1 := x1.lst hp h1 h2
  obtain ⟨z, st2, hpk, hz, b2, x2⟩ := pick_ok b1 hp1 h1 h2 (by simpa [-Option.some.injEq, -Prod.mk.injEq, denS, denE, denEs, denT, denO, denTs, denSrc, binop, cmpop, eqv_int, abs_int, asTr, truth] using hx) (by simpa [-Option.some.injEq, -Prod.mk.injEq, denS, denE, denEs, denT, denO, denTs, denSrc, binop, cmpop, eqv_int, abs_int, asTr, truth] using hl)
  obtain ⟨w, hw, rfl⟩ := List.mem_map.mp hz
  obtain ⟨w0, wM, wS⟩ := hb w hw
  have m1 : mulOk 2 (s : Int) = true := mulOk_of (sm_of (k := 2) (by decide) (by decide)) (sm_of (k := 60) (by omega) (by omega)) (by decide)
  have hf := law_fr_ok (v - s) w st2 ((sm_of (k := 60) (a := v) (by omega) (by omega)).add (show Sm 60 (-(s : Int)) by unfold Sm; omega) |>.up (by decide)) (wS.up (by decide)) w0
  refine ⟨Rat.divInt (v - s) w, st2, def_len (env0 := [_, _, _]) rfl rfl (ss_ret (s_ret ?_)) (by rw [x2.len, x1.len]), ?_, b2, x1.trans x2⟩
  · simp [-Option.some.injEq, -Prod.mk.injEq, denS, denE, denEs, denT, denO, denTs, denSrc, binop, cmpop, eqv_int, abs_int, asTr, truth, m1, hd, hpk, hf]
  · obtain ⟨k, rfl⟩ : ∃ k : Nat, w = (k : Int) := ⟨w.toNat, by omega⟩
    refine bq_div (by omega) hM (by simpa [-Option.some.injEq, -Prod.mk.injEq, denS, denE, denEs, denT, denO, denTs, denSrc, binop, cmpop, eqv_int, abs_int, asTr, truth] using wM) ?_
    have h3 : (v - s).natAbs ≤ s := by omega
    exact Nat.le_trans h3 (Nat.le_mul_of_pos_right _ (by omega))
theorem draw_row_ok {M s n : Nat} {bl : List Int} (b : Bag (r + 2 * n) l lg lc st) (hp : st[p]? = some (.lst (bl.map D.int))) (h1 : p ≠ l) (h2 : p ≠ lg) (hx : bl ≠ []) (hl : bl.length < 2 ^ 100) (hM : 0 < M) (hb : ∀ z ∈ bl, 0 < z ∧ z.natAbs ∣ M ∧ Sm 100 z) (hs : s < 2 ^ 50) (hn : n ≤ 1000) :
    ∃ a st', f__law_draw_row [.loc l, .int n, .int s, .loc p] st = some (row a, st') ∧ a.length = n ∧ (∀ q ∈ a, Bq M s q) ∧ Bag r l lg lc st' ∧ Ext l lg st st' := by
  have hr : rngOf [.int n] = some ⟨(List.range n).map fun (i : Nat) => D.int (i : Int), []⟩ := rng_at (by omega)
  generalize hits : ((List.range n).map fun (i : Nat) => D.int (i : Int)) = its at hr
  have hil : its.length = n := by rw [← hits, List.length_map, List.length_range]
  obtain ⟨xs, st', hc, a, rfl, ha, hq, b', x'⟩ := comp_inv (ok := Walk.ok ⟨its, []⟩) (t := .nm 4) (env := [some (.loc l), some (.int n), some (.int s), some (.loc p), none]) (test := fun env1 st2 => denTs .none env1 st2)
    (elt := fun env1 st2 => denE (.call "_law_draw_fr" f__law_draw_fr (.cons (.var 0) (.cons (.var 2) (.cons (.var 3) .nil)))) env1 st2)
    (fun i acc st' => ∃ a : List Rat, acc = a.map fr ∧ a.length = i ∧ (∀ q ∈ a, Bq M s q) ∧ Bag (r + 2 * (n - i)) l lg lc st' ∧ Ext l lg st st') (items := its) (st := st) ⟨[], rfl, rfl, fun _ h => (nomatch h), b, .refl _ _ _⟩
    (fun i d acc st' hd hI => by
      rw [← hits] at hd
      obtain ⟨hi, rfl⟩ := range_at hd
      obtain ⟨a, rfl, ha, hq, b', x'⟩ := hI
      obtain ⟨q, st2, h3, h4, b2, x2⟩ := draw_fr_ok (r := r + 2 * (n - (i + 1))) (b'.less (by omega)) (x'.lst hp h1 h2) h1 h2 hx hl hM hb hs
      refine ⟨rfl, by rw [List.length_map]; unfold SZ; omega, [some (.loc l), some (.int n), some (.int s), some (.loc p), some (.int i)], fr q, st2, rfl, by simp only [denTs], ?_, a ++ [q], by rw [List.map_append]; rfl, by rw [List.length_append, ha]; rfl, fun q' hq' => ?_, b2, x'.trans x2⟩
      · simp [-Option.some.injEq, -Prod.mk.injEq, denS, denE, denEs, denT, denO, denTs, denSrc, binop, cmpop, eqv_int, abs_int, asTr, truth, h3]
      · rcases List.mem_append.mp hq' with z | z
        · exact hq q' z
        · rw [List.mem_singleton.mp z]; exact h4)
    (fun _ _ _ => rfl)
  rw [hil] at ha b'
  have hes : denEs (.cons (.var 1) .nil) [some (.loc l), some (.int n), some (.int s), some (.loc p), none] st = some ([.int n], st) := by simp [-Option.some.injEq, -Prod.mk.injEq, denS, denE, denEs, denT, denO, denTs, denSrc, binop, cmpop, eqv_int, abs_int, asTr, truth]
  have e1 : denE (.lc (.call "_law_draw_fr" f__law_draw_fr (.cons (.var 0) (.cons (.var 2) (.cons (.var 3) .nil)))) (.nm 4) (.rng (.cons (.var 1) .nil)) .none [4]) [some (.loc l), some (.int n), some (.int s), some (.loc p), none] st = some (.loc st'.length, st' ++ [Cell.lst (a.map fr)]) := by
    have hsrc := s_rng hes hr
    simp only [denE]
    rw [hsrc, bnd_some]
    exact congrArg (fun m => bnd m fun xs st3 => some (D.loc st3.length, st3 ++ [Cell.lst xs])) hc
  refine ⟨a, st', def_bag (env0 := [_, _, _, _, _]) (ex := [Cell.lst (a.map fr)]) rfl rfl (ss_ret (s_ret ?_)) b' x' (under_row _ _), ha, hq, b'.less (by omega), x'⟩
  rw [e_bl1, e1, bnd_some]
  simp only [bltn, seqOf, at_last]
  rfl
end
end Law
end
section
set_option Elab.async false
set_option linter.all false
set_option maxRecDepth 100000
set_option autoImplicit false
set_option exponentiation.threshold 20000
namespace Law
open Calc

/-- the store has grown; but for the bag the first n cells stand -/
structure Grow (n l lg : Nat) (st S : Store) : Prop where
  len : n ≤ S.length
  at_ : ∀ j, j < n → j ≠ l → j ≠ lg → S[j]? = st[j]?
section
variable {n l lg lc r L : Nat} {st S S' : Store}
theorem Grow.ext (g : Grow n l lg st S) (x : Ext l lg S S') : Grow n l lg st S' := ⟨by rw [x.len]; exact g.len, fun j h h1 h2 => (x.at_ j h1 h2).trans (g.at_ j h h1 h2)⟩
theorem Grow.app (g : Grow n l lg st S) (ex : Store) : Grow n l lg st (S ++ ex) := ⟨by rw [List.length_append]; have := g.len; omega, fun j h h1 h2 => by rw [List.getElem?_append_left (by have := g.len; omega)]; exact g.at_ j h h1 h2⟩
theorem Grow.set (g : Grow n l lg st S) (h : n ≤ L) (c : Cell) : Grow n l lg st (S.set L c) := ⟨by rw [List.length_set]; exact g.len, fun j hj h1 h2 => by rw [List.getElem?_set_ne (by omega)]; exact g.at_ j hj h1 h2⟩
theorem Bag.app (b : Bag r l lg lc S) (ex : Store) : Bag r l lg lc (S ++ ex) := by
  obtain ⟨b0, b1, great, cells, v, h⟩ := b.ex
  have e : ∀ {j : Nat} {c : Cell}, S[j]? = some c → (S ++ ex)[j]? = some c := fun {j c} h => by rw [List.getElem?_append_left (List.getElem?_eq_some_iff.mp h).1]; exact h
  exact ⟨b0, b1, great, cells, ⟨e v.at_, e v.g, e v.c, v.n1, v.n2, v.n3⟩, h⟩
theorem Bag.set (b : Bag r l lg lc S) (h1 : L ≠ l) (h2 : L ≠ lg) (h3 : L ≠ lc) (c : Cell) : Bag r l lg lc (S.set L c) := by
  obtain ⟨b0, b1, great, cells, v, h⟩ := b.ex
  exact ⟨b0, b1, great, cells, ⟨by rw [List.getElem?_set_ne h1]; exact v.at_, by rw [List.getElem?_set_ne h2]; exact v.g, by rw [List.getElem?_set_ne h3]; exact v.c, v.n1, v.n2, v.n3⟩, h⟩
theorem Bag.take (b : Bag r l lg lc S) (h1 : l < n) (h2 : lg < n) (h3 : lc < n) : Bag r l lg lc (S.take n) := by
  obtain ⟨b0, b1, great, cells, v, h⟩ := b.ex
  exact ⟨b0, b1, great, cells, ⟨by rw [List.getElem?_take_of_lt h1]; exact v.at_, by rw [List.getElem?_take_of_lt h2]; exact v.g, by rw [List.getElem?_take_of_lt h3]; exact v.c, v.n1, v.n2, v.n3⟩, h⟩
theorem Bag.lts (b : Bag r l lg lc S) : l < S.length ∧ lg < S.length ∧ lc < S.length := by
  obtain ⟨b0, b1, great, cells, v, h⟩ := b.ex
  exact ⟨(List.getElem?_eq_some_iff.mp v.at_).1, (List.getElem?_eq_some_iff.mp v.g).1, (List.getElem?_eq_some_iff.mp v.c).1⟩
theorem gc_grow {d : D} (b0 : Bag r l lg lc st) {r' : Nat} (b : Bag r' l lg lc S) (g : Grow st.length l lg st S) (hu : D.under st.length d = true) : gc st d S = (d, S.take st.length) ∧ Bag r' l lg lc (S.take st.length) ∧ Ext l lg st (S.take st.length) := by
  obtain ⟨k1, k2, k3⟩ := b0.lts
  obtain ⟨_, _, great, _, v, _⟩ := b.ex
  refine ⟨gc_mut hu g.len fun i c' hi hc => ?_, b.take k1 k2 k3, ⟨by rw [List.length_take]; have := g.len; omega, fun i h1 h2 => ?_⟩⟩
  · by_cases h1 : i = l
    · subst h1
      rw [v.at_] at hc
      cases hc
      right
      show (true && (true && (decide (lg < st.length) && (decide (lc < st.length) && true)))) = true
      rw [decide_eq_true k2, decide_eq_true k3]; rfl
    · by_cases h2 : i = lg
      · subst h2
        rw [v.g] at hc
        cases hc
        right
        exact under_ints _ _
      · left
        rw [← g.at_ i hi h1 h2]; exact hc
  · by_cases hi : i < st.length
    · rw [List.getElem?_take_of_lt hi]; exact g.at_ i hi h1 h2
    · rw [List.getElem?_eq_none (by rw [List.length_take]; omega), List.getElem?_eq_none (by omega)]
theorem def_grow {df : Def} {args : List D} {env0 env' : Env} {d : D} {r' : Nat} (hl : args.length = df.np) (he : args.map some ++ List.replicate (df.ns - df.np) none = env0) (h : denSs df.body env0 st = some (.ret d, env', S)) (b0 : Bag r l lg lc st) (b : Bag r' l lg lc S) (g : Grow st.length l lg st S) (hu : D.under st.length d = true) :
    ∃ st', denDef df args st = some (d, st') ∧ Bag r' l lg lc st' ∧ Ext l lg st st' := by
  subst he
  obtain ⟨g1, g2, g3⟩ := gc_grow b0 b g hu
  refine ⟨_, ?_, g2, g3⟩
  unfold denDef
  rw [if_pos hl, h]
  show some (gc st _ _) = _
  rw [g1]
end
theorem free_frs : ∀ a : List Rat, D.frees (a.map fr) = true ∧ D.deps (a.map fr) ≤ 1
  | [] => ⟨rfl, Nat.zero_le _⟩
  | q :: a => by
    obtain ⟨h1, h2⟩ := free_frs a
    refine ⟨by show (true && D.frees (a.map fr)) = true; rw [h1]; rfl, ?_⟩
    show max 1 (D.deps (a.map fr)) ≤ 1
    omega
theorem free_hds : ∀ hs : List Hg, D.frees (hs.map hd) = true ∧ D.deps (hs.map hd) ≤ 3
  | [] => ⟨rfl, Nat.zero_le _⟩
  | h :: hs => by
    obtain ⟨h1, h2⟩ := free_hds hs
    obtain ⟨h3, h4⟩ := free_frs h.1
    refine ⟨?_, ?_⟩
    · show ((D.frees (h.1.map fr) && (true && (true && true))) && D.frees (hs.map hd)) = true
      rw [h1, h3]; rfl
    · show max (max (D.deps (h.1.map fr) + 1) (max 1 (max 1 0)) + 1) (D.deps (hs.map hd)) ≤ 3
      omega
theorem flat_hds (hs : List Hg) : flat (.rol (hs.map hd)) = true := by
  obtain ⟨h1, h2⟩ := free_hds hs
  unfold flat
  show (D.frees (hs.map hd) && decide (D.deps (hs.map hd) + 1 ≤ 60)) = true
  rw [h1, decide_eq_true (by omega)]; rfl
theorem ne_nil {hs : List Hg} {S : Store} {L : Nat} (h : S[L]? = some (.lst (hs.map hd))) : cmpop .ne (.loc L) (.loc S.length) (S ++ [Cell.lst []]) = some (!decide (hs = [])) := by
  have hL := (List.getElem?_eq_some_iff.mp h).1
  have e1 : look (S ++ [Cell.lst []]) (.loc L) = .rol (hs.map hd) := by
    have : (S ++ [Cell.lst []])[L]? = some (.lst (hs.map hd)) := by rw [List.getElem?_append_left hL]; exact h
    simp only [look, this]
  have e2 : look (S ++ [Cell.lst []]) (.loc S.length) = .rol [] := by simp only [look, at_last]
  show (eqv _ _ _).map _ = _
  unfold eqv
  rw [e1, e2, flat_hds]
  show (some (eqDs (hs.map hd) [])).map _ = _
  cases hs with
  | nil => rfl
  | cons x xs => rfl
/-- what a hinge is multiplied by -/
def tsD : List D := [.tup [.int 1, .int 1], .tup [.int 2, .int 1], .tup [.int 1, .int 2], .tup [.int (-1), .int 1], .tup [.int (-1), .int 3]]
theorem ts_ok {x : D} (h : x ∈ tsD) : ∃ t : Rat, x = fr t ∧ Bq 6 2 t := by
  have key : ∀ (a : Int) (b : Nat), 0 < b → b ∣ 6 → a.natAbs ≤ 2 * b → a.fdiv (Int.gcd a b) = a → (b : Int).fdiv (Int.gcd a b) = b → ∃ t : Rat, D.tup [.int a, .int b] = fr t ∧ Bq 6 2 t := fun a b h1 h2 h3 h4 h5 =>
    ⟨Rat.divInt a b, by rw [fr_div (by omega), h4, h5], bq_div h1 (by decide) h2 h3⟩
  unfold tsD at h
  simp only [List.mem_cons, List.not_mem_nil, or_false] at h
  rcases h with rfl | rfl | rfl | rfl | rfl
  · exact key 1 1 (by decide) (by decide) (by decide) (by decide) (by decide)
  · exact key 2 1 (by decide) (by decide) (by decide) (by decide) (by decide)
  · exact key 1 2 (by decide) (by decide) (by decide) (by decide) (by decide)
  · exact key (-1) 1 (by decide) (by decide) (by decide) (by decide) (by decide)
  · exact key (-1) 3 (by decide) (by decide) (by decide) (by decide) (by decide)
noncomputable abbrev NB : Def := b__law_net f__law_draw_fr f__law_draw_row f__law_draw f__law_taken f__law_times f__law_pick
section
variable {l lg lc p L : Nat} {n s hh : Int} {o6 o7 o8 o9 o10 : Option D} {S S1 S2 S3 : Store}
abbrev NE (l p L : Nat) (n s hh : Int) (o6 o7 o8 o9 o10 : Option D) : Env := [some (.loc l), some (.int n), some (.int hh), some (.int s), some (.loc p), some (.loc L), o6, o7, o8, o9, o10]
theorem net_b0 {a b : D} (h1 : f__law_draw_row [.loc l, .int n, .int s, .loc p] S = some (a, S1)) (h2 : f__law_draw_fr [.loc l, .int s, .loc p] S1 = some (b, S2)) : denS ((NB.body.nth 1).bd.nth 0) (NE l p L n s hh o6 o7 o8 o9 o10) S = some (.next, NE l p L n s hh o6 (some a) (some b) o9 o10, S2) := by
  show denS (.par 7 8 _ _) _ _ = _
  simp [-Option.some.injEq, -Prod.mk.injEq, denS, denE, denEs, denT, denO, denTs, denSrc, binop, cmpop, eqv_int, abs_int, asTr, truth, NE, h1, h2]
theorem net_b1n {a b : D} (h1 : cmpop .ne (.loc L) (.loc S.length) (S ++ [Cell.lst []]) = some false) : denS ((NB.body.nth 1).bd.nth 1) (NE l p L n s hh o6 (some a) (some b) o9 o10) S = some (.next, NE l p L n s hh o6 (some a) (some b) o9 o10, S ++ [Cell.lst []]) := by
  show denS (.ite _ _ _) _ _ = _
  refine s_iteF (st' := S ++ [Cell.lst []]) ?_ ss_nil
  simp [-Option.some.injEq, -Prod.mk.injEq, denS, denE, denEs, denT, denO, denTs, denSrc, binop, eqv_int, abs_int, asTr, truth, NE, SZ, h1]
theorem net_b1f {a b : D} {v : Int} (h1 : cmpop .ne (.loc L) (.loc S.length) (S ++ [Cell.lst []]) = some true) (h2 : f__law_draw [.loc l, .int 3] (S ++ [Cell.lst []]) = some (.int v, S1)) (h3 : v ≠ 0) : denS ((NB.body.nth 1).bd.nth 1) (NE l p L n s hh o6 (some a) (some b) o9 o10) S = some (.next, NE l p L n s hh o6 (some a) (some b) o9 o10, S1) := by
  have e : cmpop .eq (.int v) (.int 0) S1 = some false := by show eqv _ _ _ = _; rw [eqv_int, decide_eq_false h3]
  show denS (.ite _ _ _) _ _ = _
  refine s_iteF (st' := S1) ?_ ss_nil
  simp [-Option.some.injEq, -Prod.mk.injEq, denS, denE, denEs, denT, denO, denTs, denSrc, binop, eqv_int, abs_int, asTr, truth, NE, SZ, h1, h2, e]
theorem net_b1t {a b x y t w : D} (h1 : cmpop .ne (.loc L) (.loc S.length) (S ++ [Cell.lst []]) = some true) (h2 : f__law_draw [.loc l, .int 3] (S ++ [Cell.lst []]) = some (.int 0, S1)) (h3 : f__law_pick [.loc l, .loc L] S1 = some (x, S2)) (h4 : f__law_pick [.loc l, .loc S2.length] (S2 ++ [Cell.lst tsD]) = some (t, S3))
    (i0 : index x (.int 0) S3 = some y) (i1 : index x (.int 1) S3 = some w) {y' w' : D} (h5 : f__law_taken [t, y] S3 = some (y', S3)) (h6 : f__law_times [t, w] S3 = some (w', S3)) :
    denS ((NB.body.nth 1).bd.nth 1) (NE l p L n s hh o6 (some a) (some b) o9 o10) S = some (.next, NE l p L n s hh o6 (some y') (some w') (some x) (some t), S3) := by
  have e : cmpop .eq (.int 0) (.int 0) S1 = some true := by show eqv _ _ _ = _; rw [eqv_int, decide_eq_true rfl]
  unfold tsD at h4
  show denS (.ite _ _ _) _ _ = _
  refine s_iteT (st' := S1) ?_ (ss_next (env' := NE l p L n s hh o6 (some a) (some b) (some x) o10) (st' := S2) ?_ (ss_next (env' := NE l p L n s hh o6 (some a) (some b) (some x) (some t)) (st' := S3) ?_ (ss_next (env' := NE l p L n s hh o6 (some y') (some w') (some x) (some t)) (st' := S3) ?_ ss_nil)))
  · simp [-Option.some.injEq, -Prod.mk.injEq, denS, denE, denEs, denT, denO, denTs, denSrc, binop, eqv_int, abs_int, asTr, truth, NE, SZ, h1, h2, e]
  · simp [-Option.some.injEq, -Prod.mk.injEq, denS, denE, denEs, denT, denO, denTs, denSrc, binop, cmpop, eqv_int, abs_int, asTr, truth, NE, h3]
  · simp [-Option.some.injEq, -Prod.mk.injEq, denS, denE, denEs, denT, denO, denTs, denSrc, binop, cmpop, eqv_int, abs_int, asTr, truth, NE, SZ, h4]
  · simp [-Option.some.injEq, -Prod.mk.injEq, denS, denE, denEs, denT, denO, denTs, denSrc, binop, cmpop, eqv_int, abs_int, asTr, truth, NE, i0, i1, h5, h6]
theorem net_b2 {a b c : D} {xs : List D} (h1 : f__law_draw_fr [.loc l, .int s, .loc p] S = some (c, S1)) (h2 : meth .append (.loc L) [.tup [a, b, c]] S1 = some (.non, S2)) : denS ((NB.body.nth 1).bd.nth 2) (NE l p L n s hh o6 (some a) (some b) o9 o10) S = some (.next, NE l p L n s hh o6 (some a) (some b) o9 o10, S2) := by
  show denS (.ex _) _ _ = _
  simp [-Option.some.injEq, -Prod.mk.injEq, denS, denE, denEs, denT, denO, denTs, denSrc, binop, cmpop, eqv_int, abs_int, asTr, truth, NE, SZ, h1, h2]
end
end Law
end
section
set_option Elab.async false
set_option linter.all false
set_option maxRecDepth 100000
set_option autoImplicit false
set_option exponentiation.threshold 20000
namespace Law
open Calc

/-- the hinges made so far -/
structure HsOk (M s n i : Nat) (hs : List Hg) : Prop where
  len : hs.length = i
  ent : ∀ h ∈ hs, ∀ q ∈ hall h, Bq (M * 6 ^ i) (s * 2 ^ i) q
  row : ∀ h ∈ hs, h.1.length = n
structure Bel (M : Nat) (bl : List Int) : Prop where
  ne : bl ≠ []
  len : bl.length < 2 ^ 100
  pos : 0 < M
  sM : M < 2 ^ 50
  ent : ∀ z ∈ bl, 0 < z ∧ z.natAbs ∣ M ∧ Sm 100 z
theorem pos_i {M i : Nat} (h : 0 < M * 6 ^ i) : 0 < M * 6 ^ (i + 1) := by
  have hM : 0 < M := Nat.pos_of_ne_zero fun z => by rw [z, Nat.zero_mul] at h; omega
  exact Nat.mul_pos hM (Nat.pow_pos (by decide))
theorem up_i {M s i : Nat} {q : Rat} (h : Bq (M * 6 ^ i) (s * 2 ^ i) q) : Bq (M * 6 ^ (i + 1)) (s * 2 ^ (i + 1)) q :=
  h.up (Nat.mul_dvd_mul_left _ (Nat.pow_dvd_pow _ (Nat.le_succ i))) (pos_i h.pos) (Nat.mul_le_mul_left _ (Nat.pow_le_pow_right (by decide) (Nat.le_succ i)))
theorem up_0 {M s i : Nat} {q : Rat} (h : Bq M s q) : Bq (M * 6 ^ i) (s * 2 ^ i) q :=
  h.up (Nat.dvd_mul_right _ _) (Nat.mul_pos h.pos (Nat.pow_pos (by decide))) (Nat.le_mul_of_pos_right _ (Nat.two_pow_pos _))
theorem mul_i {M s i : Nat} {t q : Rat} (ht : Bq 6 2 t) (h : Bq (M * 6 ^ i) (s * 2 ^ i) q) : Bq (M * 6 ^ (i + 1)) (s * 2 ^ (i + 1)) (t * q) := by
  have := ht.mul h
  have e1 : 6 * (M * 6 ^ i) = M * 6 ^ (i + 1) := by rw [Nat.pow_succ]; grind
  have e2 : 2 * (s * 2 ^ i) = s * 2 ^ (i + 1) := by rw [Nat.pow_succ]; grind
  rwa [e1, e2] at this
theorem bd_i {M s i : Nat} {q : Rat} (hM : M < 2 ^ 50) (hs : s < 2 ^ 50) (hi : i ≤ 10) (h : Bq (M * 6 ^ i) (s * 2 ^ i) q) : Bd q := by
  have h6 : 6 ^ i < 2 ^ 40 := Nat.lt_of_le_of_lt (Nat.pow_le_pow_right (by decide) hi) (by decide)
  have h2 : 2 ^ i < 2 ^ 40 := Nat.pow_lt_pow_right (by decide) (by omega)
  exact h.bd (pow_mul_lt hM h6) (pow_mul_lt hs h2) (by decide)
theorem row_i0 (h : Hg) (S : Store) : index (hd h) (.int 0) S = some (row h.1) := rfl
theorem row_i1 (h : Hg) (S : Store) : index (hd h) (.int 1) S = some (fr h.2.1) := rfl
theorem app_at {S : Store} {L : Nat} {xs : List D} {x : D} (h : S[L]? = some (.lst xs)) (hz : xs.length < SZ) : meth .append (.loc L) [x] S = some (.non, S.set L (.lst (xs ++ [x]))) := by
  unfold meth
  simp only [h]
  rw [if_pos hz]
section
variable {r l lg lc p M s n : Nat} {bl : List Int} {st : Store}
/-- one turn of the net's loop -/
theorem net_iter (b0 : Bag r l lg lc st) (hp : st[p]? = some (.lst (bl.map D.int))) (hp1 : p ≠ l) (hp2 : p ≠ lg) (Be : Bel M bl) (hs : s < 2 ^ 50) (hn : n ≤ 1000) {i : Nat} (hi : i ≤ 9) {hg : List Hg} (Hk : HsOk M s n i hg) {S : Store} {k : Nat} (B : Bag (k + (2 * n + 7)) l lg lc S) (G : Grow st.length l lg st S) (hL : S[st.length]? = some (.lst (hg.map hd))) (hh : Int) (o6 o7 o8 o9 o10 : Option D) :
    ∃ o7' o8' o9' o10' S' hg', denSs (NB.body.nth 1).bd (NE l p st.length n s hh o6 o7 o8 o9 o10) S = some (.next, NE l p st.length n s hh o6 o7' o8' o9' o10', S') ∧ HsOk M s n (i + 1) hg' ∧ Bag k l lg lc S' ∧ Grow st.length l lg st S' ∧ S'[st.length]? = some (.lst (hg'.map hd)) := by
  obtain ⟨l1, l2, l3⟩ := b0.lts
  have hpl := (List.getElem?_eq_some_iff.mp hp).1
  have pS : ∀ {S : Store}, Grow st.length l lg st S → S[p]? = some (.lst (bl.map D.int)) := fun {S} g => by rw [g.at_ p hpl hp1 hp2]; exact hp
  have nl : st.length ≠ l := by omega
  have ng : st.length ≠ lg := by omega
  have nc : st.length ≠ lc := by omega
  -- a, b
  obtain ⟨a, S1, d1, ha, hqa, B1, X1⟩ := draw_row_ok (r := k + 7) (n := n) (s := s) (B.less (by omega)) (pS G) hp1 hp2 Be.ne Be.len Be.pos Be.ent hs hn
  have G1 := G.ext X1
  obtain ⟨q, S2, d2, hqb, B2, X2⟩ := draw_fr_ok (r := k + 5) (s := s) (B1.less (by omega)) (pS G1) hp1 hp2 Be.ne Be.len Be.pos Be.ent hs
  have G2 := G1.ext X2
  have L2 := (X1.trans X2).lst hL nl ng
  have s0 := net_b0 (hh := hh) (L := st.length) (o6 := o6) (o7 := o7) (o8 := o8) (o9 := o9) (o10 := o10) d1 d2
  -- the middle
  obtain ⟨a', q', o9', o10', S3, s1, ha', hqa', hqb', B3, G3, L3⟩ : ∃ (a' : List Rat) (q' : Rat) (o9' o10' : Option D) (S3 : Store), denS ((NB.body.nth 1).bd.nth 1) (NE l p st.length n s hh o6 (some (row a)) (some (fr q)) o9 o10) S2 = some (.next, NE l p st.length n s hh o6 (some (row a')) (some (fr q')) o9' o10', S3) ∧ a'.length = n ∧ (∀ z ∈ a', Bq (M * 6 ^ (i + 1)) (s * 2 ^ (i + 1)) z) ∧ Bq (M * 6 ^ (i + 1)) (s * 2 ^ (i + 1)) q' ∧ Bag (k + 2) l lg lc S3 ∧ Grow st.length l lg st S3 ∧ S3[st.length]? = some (.lst (hg.map hd)) := by
    have hne := ne_nil L2
    have L2' : (S2 ++ [Cell.lst []])[st.length]? = some (.lst (hg.map hd)) := by rw [List.getElem?_append_left (List.getElem?_eq_some_iff.mp L2).1]; exact L2
    by_cases hnil : hg = []
    · rw [decide_eq_true hnil] at hne
      exact ⟨a, q, _, _, _, net_b1n hne, ha, fun z hz => up_0 (hqa z hz), up_0 hqb, (B2.less (by omega)).app _, G2.app _, L2'⟩
    · rw [decide_eq_false hnil] at hne
      obtain ⟨v, S3, d3, hv0, hv1, B3, X3⟩ := draw_ok (r := k + 4) ((B2.app [Cell.lst []]).less (by omega)) (many := 3) (by decide) ((sm_of (k := 2) (by decide) (by decide)).up (by decide))
      have G3 := (G2.app [Cell.lst []]).ext X3
      have L3 := X3.lst L2' nl ng
      by_cases hv : v = 0
      · subst hv
        have hgl : hg.length < 2 ^ 100 := by rw [Hk.len]; exact Nat.lt_of_le_of_lt hi (by decide)
        obtain ⟨x, S4, d4, hx, B4, X4⟩ := pick_ok (r := k + 3) (B3.less (by omega)) L3 nl ng (by simpa [-Option.some.injEq, -Prod.mk.injEq, denS, denE, denEs, denT, denO, denTs, denSrc, binop, cmpop, eqv_int, abs_int, asTr, truth] using hnil) (by rw [List.length_map]; exact hgl)
        obtain ⟨h, hh', rfl⟩ := List.mem_map.mp hx
        have G4 := G3.ext X4
        have L4 := X4.lst L3 nl ng
        have l4 := B4.lts
        obtain ⟨t', S5, d5, ht, B5, X5⟩ := pick_ok (r := k + 2) (p := S4.length) (xs := tsD) ((B4.app [Cell.lst tsD]).less (by omega)) (at_last _ _) (by omega) (by omega) (by unfold tsD; simp [-Option.some.injEq, -Prod.mk.injEq, denS, denE, denEs, denT, denO, denTs, denSrc, binop, cmpop, eqv_int, abs_int, asTr, truth]) (by show 5 < 2 ^ 100; decide)
        obtain ⟨t, rfl, tq⟩ := ts_ok ht
        have bt : Bd t := tq.bd (k := 3) (m := 2) (by decide) (by decide) (by decide)
        have bh : ∀ z ∈ hall h, Bd z := fun z hz => bd_i Be.sM hs (by omega) (Hk.ent h hh' z hz)
        have k1 := taken_ok S5 bt (fun z hz => bh z (mem_a hz)) (by rw [Hk.row h hh']; unfold SZ; omega)
        have k2 := law_times_ok t h.2.1 S5 bt (bh _ (mem_b h))
        have L5 : S5[st.length]? = some (.lst (hg.map hd)) := X5.lst (by rw [List.getElem?_append_left (List.getElem?_eq_some_iff.mp L4).1]; exact L4) nl ng
        refine ⟨scaleL t h.1, t * h.2.1, _, _, S5, net_b1t hne d3 d4 d5 (row_i0 h S5) (row_i1 h S5) k1 k2, by unfold scaleL; rw [List.length_map, Hk.row h hh'], fun z hz => ?_, mul_i tq (Hk.ent h hh' _ (mem_b h)), B5, (G4.app _).ext X5, L5⟩
        obtain ⟨z', hz', rfl⟩ := List.mem_map.mp hz
        exact mul_i tq (Hk.ent h hh' z' (mem_a hz'))
      · exact ⟨a, q, _, _, S3, net_b1f hne d3 hv, ha, fun z hz => up_0 (hqa z hz), up_0 hqb, B3.less (by omega), G3, L3⟩
  -- the append
  obtain ⟨c, S4, d4, hqc, B4, X4⟩ := draw_fr_ok (r := k) (s := s) B3 (pS G3) hp1 hp2 Be.ne Be.len Be.pos Be.ent hs
  have G4 := G3.ext X4
  have L4 := X4.lst L3 nl ng
  have ap := app_at (x := .tup [row a', fr q', fr c]) L4 (by rw [List.length_map, Hk.len]; unfold SZ; omega)
  have hL4 := (List.getElem?_eq_some_iff.mp L4).1
  refine ⟨_, _, _, _, _, hg ++ [(a', q', c)], ss_next s0 (ss_next s1 (ss_next (net_b2 (xs := []) d4 ap) ss_nil)), ⟨by rw [List.length_append, Hk.len]; rfl, fun h hh' z hz => ?_, fun h hh' => ?_⟩, B4.set nl ng nc _, G4.set (Nat.le_refl _) _, by rw [List.getElem?_set_self hL4, List.map_append]; rfl⟩
  · rcases List.mem_append.mp hh' with y | y
    · exact up_i (Hk.ent h y z hz)
    · rw [List.mem_singleton.mp y] at hz
      rcases List.mem_append.mp hz with w | w
      · exact hqa' z w
      · rcases List.mem_cons.mp w with rfl | w
        · exact hqb'
        · rw [List.mem_singleton.mp w]; exact up_0 hqc
  · rcases List.mem_append.mp hh' with y | y
    · exact Hk.row h y
    · rw [List.mem_singleton.mp y]; exact ha'
end
end Law
end
section
set_option Elab.async false
set_option linter.all false
set_option maxRecDepth 100000
set_option autoImplicit false
set_option exponentiation.threshold 20000
namespace Law
open Calc

section
variable {r l lg lc p M s n : Nat} {bl : List Int} {st : Store}
theorem net_ok (b0 : Bag (r + 8 * (2 * n + 7)) l lg lc st) (hp : st[p]? = some (.lst (bl.map D.int))) (hp1 : p ≠ l) (hp2 : p ≠ lg) (Be : Bel M bl) (hs : s < 2 ^ 10) (hn : n ≤ 1000) :
    ∃ hg d e st', f__law_net [.loc l, .int n, .int 6, .int s, .loc p] st = some (netD n hg d e, st') ∧ NetOk (M * 6 ^ 6) (s * 2 ^ 6) 70 n hg d e ∧ Bag r l lg lc st' ∧ Ext l lg st st' := by
  have hs50 : s < 2 ^ 50 := pow_up hs (by decide)
  obtain ⟨l1, l2, l3⟩ := b0.lts
  have hpl := (List.getElem?_eq_some_iff.mp hp).1
  -- made = []; how many
  obtain ⟨v, S0, d0, hv0, hv1, B0, X0⟩ := draw_ok (r := r + (7 * (2 * n + 7))) ((b0.app [Cell.lst []]).less (by omega)) (many := 6 + 1) (by decide) ((sm_of (k := 3) (by decide) (by decide)).up (by decide))
  have G0 : Grow st.length l lg st S0 := (Grow.app ⟨Nat.le_refl _, fun _ _ _ _ => rfl⟩ _).ext X0
  have L0 : S0[st.length]? = some (.lst ([] : List D)) := X0.lst (at_last _ _) (by omega) (by omega)
  obtain ⟨m, rfl⟩ : ∃ m : Nat, v = (m : Int) := ⟨v.toNat, by omega⟩
  have hm : m ≤ 6 := by omega
  have hr : rngOf [.int m] = some ⟨(List.range m).map fun (i : Nat) => D.int (i : Int), []⟩ := rng_at (by omega)
  generalize hits : ((List.range m).map fun (i : Nat) => D.int (i : Int)) = its at hr
  have hil : its.length = m := by rw [← hits, List.length_map, List.length_range]
  obtain ⟨env', S1, e1, o6, o7, o8, o9, o10, hg, rfl, Hk, B1, G1, L1⟩ := for_inv (ok := Walk.ok ⟨its, []⟩) (t := .nm 6) (body := fun env st => denSs (NB.body.nth 1).bd env st)
    (fun i env S => ∃ o6 o7 o8 o9 o10 hg, env = NE l p st.length n s 6 o6 o7 o8 o9 o10 ∧ HsOk M s n i hg ∧ Bag (r + (7 - i) * (2 * n + 7)) l lg lc S ∧ Grow st.length l lg st S ∧ S[st.length]? = some (.lst (hg.map hd))) (items := its)
    (env := NE l p st.length n s 6 none none none none none) (st := S0) ⟨_, _, _, _, _, [], rfl, ⟨rfl, fun _ h => (nomatch h), fun _ h => (nomatch h)⟩, B0, G0, L0⟩
    (fun i dd env S hd' hI => by
      rw [← hits] at hd'
      obtain ⟨hi, rfl⟩ := range_at hd'
      obtain ⟨o6, o7, o8, o9, o10, hg, rfl, Hk, B, G, L⟩ := hI
      have e7 : 7 - i = (7 - (i + 1)) + 1 := by omega
      rw [e7, Nat.succ_mul] at B
      obtain ⟨p7, p8, p9, p10, S', hg', z, Hk', B', G', L'⟩ := net_iter (k := r + (7 - (i + 1)) * (2 * n + 7)) b0 hp hp1 hp2 Be hs50 hn (by omega) Hk (B.less (by omega)) G L 6 (some (.int i)) o7 o8 o9 o10
      exact ⟨rfl, NE l p st.length n s 6 (some (.int i)) o7 o8 o9 o10, _, S', rfl, z, _, _, _, _, _, hg', rfl, Hk', B', G', L'⟩)
    (fun _ _ _ => rfl)
  rw [hil] at Hk B1
  -- the last row
  have pS : ∀ {S : Store}, Grow st.length l lg st S → S[p]? = some (.lst (bl.map D.int)) := fun {S} g => by rw [g.at_ p hpl hp1 hp2]; exact hp
  have hk1 : 1 * (2 * n + 7) ≤ (7 - m) * (2 * n + 7) := Nat.mul_le_mul_right _ (by omega)
  obtain ⟨a, S2, d1, ha, hqa, B2, X2⟩ := draw_row_ok (r := r + 7) (n := n) (s := s) (B1.less (by omega)) (pS G1) hp1 hp2 Be.ne Be.len Be.pos Be.ent hs50 hn
  have G2 := G1.ext X2
  obtain ⟨q, S3, d2, hqb, B3, X3⟩ := draw_fr_ok (r := r + 5) (s := s) (B2.less (by omega)) (pS G2) hp1 hp2 Be.ne Be.len Be.pos Be.ent hs50
  have G3 := G2.ext X3
  have hm6 : m ≤ 6 := hm
  have sM : M * 6 ^ 6 < 2 ^ 70 := Nat.lt_of_lt_of_le (pow_mul_lt Be.sM (show 6 ^ 6 < 2 ^ 20 by decide)) (Nat.pow_le_pow_right (by decide) (by decide))
  have sB : s * 2 ^ 6 < 2 ^ 70 := Nat.lt_of_lt_of_le (pow_mul_lt hs (show 2 ^ 6 < 2 ^ 20 by decide)) (Nat.pow_le_pow_right (by decide) (by decide))
  have pM : 0 < M * 6 ^ 6 := Nat.mul_pos Be.pos (by decide)
  have N : NetOk (M * 6 ^ 6) (s * 2 ^ 6) 70 n hg a q := ⟨pM, sM, sB, fun h hh z hz => (Hk.ent h hh z hz).up (Nat.mul_dvd_mul_left _ (Nat.pow_dvd_pow _ hm6)) pM (Nat.mul_le_mul_left _ (Nat.pow_le_pow_right (by decide) hm6)), fun z hz => up_0 (hqa z hz), up_0 hqb, Hk.row, ha, hn, by rw [Hk.len]; omega⟩
  have tl : bltn .tuple [.loc st.length] S1 = some (.tup (hg.map hd), S1) := by simp only [bltn, seqOf, L1]
  have hc0 : denEs (.cons (.call "_law_draw" f__law_draw (.cons (.var 0) (.cons (.bin .add (.var 2) (.lit (.int 1))) .nil))) .nil) (NE l p st.length n s 6 none none none none none) (st ++ [Cell.lst []]) = some ([.int m], S0) := by
    simp [-Option.some.injEq, -Prod.mk.injEq, denS, denE, denEs, denT, denO, denTs, denSrc, binop, cmpop, eqv_int, abs_int, asTr, truth, NE]
    rw [show (6 : Int) + 1 = 7 from rfl] at d0
    simp [-Option.some.injEq, -Prod.mk.injEq, denS, denE, denEs, denT, denO, denTs, denSrc, binop, cmpop, eqv_int, abs_int, asTr, truth, d0]
  obtain ⟨st', f1, f2, f3⟩ := def_grow (df := NB) (args := [.loc l, .int n, .int 6, .int s, .loc p]) (env0 := [some (.loc l), some (.int n), some (.int 6), some (.int s), some (.loc p), none, none, none, none, none, none]) (st := st) (S := S3) (d := netD n hg a q) rfl rfl
    (ss_next (env' := NE l p st.length n s 6 none none none none none) (st' := st ++ [Cell.lst []]) (by simp [-Option.some.injEq, -Prod.mk.injEq, denS, denE, denEs, denT, denO, denTs, denSrc, binop, cmpop, eqv_int, abs_int, asTr, truth, NE, SZ]) (ss_next (s_for (w := ⟨its, []⟩) (st' := S0) (s_rng hc0 hr) e1) (ss_ret (env' := NE l p st.length n s 6 o6 o7 o8 o9 o10) (st' := S3) (s_ret (e_tupL (es_cons (e_var rfl) (es_cons (e_blV (e_var rfl) tl) (es_cons (e_tupL (es_cons (e_call (es_cons (e_var rfl) (es_cons (e_var rfl) (es_cons (e_var rfl) (es_cons (e_var rfl) es_nil)))) d1) (es_cons (e_call (es_cons (e_var rfl) (es_cons (e_var rfl) (es_cons (e_var rfl) es_nil))) d2) es_nil)) (by show 2 ≤ SZ; decide)) es_nil))) (by show 3 ≤ SZ; decide)))))) b0 B3 G3 (under_net _ _ _ _ _)
  exact ⟨hg, a, q, st', f1, N, f2.less (by omega), f3⟩
end
end Law
end
section
set_option Elab.async false
set_option linter.all false
set_option maxRecDepth 100000
set_option autoImplicit false
set_option exponentiation.threshold 20000
namespace Law
open Calc

def dsD : List D := [.tup [.int 0, .int 1], .tup [.int 1, .int 1], .tup [.int 7, .int 3], .tup [.int 40, .int 1], .tup [.int 1, .int 9999]]
theorem ds_ok {x : D} (h : x ∈ dsD) : ∃ t : Rat, x = fr t ∧ Bq 59994 40 t ∧ 0 ≤ t := by
  have key : ∀ (a : Nat) (b : Nat), 0 < b → b ∣ 59994 → a ≤ 40 * b → (a : Int).fdiv (Int.gcd a b) = a → (b : Int).fdiv (Int.gcd a b) = b → ∃ t : Rat, D.tup [.int a, .int b] = fr t ∧ Bq 59994 40 t ∧ 0 ≤ t := fun a b h1 h2 h3 h4 h5 =>
    ⟨Rat.divInt a b, by rw [fr_div (by omega), h4, h5], bq_div h1 (by decide) h2 (by simpa [-Option.some.injEq, -Prod.mk.injEq, denS, denE, denEs, denT, denO, denTs, denSrc, binop, cmpop, eqv_int, abs_int, asTr, truth] using h3), by
      rw [Rat.divInt_nonneg_iff_of_pos_right (by omega)]; omega⟩
  unfold dsD at h
  simp only [List.mem_cons, List.not_mem_nil, or_false] at h
  rcases h with rfl | rfl | rfl | rfl | rfl
  · exact key 0 1 (by decide) (by decide) (by decide) (by decide) (by decide)
  · exact key 1 1 (by decide) (by decide) (by decide) (by decide) (by decide)
  · exact key 7 3 (by decide) (by decide) (by decide) (by decide) (by decide)
  · exact key 40 1 (by decide) (by decide) (by decide) (by decide) (by decide)
  · exact key 1 9999 (by decide) (by decide) (by decide) (by decide) (by decide)
noncomputable abbrev XB : Def := b__law_box f__law_plus f__law_pick f__law_draw_fr
section
variable {l L : Nat} {n : Int} {o3 o4 : Option D} {S S1 S2 : Store}
theorem box_b0 {q : D} (h : f__law_draw_fr [.loc l, .int 9, .loc S.length] (S ++ [Cell.lst [.int 1, .int 2, .int 3]]) = some (q, S1)) : denS ((XB.body.nth 1).bd.nth 0) [some (.loc l), some (.int n), some (.loc L), o3, o4] S = some (.next, [some (.loc l), some (.int n), some (.loc L), o3, some q], S1) := by
  show denS (.set 4 _) _ _ = _
  simp [-Option.some.injEq, -Prod.mk.injEq, denS, denE, denEs, denT, denO, denTs, denSrc, binop, cmpop, eqv_int, abs_int, asTr, truth, SZ, h]
theorem box_b1 {q t z : D} (h1 : f__law_pick [.loc l, .loc S.length] (S ++ [Cell.lst dsD]) = some (t, S1)) (h2 : f__law_plus [q, t] S1 = some (z, S1)) (h3 : meth .append (.loc L) [.tup [q, z]] S1 = some (.non, S2)) : denS ((XB.body.nth 1).bd.nth 1) [some (.loc l), some (.int n), some (.loc L), o3, some q] S = some (.next, [some (.loc l), some (.int n), some (.loc L), o3, some q], S2) := by
  unfold dsD at h1
  show denS (.ex _) _ _ = _
  simp [-Option.some.injEq, -Prod.mk.injEq, denS, denE, denEs, denT, denO, denTs, denSrc, binop, cmpop, eqv_int, abs_int, asTr, truth, SZ, h1, h2, h3]
end
section
variable {r l lg lc n : Nat} {st : Store}
structure BxOk (i : Nat) (bx : List (Rat × Rat)) : Prop where
  len : bx.length = i
  ent : ∀ p ∈ bx, Bq 59994 49 p.1 ∧ Bq 59994 49 p.2
  ord : ∀ p ∈ bx, p.1 ≤ p.2
theorem box_iter (b0 : Bag r l lg lc st) {i : Nat} (hi : i ≤ 1000) {bx : List (Rat × Rat)} (Hk : BxOk i bx) {S : Store} {k : Nat} (B : Bag (k + 3) l lg lc S) (G : Grow st.length l lg st S) (hL : S[st.length]? = some (.lst (bx.map pr))) (n : Int) (o3 o4 : Option D) :
    ∃ o4' S' bx', denSs (XB.body.nth 1).bd [some (.loc l), some (.int n), some (.loc st.length), o3, o4] S = some (.next, [some (.loc l), some (.int n), some (.loc st.length), o3, o4'], S') ∧ BxOk (i + 1) bx' ∧ Bag k l lg lc S' ∧ Grow st.length l lg st S' ∧ S'[st.length]? = some (.lst (bx'.map pr)) := by
  obtain ⟨l1, l2, l3⟩ := b0.lts
  have nl : st.length ≠ l := by omega
  have ng : st.length ≠ lg := by omega
  have nc : st.length ≠ lc := by omega
  have lS := B.lts
  obtain ⟨q, S1, d1, hq, B1, X1⟩ := draw_fr_ok (r := k + 1) (p := S.length) (M := 6) (s := 9) (bl := [1, 2, 3]) ((B.app [Cell.lst [.int 1, .int 2, .int 3]]).less (by omega)) (at_last _ _) (by omega) (by omega) (by simp [-Option.some.injEq, -Prod.mk.injEq, denS, denE, denEs, denT, denO, denTs, denSrc, binop, cmpop, eqv_int, abs_int, asTr, truth]) (by show 3 < 2 ^ 100; decide) (by decide) (fun z hz => by
    simp only [List.mem_cons, List.not_mem_nil, or_false] at hz
    rcases hz with rfl | rfl | rfl
    · exact ⟨by decide, by decide, (sm_of (k := 2) (by decide) (by decide)).up (by decide)⟩
    · exact ⟨by decide, by decide, (sm_of (k := 2) (by decide) (by decide)).up (by decide)⟩
    · exact ⟨by decide, by decide, (sm_of (k := 2) (by decide) (by decide)).up (by decide)⟩) (by decide)
  have G1 := (G.app [Cell.lst [.int 1, .int 2, .int 3]]).ext X1
  have L1 : S1[st.length]? = some (.lst (bx.map pr)) := X1.lst (by rw [List.getElem?_append_left (List.getElem?_eq_some_iff.mp hL).1]; exact hL) nl ng
  have lS1 := B1.lts
  obtain ⟨t, S2, d2, ht, B2, X2⟩ := pick_ok (r := k) (p := S1.length) (xs := dsD) ((B1.app [Cell.lst dsD]).less (by omega)) (at_last _ _) (by omega) (by omega) (by unfold dsD; simp [-Option.some.injEq, -Prod.mk.injEq, denS, denE, denEs, denT, denO, denTs, denSrc, binop, cmpop, eqv_int, abs_int, asTr, truth]) (by show 5 < 2 ^ 100; decide)
  obtain ⟨δ, rfl, hδ, h0⟩ := ds_ok ht
  have G2 := (G1.app [Cell.lst dsD]).ext X2
  have L2 : S2[st.length]? = some (.lst (bx.map pr)) := X2.lst (by rw [List.getElem?_append_left (List.getElem?_eq_some_iff.mp L1).1]; exact L1) nl ng
  have hq9 : Bq 59994 9 q := hq.up (by decide) (by decide) (Nat.le_refl _)
  have pl := law_plus_ok q δ S2 (hq9.bd (k := 20) (m := 20) (by decide) (by decide) (by decide)) (hδ.bd (k := 20) (m := 20) (by decide) (by decide) (by decide))
  have ap := app_at (x := .tup [fr q, fr (q + δ)]) L2 (by rw [List.length_map, Hk.len]; unfold SZ; omega)
  have hL2 := (List.getElem?_eq_some_iff.mp L2).1
  refine ⟨_, _, bx ++ [(q, q + δ)], ss_next (box_b0 d1) (ss_next (box_b1 d2 pl ap) ss_nil), ⟨by rw [List.length_append, Hk.len]; rfl, fun p hp => ?_, fun p hp => ?_⟩, B2.set nl ng nc _, G2.set (Nat.le_refl _) _, by rw [List.getElem?_set_self hL2, List.map_append]; rfl⟩
  · rcases List.mem_append.mp hp with y | y
    · exact Hk.ent p y
    · rw [List.mem_singleton.mp y]
      exact ⟨hq9.up (Nat.dvd_refl _) (by decide) (by decide), hq9.add hδ⟩
  · rcases List.mem_append.mp hp with y | y
    · exact Hk.ord p y
    · rw [List.mem_singleton.mp y]
      show q ≤ q + δ
      grind
theorem under_prs (k : Nat) : ∀ bx : List (Rat × Rat), D.unders k (bx.map pr) = true
  | [] => rfl
  | p :: bx => by
    show (D.under k (pr p) && D.unders k (bx.map pr)) = true
    rw [under_prs k bx, Bool.and_true]; rfl
theorem box_ok (b0 : Bag (r + 3 * n) l lg lc st) (hn : n ≤ 1000) : ∃ bx st', f__law_box [.loc l, .int n] st = some (boxD bx, st') ∧ BoxOk 59994 49 70 n bx ∧ Bag r l lg lc st' ∧ Ext l lg st st' := by
  obtain ⟨l1, l2, l3⟩ := b0.lts
  have hr : rngOf [.int n] = some ⟨(List.range n).map fun (i : Nat) => D.int (i : Int), []⟩ := rng_at (by omega)
  generalize hits : ((List.range n).map fun (i : Nat) => D.int (i : Int)) = its at hr
  have hil : its.length = n := by rw [← hits, List.length_map, List.length_range]
  obtain ⟨env', S1, e1, o3, o4, bx, rfl, Hk, B1, G1, L1⟩ := for_inv (ok := Walk.ok ⟨its, []⟩) (t := .nm 3) (body := fun env st => denSs (XB.body.nth 1).bd env st)
    (fun i env S => ∃ o3 o4 bx, env = [some (.loc l), some (.int n), some (.loc st.length), o3, o4] ∧ BxOk i bx ∧ Bag (r + 3 * (n - i)) l lg lc S ∧ Grow st.length l lg st S ∧ S[st.length]? = some (.lst (bx.map pr))) (items := its)
    (env := [some (.loc l), some (.int n), some (.loc st.length), none, none]) (st := st ++ [Cell.lst []]) ⟨_, _, [], rfl, ⟨rfl, fun _ h => (nomatch h), fun _ h => (nomatch h)⟩, (b0.app _).less (by omega), Grow.app ⟨Nat.le_refl _, fun _ _ _ _ => rfl⟩ _, at_last _ _⟩
    (fun i dd env S hd' hI => by
      rw [← hits] at hd'
      obtain ⟨hi, rfl⟩ := range_at hd'
      obtain ⟨o3, o4, bx, rfl, Hk, B, G, L⟩ := hI
      obtain ⟨p4, S', bx', z, Hk', B', G', L'⟩ := box_iter (k := r + 3 * (n - (i + 1))) b0 (by omega) Hk (B.less (by omega)) G L n (some (.int i)) o4
      exact ⟨rfl, [some (.loc l), some (.int n), some (.loc st.length), some (.int i), o4], _, S', rfl, z, _, _, bx', rfl, Hk', B', G', L'⟩)
    (fun _ _ _ => rfl)
  rw [hil] at Hk B1
  have tl : bltn .tuple [.loc st.length] S1 = some (boxD bx, S1) := by simp only [bltn, seqOf, L1]; rfl
  obtain ⟨st', f1, f2, f3⟩ := def_grow (df := XB) (args := [.loc l, .int n]) (env0 := [some (.loc l), some (.int n), none, none, none]) (st := st) (S := S1) (d := boxD bx) rfl rfl
    (ss_next (env' := [some (.loc l), some (.int n), some (.loc st.length), none, none]) (st' := st ++ [Cell.lst []]) (by simp [-Option.some.injEq, -Prod.mk.injEq, denS, denE, denEs, denT, denO, denTs, denSrc, binop, cmpop, eqv_int, abs_int, asTr, truth, SZ]) (ss_next (s_for (w := ⟨its, []⟩) (st' := st ++ [Cell.lst []]) (s_rng (es_cons (e_var rfl) es_nil) hr) e1) (ss_ret (s_ret (e_blV (e_var rfl) tl))))) b0 B1 G1 (under_prs _ _)
  exact ⟨bx, st', f1, ⟨by decide, Nat.lt_of_lt_of_le (show 59994 < 2 ^ 20 by decide) (Nat.pow_le_pow_right (by decide) (by decide)), Nat.lt_of_lt_of_le (show 49 < 2 ^ 20 by decide) (Nat.pow_le_pow_right (by decide) (by decide)), Hk.ent, Hk.ord, Hk.len⟩, f2.less (by omega), f3⟩
end
end Law
end
section
set_option Elab.async false
set_option linter.all false
set_option maxRecDepth 100000
set_option autoImplicit false
set_option exponentiation.threshold 20000
namespace Law
open Calc

theorem s_ex {e : E} {d : D} {env : Env} {st st1 : Store} (h : denE e env st = some (d, st1)) : denS (.ex e) env st = some (.next, env, st1) := by
  simp only [denS]
  rw [h, bnd_some]
theorem e_meth0 {m : Mf} {o : E} {x d : D} {env : Env} {st st1 st2 : Store} (h1 : denE o env st = some (x, st1)) (h2 : meth m x [] st1 = some (d, st2)) : denE (.meth m o .nil) env st = some (d, st2) := by
  simp only [denE, denEs]
  rw [h1, bnd_some, bnd_some, h2]
theorem fdiv2 {z : Int} (h : 0 ≤ z) : 0 ≤ z.fdiv 2 := by
  rw [Int.fdiv_eq_ediv_of_nonneg _ (by decide)]
  exact Int.ediv_nonneg h (by decide)
theorem bag_ok (ns : List Int) (hl : ns.length ≤ 1000) (d : D) (st : Store) (still : List (Nat × List D)) (hw : walkOf st d = some ⟨ns.map D.int, still⟩) (hok : Walk.ok ⟨ns.map D.int, still⟩ st = true) :
    ∃ l lg lc st', f__law_bag [d] st = some (.loc l, st') ∧ Bag 900000 l lg lc st' := by
  -- cells
  have c1 := comp_map (ok := Walk.ok ⟨ns.map D.int, still⟩) (t := .nm 3) (env := [some d, none, none, none]) (test := fun env1 st2 => denTs .none env1 st2) (elt := fun env1 st2 => denE (.bl .abs (.cons (.bl .int (.cons (.var 3) .nil)) .nil)) env1 st2)
    (fun z : Int => D.int z.natAbs) D.int st hok ns [] (fun z _ => ⟨[some d, none, none, some (.int z)], rfl, by simp only [denTs], e_blV (e_blV (e_var rfl) rfl) (by show some (D.int (if z < 0 then -z else z), st) = _; rw [abs_int])⟩) (by unfold SZ; simp [-Option.some.injEq, -Prod.mk.injEq]; omega)
  rw [List.nil_append] at c1
  generalize hA : (ns.map fun z : Int => D.int (z.natAbs : Int)) = A at c1
  have hAl : A.length = ns.length := by rw [← hA, List.length_map]
  have k1 := e_lc (own := [3]) (env := [some d, none, none, none]) (s_seqW (e := .var 0) (e_var rfl) hw) c1
  have k2 := e_lstL (env := [some d, none, none, none]) (st := st ++ [Cell.lst A]) (es_cons (e_lit (d := .int 7)) es_nil) (by show 1 ≤ SZ; decide)
  have a1 : (st ++ [Cell.lst A] ++ [Cell.lst [D.int 7]])[st.length]? = some (.lst A) := by rw [List.append_assoc, List.getElem?_append_right (Nat.le_refl _), Nat.sub_self]; rfl
  have a2 : (st ++ [Cell.lst A] ++ [Cell.lst [D.int 7]])[(st ++ [Cell.lst A]).length]? = some (.lst [.int 7]) := at_last _ _
  have k3 : binop .add (.loc st.length) (.loc (st ++ [Cell.lst A]).length) (st ++ [Cell.lst A] ++ [Cell.lst [D.int 7]]) = some (.loc (st ++ [Cell.lst A] ++ [Cell.lst [D.int 7]]).length, (st ++ [Cell.lst A] ++ [Cell.lst [D.int 7]]) ++ [Cell.lst (A ++ [.int 7])]) := by
    simp only [binop, a1, a2]
    rw [if_pos (by rw [hAl]; show ns.length + 1 ≤ SZ; unfold SZ; omega)]
  have s0 := s_setM (i := 1) (e_bin k1 k2 k3) (by show 1 < 4; decide)
  generalize hS1 : (st ++ [Cell.lst A] ++ [Cell.lst [D.int 7]]) ++ [Cell.lst (A ++ [.int 7])] = S1 at s0
  generalize hC : (st ++ [Cell.lst A] ++ [Cell.lst [D.int 7]]).length = lC at s0
  have hSC : S1[lC]? = some (.lst (A ++ [.int 7])) := by rw [← hS1, ← hC]; exact at_last _ _
  have hlC : lC < S1.length := (List.getElem?_eq_some_iff.mp hSC).1
  -- the cells as ints
  obtain ⟨cs, hcs, hcp, hcn, hcl⟩ : ∃ cs : List Int, A ++ [.int 7] = cs.map D.int ∧ (∀ c ∈ cs, 0 ≤ c) ∧ cs ≠ [] ∧ cs.length ≤ 1001 := by
    refine ⟨(ns.map fun z : Int => (z.natAbs : Int)) ++ [7], by rw [List.map_append, ← hA, List.map_map]; rfl, fun c hc => ?_, by simp [-Option.some.injEq, -Prod.mk.injEq], by simp [-Option.some.injEq, -Prod.mk.injEq]; omega⟩
    rcases List.mem_append.mp hc with z | z
    · obtain ⟨w, _, rfl⟩ := List.mem_map.mp z
      exact Int.natCast_nonneg _
    · rw [List.mem_singleton.mp z]; decide
  rw [hcs] at hSC
  -- great = []
  have s1 := s_setM (i := 2) (env := [some d, some (.loc lC), none, none]) (st := S1) (e_lstL (es := .nil) es_nil (Nat.zero_le _)) (by show 2 < 4; decide)
  have hS2C : (S1 ++ [Cell.lst []])[lC]? = some (.lst (cs.map D.int)) := by rw [List.getElem?_append_left hlC]; exact hSC
  -- the cell at 0
  obtain ⟨x0, hx0⟩ : ∃ x0, cs[0]? = some x0 := ⟨cs[0]'(List.length_pos_iff.mpr hcn), List.getElem?_eq_getElem _⟩
  have ix : index (.loc lC) (.int 0) (S1 ++ [Cell.lst []]) = some (.int x0) := by
    rw [index_of (seqOf_loc hS2C)]
    exact atI_nat (i := 0) (by rw [List.getElem?_map, hx0]; rfl)
  have tt : denT (.cmp .eq (.bin .mod (.bl .int (.cons (.idx (.var 1) (.lit (.int 0))) .nil)) (.lit (.int 2))) (.lit (.int 0))) [some d, some (.loc lC), some (.loc S1.length), none] (S1 ++ [Cell.lst []]) = some (decide (x0.fmod 2 = 0), S1 ++ [Cell.lst []]) :=
    t_cmp (e_bin (e_blV (e_ix (e_var rfl) e_lit ix) rfl) e_lit (by show (if (2 : Int) = 0 then none else some (D.int (x0.fmod 2), _)) = _; rw [if_neg (by decide)])) e_lit (eqv_int _ _ _)
  -- what the third statement leaves
  obtain ⟨lg, gs, S3, s2, hg, hgp, hgl, hS3C, hlg⟩ : ∃ (lg : Nat) (gs : List Int) (S3 : Store), denS (b__law_bag.body.nth 2) [some d, some (.loc lC), some (.loc S1.length), none] (S1 ++ [Cell.lst []]) = some (.next, [some d, some (.loc lC), some (.loc lg), none], S3) ∧ S3[lg]? = some (.lst (gs.map D.int)) ∧ (∀ g ∈ gs, 0 ≤ g) ∧ gs.length ≤ 1001 ∧ S3[lC]? = some (.lst (cs.map D.int)) ∧ lg ≠ lC := by
    by_cases h2 : x0.fmod 2 = 0
    · rw [decide_eq_true h2] at tt
      have c2 := comp_filt (ok := Walk.ok ⟨cs.map D.int, [(lC, cs.map D.int)]⟩) (t := .nm 3) (env := [some d, some (.loc lC), some (.loc S1.length), none]) (test := fun env1 st2 => denTs (.some (.cmp .ge (.var 3) (.bin .pow (.lit (.int 10)) (.lit (.int 18))))) env1 st2) (elt := fun env1 st2 => denE (.bin .fdiv (.var 3) (.lit (.int 2))) env1 st2)
        (fun z : Int => D.int (z.fdiv 2)) D.int (fun z => decide ((10 : Int) ^ 18 ≤ z)) (S1 ++ [Cell.lst []]) (by show ([(lC, cs.map D.int)] : List (Nat × List D)).all (fun p => decide ((S1 ++ [Cell.lst []])[p.1]? = some (.lst p.2))) = true; simp [-Option.some.injEq, -Prod.mk.injEq, hS2C]) cs [] (fun z _ => ⟨[some d, some (.loc lC), some (.loc S1.length), some (.int z)], rfl, by
          simp only [denTs]
          exact t_cmp (e_var rfl) (e_bin e_lit e_lit (by show (if (0 : Int) ≤ 18 ∧ (18 : Int) ≤ 1000000 ∧ (10 : Int).natAbs < 2 ^ 64 then some (D.int ((10 : Int) ^ (18 : Int).toNat), _) else none) = _; rw [if_pos (by decide)])) rfl, fun _ => e_bin (e_var rfl) e_lit (by show (if divOk 2 = true then some (D.int (z.fdiv 2), S1 ++ [Cell.lst []]) else none) = _; rw [if_pos (by decide)])⟩) (by unfold SZ; simp [-Option.some.injEq, -Prod.mk.injEq]; omega)
      rw [List.nil_append] at c2
      have k5 := e_lc (own := [3]) (env := [some d, some (.loc lC), some (.loc S1.length), none]) (s_seqW (e := .var 1) (w := ⟨cs.map D.int, [(lC, cs.map D.int)]⟩) (e_var rfl) (by simp only [walkOf, hS2C])) c2
      generalize hGr : (cs.filter fun z => decide ((10 : Int) ^ 18 ≤ z)) = fl at k5
      have hfl : ∀ z ∈ fl, 0 ≤ z := fun z hz => by rw [← hGr] at hz; exact hcp z (List.mem_filter.mp hz).1
      have hfl2 : fl.length ≤ 1001 := by rw [← hGr]; exact Nat.le_trans (List.length_filter_le _ _) hcl
      have hrev : meth .reverse (.loc (S1 ++ [Cell.lst []]).length) [] (S1 ++ [Cell.lst []] ++ [Cell.lst (fl.map fun z : Int => D.int (z.fdiv 2))]) = some (.non, S1 ++ [Cell.lst []] ++ [Cell.lst (fl.map fun z : Int => D.int (z.fdiv 2)).reverse]) := by
        simp only [meth, at_last, set_last]
      refine ⟨(S1 ++ [Cell.lst []]).length, (fl.map fun z : Int => z.fdiv 2).reverse, _, s_iteT tt (ss_next (s_setM (i := 2) k5 (by show 2 < 4; decide)) (ss_next (s_ex (e_meth0 (e_var rfl) hrev)) ss_nil)), ?_, fun g hg => ?_, by rw [List.length_reverse, List.length_map]; exact hfl2, ?_, ?_⟩
      · rw [at_last, List.map_reverse, List.map_map]; rfl
      · rw [List.mem_reverse] at hg
        obtain ⟨z, hz, rfl⟩ := List.mem_map.mp hg
        exact fdiv2 (hfl z hz)
      · rw [List.getElem?_append_left (by rw [List.length_append]; omega)]; exact hS2C
      · rw [List.length_append]; omega
    · rw [decide_eq_false h2] at tt
      exact ⟨S1.length, [], _, s_iteF tt ss_nil, at_last _ _, fun _ h => (nomatch h), Nat.zero_le _, hS2C, by omega⟩
  -- the bag
  have c3 := comp_map (ok := Walk.ok ⟨cs.map D.int, [(lC, cs.map D.int)]⟩) (t := .nm 3) (env := [some d, some (.loc lC), some (.loc lg), none]) (test := fun env1 st2 => denTs .none env1 st2) (elt := fun env1 st2 => denE (.bin .mod (.bl .int (.cons (.var 3) .nil)) (.lit (.int 2147483647))) env1 st2)
    (fun z : Int => D.int (z.fmod 2147483647)) D.int S3 (by show ([(lC, cs.map D.int)] : List (Nat × List D)).all (fun p => decide (S3[p.1]? = some (.lst p.2))) = true; simp [-Option.some.injEq, -Prod.mk.injEq, hS3C]) cs [] (fun z _ => ⟨[some d, some (.loc lC), some (.loc lg), some (.int z)], rfl, by simp only [denTs], e_bin (e_blV (e_var rfl) rfl) e_lit (by show (if (2147483647 : Int) = 0 then none else some (D.int (z.fmod 2147483647), S3)) = _; rw [if_neg (by decide)])⟩) (by unfold SZ; simp [-Option.some.injEq, -Prod.mk.injEq]; omega)
  rw [List.nil_append] at c3
  have k6 := e_lc (own := [3]) (env := [some d, some (.loc lC), some (.loc lg), none]) (s_seqW (e := .var 1) (w := ⟨cs.map D.int, [(lC, cs.map D.int)]⟩) (e_var rfl) (by simp only [walkOf, hS3C])) c3
  generalize hMl : (cs.map fun z : Int => D.int (z.fmod 2147483647)) = ml at k6
  have k7 := e_lstL (env := [some d, some (.loc lC), some (.loc lg), none]) (st := S3) (es_cons (e_lit (d := .int 0)) (es_cons (e_lit (d := .int 0)) (es_cons (e_var (i := 2) rfl) (es_cons k6 es_nil)))) (by show 4 ≤ SZ; decide)
  have hlg2 := (List.getElem?_eq_some_iff.mp hg).1
  have hlen : (S3 ++ [Cell.lst ml]).length = S3.length + 1 := by rw [List.length_append]; rfl
  have hst : st.length ≤ S3.length := by
    have h1 : st.length ≤ lC := by rw [← hC, List.length_append, List.length_append]; omega
    have := (List.getElem?_eq_some_iff.mp hS3C).1
    omega
  refine ⟨(S3 ++ [Cell.lst ml]).length, lg, S3.length, S3 ++ [Cell.lst ml] ++ [Cell.lst [.int 0, .int 0, .loc lg, .loc S3.length]], ?_, ⟨0, 0, gs, cs.map fun z : Int => z.fmod 2147483647, ⟨at_last _ _, ?_, ?_, by omega, by omega, by omega⟩, Int.le_refl _, hgp, by unfold SZ; omega, Int.le_refl _, by decide, by simpa [-Option.some.injEq, -Prod.mk.injEq] using hcn, fun c hc => ?_⟩⟩
  · unfold f__law_bag denDef
    rw [if_pos (show [d].length = b__law_bag.np from rfl)]
    have hrun : denSs b__law_bag.body ([d].map some ++ List.replicate (b__law_bag.ns - b__law_bag.np) none) st = some (.ret (.loc (S3 ++ [Cell.lst ml]).length), [some d, some (.loc lC), some (.loc lg), none], S3 ++ [Cell.lst ml] ++ [Cell.lst [.int 0, .int 0, .loc lg, .loc S3.length]]) :=
      ss_next s0 (ss_next s1 (ss_next s2 (ss_ret (s_ret k7))))
    rw [hrun]
    show some (gc st _ _) = _
    unfold gc
    have hu : D.under st.length (.loc (S3 ++ [Cell.lst ml]).length) = false := by
      show decide (_ < _) = false
      exact decide_eq_false (by omega)
    rw [hu]
    rfl
  · rw [List.append_assoc, List.getElem?_append_left hlg2]; exact hg
  · rw [List.append_assoc, List.getElem?_append_right (Nat.le_refl _), Nat.sub_self, ← hMl]
    show some (Cell.lst _) = _
    rw [List.map_map]; rfl
  · obtain ⟨z, _, rfl⟩ := List.mem_map.mp hc
    exact ⟨(fm_lt (by decide)).1, (fm_lt (by decide)).2⟩
end Law
end
section
set_option Elab.async false
set_option linter.all false
set_option maxRecDepth 100000
set_option autoImplicit false
set_option exponentiation.threshold 20000
namespace Law
open Calc

theorem bq_nat (T : Nat) : Bq 1 T (T : Rat) := ⟨by decide, by rw [Rat.den_natCast]; exact Nat.dvd_refl _, by rw [Rat.num_natCast, Rat.den_natCast]; simp [-Option.some.injEq, -Prod.mk.injEq]⟩
section
variable {M B m n M' X : Nat} {hs : List Hg} {d : List Rat} {e : Rat} {x : List Rat}
theorem NetOk.scaled (N : NetOk M B m n hs d e) {k : Nat} (hk : 2 * m + m ≤ k) : NetOk M (timesQ hs * timesQ hs * B) k n (hs.map (scaleH (timesQ hs : Nat))) (scaleL ((timesQ hs * timesQ hs : Nat) : Rat) d) (((timesQ hs * timesQ hs : Nat) : Rat) * e) := by
  have hT := N.times_lt
  have hT0 : 0 < timesQ hs := Nat.pos_of_dvd_of_pos N.times_dvd N.pos
  generalize timesQ hs = T at *
  have sB : T * T * B < 2 ^ k := pow_up (pow_mul_lt (pow_mul_lt hT hT) N.sB) (by omega)
  have b1 : ∀ {q : Rat}, Bq M B q → Bq M (T * T * B) ((T : Rat) * q) := fun {q} h => by
    have := (bq_nat T).mul h
    rw [Nat.one_mul] at this
    refine this.up (Nat.dvd_refl _) N.pos (Nat.mul_le_mul_right _ ?_)
    exact Nat.le_mul_of_pos_right _ hT0
  have b2 : ∀ {q : Rat}, Bq M B q → Bq M (T * T * B) (((T * T : Nat) : Rat) * q) := fun {q} h => by
    have := (bq_nat (T * T)).mul h
    rwa [Nat.one_mul] at this
  refine ⟨N.pos, pow_up N.sM (by omega), sB, fun h hh q hq => ?_, fun q hq => ?_, b2 N.eb, fun h hh => ?_, by unfold scaleL; rw [List.length_map]; exact N.dl, N.nl, by rw [List.length_map]; exact N.kl⟩
  · obtain ⟨g, hg, rfl⟩ := List.mem_map.mp hh
    rcases List.mem_append.mp hq with z | z
    · obtain ⟨w, hw, rfl⟩ := List.mem_map.mp z
      exact b1 (N.hb g hg w (mem_a hw))
    · rcases List.mem_cons.mp z with rfl | z
      · exact b1 (N.hb g hg _ (mem_b g))
      · rw [List.mem_singleton.mp z]; exact b1 (N.hb g hg _ (mem_c g))
  · obtain ⟨w, hw, rfl⟩ := List.mem_map.mp hq
    exact b2 (N.db w hw)
  · obtain ⟨g, hg, rfl⟩ := List.mem_map.mp hh
    show (scaleL _ g.1).length = n
    unfold scaleL
    rw [List.length_map]; exact N.hl g hg
theorem ans_bd (N : NetOk M B m n hs d e) (hm : m ≤ 300) (hM' : 0 < M') (sM' : M' < 2 ^ m) (sX : X < 2 ^ m) (hx : ∀ q ∈ x, Bq M' X q) (hl : n ≤ x.length) : Bd (ansQ hs d e x) := by
  have AB := ansB (n := n) (len := hs.length) N.sM N.sB sM' sX N.nl N.kl
  have h := (ans_bq N hM' hx hl hs.length).bd AB.c1 AB.c3 (by omega)
  have ef : ansTo hs d e x hs.length = ansQ hs d e x := by unfold ansTo ansQ; rw [List.take_length]
  rwa [ef] at h
end
noncomputable abbrev LB : Def := b_law (f__law_same 7) f__law_bounds f_inner_bounds f__law_box f__law_answer f__law_times f__law_draw_row f_as_whole f__law_whole f__law_net f__law_pick f__law_draw f__law_bag
theorem ne_self {q : D} {S : Store} (h : flat q = true) : cmpop .ne q q S = some false := by
  have hf : q.free = true := by unfold flat at h; exact (Bool.and_eq_true_iff.mp h).1
  show (eqv q q S).map _ = _
  rw [eqv_flat h h, eqD_self q hf]; rfl
section
variable {l lg lc : Nat} {d : D}
/-- the inner loop: two inputs -/
theorem law_inner {M n : Nat} {hs : List Hg} {dd : List Rat} {e : Rat} (N : NetOk M (5 * 2 ^ 6) 70 n hs dd e) (o2 o7 o8 o9 : Option D) {S : Store} {k : Nat} (hn : n ≤ 4) (B : Bag (k + 100) l lg lc S) :
    ∃ o7' o8' S', denS ((LB.body.nth 1).bd.nth 5) [some d, some (.loc l), o2, some (.int n), some (netD n hs dd e), some (wholeD n hs dd e), some (wholeD n hs dd e), o7, o8, o9] S = some (.next, [some d, some (.loc l), o2, some (.int n), some (netD n hs dd e), some (wholeD n hs dd e), some (wholeD n hs dd e), o7', o8', o9], S') ∧ Bag k l lg lc S' := by
  have hr : rngOf [.int 2] = some ⟨(List.range 2).map fun (i : Nat) => D.int (i : Int), []⟩ := rng_at (n := 2) (by decide)
  generalize hits : ((List.range 2).map fun (i : Nat) => D.int (i : Int)) = its at hr
  have hil : its.length = 2 := by rw [← hits, List.length_map, List.length_range]
  obtain ⟨env', S', e1, p7, p8, rfl, B'⟩ := for_inv (ok := Walk.ok ⟨its, []⟩) (t := .nm 7) (body := fun env st => denSs ((LB.body.nth 1).bd.nth 5).bd env st)
    (fun i env S => ∃ o7 o8, env = [some d, some (.loc l), o2, some (.int n), some (netD n hs dd e), some (wholeD n hs dd e), some (wholeD n hs dd e), o7, o8, o9] ∧ Bag (k + 30 * (2 - i)) l lg lc S) (items := its)
    (env := [some d, some (.loc l), o2, some (.int n), some (netD n hs dd e), some (wholeD n hs dd e), some (wholeD n hs dd e), o7, o8, o9]) (st := S) ⟨_, _, rfl, B.less (by omega)⟩
    (fun i ddd env S hd' hI => by
      rw [← hits] at hd'
      obtain ⟨hi, rfl⟩ := range_at hd'
      obtain ⟨o7, o8, rfl, B⟩ := hI
      have lS := B.lts
      obtain ⟨x, S1, d1, hx, hq, B1, X1⟩ := draw_row_ok (r := k + 30 * (2 - (i + 1))) (n := n) (s := 5) (p := S.length) (M := 2) (bl := [1, 2]) ((B.app [Cell.lst [.int 1, .int 2]]).less (by omega)) (at_last _ _) (by omega) (by omega) (by simp [-Option.some.injEq, -Prod.mk.injEq]) (by show 2 < 2 ^ 100; decide) (by decide) (fun z hz => by
        simp only [List.mem_cons, List.not_mem_nil, or_false] at hz
        rcases hz with rfl | rfl
        · exact ⟨by decide, by decide, (sm_of (k := 2) (by decide) (by decide)).up (by decide)⟩
        · exact ⟨by decide, by decide, (sm_of (k := 2) (by decide) (by decide)).up (by decide)⟩) (by decide) (by omega)
      have s2 : (2 : Nat) < 2 ^ 70 := Nat.lt_of_lt_of_le (show 2 < 2 ^ 3 by decide) (Nat.pow_le_pow_right (by decide) (by decide))
      have s5 : (5 : Nat) < 2 ^ 70 := Nat.lt_of_lt_of_le (show 5 < 2 ^ 3 by decide) (Nat.pow_le_pow_right (by decide) (by decide))
      have N2 := N.scaled (k := 210) (by decide)
      have a1 := answer_ok N2 (by decide) (by decide) (pow_up s2 (by decide)) (pow_up s5 (by decide)) hq (by omega) S1
      have a2 := answer_ok N (by decide) (by decide) s2 s5 hq (by omega) S1
      have a3 := law_times_ok ((timesQ hs * timesQ hs : Nat) : Rat) (ansQ hs dd e x) S1 (N.bs (by decide)) (ans_bd N (by decide) (by decide) s2 s5 hq (by omega))
      have hT0 : (0 : Rat) < ((timesQ hs : Nat) : Rat) := by
        have : 0 < timesQ hs := Nat.pos_of_dvd_of_pos N.times_dvd N.pos
        exact (num_pos _).mp (by rw [Rat.num_natCast]; omega)
      have es := ansQ_scale ((timesQ hs : Nat) : Rat) hT0 hs dd e x
      have ec : ((timesQ hs * timesQ hs : Nat) : Rat) = ((timesQ hs : Nat) : Rat) * ((timesQ hs : Nat) : Rat) := by rw [Rat.natCast_mul]
      rw [ec] at a1 a3
      rw [es] at a1
      rw [← ec, fr_nat] at a3
      have mT : mulOk ((timesQ hs : Nat) : Int) ((timesQ hs : Nat) : Int) = true := by
        have h : Sm 70 ((timesQ hs : Nat) : Int) := by unfold Sm; rw [Int.natAbs_natCast]; exact N.times_lt
        exact mulOk_of h h (by decide)
      have eT : ((timesQ hs : Nat) : Int) * ((timesQ hs : Nat) : Int) = ((timesQ hs * timesQ hs : Nat) : Int) := by simp [-Option.some.injEq, -Prod.mk.injEq]
      have iw1 : index (wholeD n hs dd e) (.int 1) S1 = some (netD n (hs.map (scaleH (timesQ hs : Nat))) (scaleL ((timesQ hs * timesQ hs : Nat) : Rat) dd) (((timesQ hs * timesQ hs : Nat) : Rat) * e)) := rfl
      have iw0 : index (wholeD n hs dd e) (.int 0) S1 = some (.int (timesQ hs : Nat)) := rfl
      have bm : binop .mul (.int (timesQ hs : Nat)) (.int (timesQ hs : Nat)) S1 = some (.int (timesQ hs * timesQ hs : Nat), S1) := by
        show (if mulOk _ _ = true then some (D.int (((timesQ hs : Nat) : Int) * ((timesQ hs : Nat) : Int)), S1) else none) = _
        rw [if_pos mT, eT]
      rw [← ec] at a1
      generalize hE : ([some d, some (.loc l), o2, some (.int n), some (netD n hs dd e), some (wholeD n hs dd e), some (wholeD n hs dd e), some (.int i), some (row x), o9] : Env) = env2
      have g1 : env2[8]? = some (some (row x)) := by rw [← hE]; rfl
      have g6 : env2[6]? = some (some (wholeD n hs dd e)) := by rw [← hE]; rfl
      have g5 : env2[5]? = some (some (wholeD n hs dd e)) := by rw [← hE]; rfl
      have g4 : env2[4]? = some (some (netD n hs dd e)) := by rw [← hE]; rfl
      have left : denE (.call "_law_answer" f__law_answer (.cons (.idx (.var 6) (.lit (.int 1))) (.cons (.var 8) .nil))) env2 S1 = _ := e_call (es_cons (e_ix (e_var g6) e_lit iw1) (es_cons (e_var g1) es_nil)) a1
      have right : denE (.call "_law_times" f__law_times (.cons (.tup (.cons (.bin .mul (.idx (.var 5) (.lit (.int 0))) (.idx (.var 5) (.lit (.int 0)))) (.cons (.lit (.int 1)) .nil))) (.cons (.call "_law_answer" f__law_answer (.cons (.var 4) (.cons (.var 8) .nil))) .nil))) env2 S1 = _ :=
        e_call (es_cons (e_tupL (es_cons (e_bin (e_ix (e_var g5) e_lit iw0) (e_ix (e_var g5) e_lit iw0) bm) (es_cons e_lit es_nil)) (by show 2 ≤ SZ; decide)) (es_cons (e_call (es_cons (e_var g4) (es_cons (e_var g1) es_nil)) a2) es_nil)) a3
      refine ⟨rfl, [some d, some (.loc l), o2, some (.int n), some (netD n hs dd e), some (wholeD n hs dd e), some (wholeD n hs dd e), some (.int i), o8, o9], env2, S1, rfl, ?_, ⟨_, _, hE.symm, B1⟩⟩
      refine ss_next (env' := env2) (st' := S1) ?_ (ss_next (env' := env2) (st' := S1) (s_iteF (t_cmp left right ?_) ss_nil) ss_nil)
      · rw [← hE]
        exact s_setM (i := 8) (e_call (es_cons (e_var rfl) (es_cons (e_var rfl) (es_cons e_lit (es_cons (e_lstL (es_cons e_lit (es_cons e_lit es_nil)) (by show 2 ≤ SZ; decide)) es_nil)))) d1) (by show 8 < 10; decide)
      · rw [ec]
        exact ne_self (flat_fr _))
    (fun _ _ _ => rfl)
  refine ⟨p7, p8, S', s_for (w := ⟨its, []⟩) (s_rng (es_cons e_lit es_nil) hr) e1, B'.less (by omega)⟩
end
end Law
end
section
set_option Elab.async false
set_option linter.all false
set_option maxRecDepth 100000
set_option autoImplicit false
set_option exponentiation.threshold 20000
namespace Law
open Calc

theorem bel {M : Nat} {bl : List Int} (h0 : bl ≠ []) (h1 : bl.length < 10) (hM : 0 < M) (h2 : M < 2 ^ 50) (h3 : ∀ z ∈ bl, 0 < z ∧ z.natAbs ∣ M) : Bel M bl :=
  ⟨h0, Nat.lt_of_lt_of_le h1 (Nat.le_trans (show 10 ≤ 2 ^ 4 by decide) (Nat.pow_le_pow_right (by decide) (by decide))), hM, h2, fun z hz => ⟨(h3 z hz).1, (h3 z hz).2, by
    unfold Sm
    exact Nat.lt_of_le_of_lt (Nat.le_of_dvd hM (h3 z hz).2) (pow_up h2 (by decide))⟩⟩
/-- the lists that belows are picked from, at Z.. -/
theorem belows_ok {S : Store} {l lg lc k : Nat} (B : Bag (k + 1) l lg lc S) : ∃ p S' M bl,
    (∀ env : Env, env[1]? = some (some (.loc l)) → denE (.call "_law_pick" f__law_pick (.cons (.var 1) (.cons (.lst (.cons (.lst (.cons (.lit (.int 1)) .nil)) (.cons (.lst (.cons (.lit (.int 1)) (.cons (.lit (.int 2)) .nil))) (.cons (.lst (.cons (.lit (.int 2)) (.cons (.lit (.int 3)) (.cons (.lit (.int 4)) .nil)))) (.cons (.lst (.cons (.lit (.int 6)) (.cons (.lit (.int 10)) (.cons (.lit (.int 15)) .nil)))) (.cons (.lst (.cons (.lit (.int 1)) (.cons (.lit (.int 99991)) (.cons (.lit (.int 7)) .nil)))) .nil)))))) .nil))) env S = some (.loc p, S')) ∧
    Bel M bl ∧ S'[p]? = some (.lst (bl.map D.int)) ∧ p ≠ l ∧ p ≠ lg ∧ Bag k l lg lc S' := by
  have lS := B.lts
  have z1 : (1 : Nat) ≤ SZ := by decide
  have z2 : (2 : Nat) ≤ SZ := by decide
  have z3 : (3 : Nat) ≤ SZ := by decide
  have z5 : (5 : Nat) ≤ SZ := by decide
  -- the store with all lists
  generalize hS1 : S ++ [Cell.lst [.int 1]] = S1
  generalize hS2 : S1 ++ [Cell.lst [.int 1, .int 2]] = S2
  generalize hS3 : S2 ++ [Cell.lst [.int 2, .int 3, .int 4]] = S3
  generalize hS4 : S3 ++ [Cell.lst [.int 6, .int 10, .int 15]] = S4
  generalize hS5 : S4 ++ [Cell.lst [.int 1, .int 99991, .int 7]] = S5
  have n1 : S1.length = S.length + 1 := by rw [← hS1, List.length_append]; rfl
  have n2 : S2.length = S.length + 2 := by rw [← hS2, List.length_append, n1]; rfl
  have n3 : S3.length = S.length + 3 := by rw [← hS3, List.length_append, n2]; rfl
  have n4 : S4.length = S.length + 4 := by rw [← hS4, List.length_append, n3]; rfl
  have n5 : S5.length = S.length + 5 := by rw [← hS5, List.length_append, n4]; rfl
  have B5 : Bag (k + 1) l lg lc S5 := by rw [← hS5, ← hS4, ← hS3, ← hS2, ← hS1]; exact ((((B.app _).app _).app _).app _).app _
  have up : ∀ {A A' : Store} {j : Nat} {c x : Cell}, A ++ [x] = A' → A[j]? = some c → A'[j]? = some c := fun {A A' j c x} h e => by
    rw [← h, List.getElem?_append_left (List.getElem?_eq_some_iff.mp e).1]; exact e
  have g1 : S5[S.length]? = some (.lst [.int 1]) := up hS5 (up hS4 (up hS3 (up hS2 (by rw [← hS1]; exact at_last _ _))))
  have g2 : S5[S1.length]? = some (.lst [.int 1, .int 2]) := up hS5 (up hS4 (up hS3 (by rw [← hS2]; exact at_last _ _)))
  have g3 : S5[S2.length]? = some (.lst [.int 2, .int 3, .int 4]) := up hS5 (up hS4 (by rw [← hS3]; exact at_last _ _))
  have g4 : S5[S3.length]? = some (.lst [.int 6, .int 10, .int 15]) := up hS5 (by rw [← hS4]; exact at_last _ _)
  have g5 : S5[S4.length]? = some (.lst [.int 1, .int 99991, .int 7]) := by rw [← hS5]; exact at_last _ _
  obtain ⟨x, S', d1, hx, B', X⟩ := pick_ok (r := k) (p := S5.length) (xs := [.loc S.length, .loc S1.length, .loc S2.length, .loc S3.length, .loc S4.length]) ((B5.app [Cell.lst [.loc S.length, .loc S1.length, .loc S2.length, .loc S3.length, .loc S4.length]]).less (by omega)) (at_last _ _) (by omega) (by omega) (by simp [-Option.some.injEq, -Prod.mk.injEq]) (by show 5 < 2 ^ 100; decide)
  have hS1' : S ++ [Cell.lst [.int 1]] = S1 := hS1
  have run : ∀ env : Env, env[1]? = some (some (.loc l)) → denE (.call "_law_pick" f__law_pick (.cons (.var 1) (.cons (.lst (.cons (.lst (.cons (.lit (.int 1)) .nil)) (.cons (.lst (.cons (.lit (.int 1)) (.cons (.lit (.int 2)) .nil))) (.cons (.lst (.cons (.lit (.int 2)) (.cons (.lit (.int 3)) (.cons (.lit (.int 4)) .nil)))) (.cons (.lst (.cons (.lit (.int 6)) (.cons (.lit (.int 10)) (.cons (.lit (.int 15)) .nil)))) (.cons (.lst (.cons (.lit (.int 1)) (.cons (.lit (.int 99991)) (.cons (.lit (.int 7)) .nil)))) .nil)))))) .nil))) env S = some (x, S') := fun env he => by
    have q1 := e_lstL (env := env) (st := S) (es_cons (e_lit (d := .int 1)) es_nil) z1
    rw [hS1] at q1
    have q2 := e_lstL (env := env) (st := S1) (es_cons (e_lit (d := .int 1)) (es_cons (e_lit (d := .int 2)) es_nil)) z2
    rw [hS2] at q2
    have q3 := e_lstL (env := env) (st := S2) (es_cons (e_lit (d := .int 2)) (es_cons (e_lit (d := .int 3)) (es_cons (e_lit (d := .int 4)) es_nil))) z3
    rw [hS3] at q3
    have q4 := e_lstL (env := env) (st := S3) (es_cons (e_lit (d := .int 6)) (es_cons (e_lit (d := .int 10)) (es_cons (e_lit (d := .int 15)) es_nil))) z3
    rw [hS4] at q4
    have q5 := e_lstL (env := env) (st := S4) (es_cons (e_lit (d := .int 1)) (es_cons (e_lit (d := .int 99991)) (es_cons (e_lit (d := .int 7)) es_nil))) z3
    rw [hS5] at q5
    exact e_call (es_cons (e_var he) (es_cons (e_lstL (es_cons q1 (es_cons q2 (es_cons q3 (es_cons q4 (es_cons q5 es_nil))))) z5) es_nil)) d1
  have fin : ∀ {j : Nat} {M : Nat} {bl : List Int}, x = .loc j → S5[j]? = some (.lst (bl.map D.int)) → S.length ≤ j → Bel M bl → ∃ p S' M bl, (∀ env : Env, env[1]? = some (some (.loc l)) → denE (.call "_law_pick" f__law_pick (.cons (.var 1) (.cons (.lst (.cons (.lst (.cons (.lit (.int 1)) .nil)) (.cons (.lst (.cons (.lit (.int 1)) (.cons (.lit (.int 2)) .nil))) (.cons (.lst (.cons (.lit (.int 2)) (.cons (.lit (.int 3)) (.cons (.lit (.int 4)) .nil)))) (.cons (.lst (.cons (.lit (.int 6)) (.cons (.lit (.int 10)) (.cons (.lit (.int 15)) .nil)))) (.cons (.lst (.cons (.lit (.int 1)) (.cons (.lit (.int 99991)) (.cons (.lit (.int 7)) .nil)))) .nil)))))) .nil))) env S = some (.loc p, S')) ∧ Bel M bl ∧ S'[p]? = some (.lst (bl.map D.int)) ∧ p ≠ l ∧ p ≠ lg ∧ Bag k l lg lc S' := fun {j M bl} hj hg hle hb => by
    subst hj
    exact ⟨j, S', M, bl, run, hb, X.lst (by rw [List.getElem?_append_left (List.getElem?_eq_some_iff.mp hg).1]; exact hg) (by omega) (by omega), by omega, by omega, B'⟩
  simp only [List.mem_cons, List.not_mem_nil, or_false] at hx
  rcases hx with h | h | h | h | h
  · exact fin (M := 1) (bl := [1]) h g1 (by omega) (bel (by simp [-Option.some.injEq, -Prod.mk.injEq]) (by decide) (by decide) (by decide) (by decide))
  · exact fin (M := 2) (bl := [1, 2]) h g2 (by omega) (bel (by simp [-Option.some.injEq, -Prod.mk.injEq]) (by decide) (by decide) (by decide) (by decide))
  · exact fin (M := 12) (bl := [2, 3, 4]) h g3 (by omega) (bel (by simp [-Option.some.injEq, -Prod.mk.injEq]) (by decide) (by decide) (by decide) (by decide))
  · exact fin (M := 30) (bl := [6, 10, 15]) h g4 (by omega) (bel (by simp [-Option.some.injEq, -Prod.mk.injEq]) (by decide) (by decide) (by decide) (by decide))
  · exact fin (M := 699937) (bl := [1, 99991, 7]) h g5 (by omega) (bel (by simp [-Option.some.injEq, -Prod.mk.injEq]) (by decide) (by decide) (by decide) (by decide))
theorem pl_up : ∀ (k : Nat) (d : D), pl k d → pl (k + 1) d
  | 0, _, h => h.elim
  | _ + 1, .int _, _ => trivial
  | k + 1, .tup xs, h => ⟨fun x hx => pl_up k x (h.1 x hx), h.2⟩
theorem e_iteGt {A B : E} {env : Env} {st st' : Store} {i : Int} {d : D} (hi : env[2]? = some (some (.int i))) (ha : denE A env st = some (d, st')) (hb : denE B env st = some (d, st')) : denE (.ite (.cmp .gt (.var 2) (.lit (.int 0))) A B) env st = some (d, st') := by
  refine e_ite (k := decide (i > 0)) (t_cmp (e_var hi) e_lit rfl) ?_
  split
  · exact ha
  · exact hb
section
variable {l lg lc : Nat} {d : D}
theorem law_iter (o3 o4 o5 o6 o7 o8 o9 : Option D) {S : Store} {k : Nat} (i : Nat) (B : Bag (k + 1000) l lg lc S) :
    ∃ p3 p4 p5 p6 p7 p8 p9 S', denSs (LB.body.nth 1).bd [some d, some (.loc l), some (.int i), o3, o4, o5, o6, o7, o8, o9] S = some (.next, [some d, some (.loc l), some (.int i), p3, p4, p5, p6, p7, p8, p9], S') ∧ Bag k l lg lc S' := by
  obtain ⟨v, S1, d1, hv0, hv1, B1, X1⟩ := draw_ok (r := k + 900) (B.less (by omega)) (many := 4) (by decide) ((sm_of (k := 3) (by decide) (by decide)).up (by decide))
  obtain ⟨n, hn, hn4⟩ : ∃ n : Nat, (1 : Int) + v = n ∧ n ≤ 4 := ⟨(1 + v).toNat, by omega, by omega⟩
  obtain ⟨p, S2, M, bl, d2, Be, hp, hp1, hp2, B2⟩ := belows_ok (k := k + 800) (B1.less (by omega))
  obtain ⟨hs, dd, e, S3, d3, N, B3, X3⟩ := net_ok (r := k + 400) (n := n) (s := 5) (B2.less (by omega)) hp hp1 hp2 Be (by decide) (by omega)
  have w1 := law_whole_ok N (by decide) S3
  have w2 := as_whole_ok N (by decide) S3
  have w3 := same_ok 7 (wholeD n hs dd e) S3 (pl_whole N)
  obtain ⟨p7, p8, S4, d4, B4⟩ := law_inner (k := k + 100) (d := d) N (some (.int i)) o7 o8 o9 hn4 (B3.less (by omega))
  obtain ⟨bx, S5, d5, Bx, B5, X5⟩ := box_ok (r := k) (n := n) (B4.less (by omega)) (by omega)
  have u1 := law_bounds_ok N (by decide) Bx S5
  have u2 := inner_bounds_ok N (by decide) Bx S5
  have u3 := same_ok 7 (.tup (hs.map (bdQ bx))) S5 (pl_up 6 _ (pl_bds (by have := N.kl; omega)))
  have ba : binop .add (.int 1) (.int v) S1 = some (.int n, S1) := by
    show some (D.int (1 + v), S1) = _
    rw [hn]
  refine ⟨some (.int n), some (netD n hs dd e), some (wholeD n hs dd e), some (wholeD n hs dd e), p7, p8, some (boxD bx), S5, ?_, B5⟩
  refine ss_next (s_setM (i := 3) (e_bin e_lit (e_call (es_cons (e_var rfl) (es_cons e_lit es_nil)) d1) ba) (by show 3 < 10; decide)) ?_
  refine ss_next (s_setM (i := 4) (e_call (es_cons (e_var rfl) (es_cons (e_var rfl) (es_cons e_lit (es_cons e_lit (es_cons (d2 _ rfl) es_nil))))) d3) (by show 4 < 10; decide)) ?_
  refine ss_next (s_setM (i := 5) (e_call (es_cons (e_var rfl) es_nil) w1) (by show 5 < 10; decide)) ?_
  refine ss_next (s_setM (i := 6) (e_iteGt (i := i) rfl (e_call (es_cons (e_var rfl) es_nil) w2) (e_callK es_nil (es_cons (e_var rfl) es_nil) w2)) (by show 6 < 10; decide)) ?_
  refine ss_next (s_iteF (t_not (t_call (e_call (es_cons (e_var rfl) (es_cons (e_var rfl) es_nil)) w3))) ss_nil) ?_
  refine ss_next d4 ?_
  refine ss_next (s_setM (i := 9) (e_call (es_cons (e_var rfl) (es_cons (e_var rfl) es_nil)) d5) (by show 9 < 10; decide)) ?_
  refine ss_next (s_iteF (t_not (t_call (e_call (es_cons (e_iteGt (i := i) rfl (e_call (es_cons (e_var rfl) (es_cons (e_var rfl) es_nil)) u2) (e_callK es_nil (es_cons (e_var rfl) (es_cons (e_var rfl) es_nil)) u2)) (es_cons (e_call (es_cons (e_var rfl) (es_cons (e_var rfl) es_nil)) u1) es_nil)) u3))) ss_nil) ?_
  exact ss_nil
end
end Law
end
section
set_option Elab.async false
set_option linter.all false
set_option maxRecDepth 100000
set_option autoImplicit false
set_option exponentiation.threshold 20000
namespace Law
open Calc
theorem den_ret {df : Def} {args : List D} {env0 env' : Env} {st st' : Store} {c : Bool} (hl : args.length = df.np) (he : args.map some ++ List.replicate (df.ns - df.np) none = env0) (h : denSs df.body env0 st = some (.ret (.bl c), env', st')) : ∃ st2, denDef df args st = some (.bl c, st2) := by
  subst he
  unfold denDef
  rw [if_pos hl, h]
  show ∃ st2, some (gc st (.bl c) st') = _
  unfold gc
  split <;> exact ⟨_, rfl⟩
theorem law_main (d : D) (st : Store) {l lg lc : Nat} {S : Store} (d1 : f__law_bag [d] st = some (.loc l, S)) (B : Bag 900000 l lg lc S) : ∃ st', f_law [d] st = some (.bl true, st') := by
  have hr : rngOf [.int 4] = some ⟨(List.range 4).map fun (i : Nat) => D.int (i : Int), []⟩ := rng_at (n := 4) (by decide)
  generalize hits : ((List.range 4).map fun (i : Nat) => D.int (i : Int)) = its at hr
  have hil : its.length = 4 := by rw [← hits, List.length_map, List.length_range]
  obtain ⟨env', S', e1, _⟩ := for_inv (ok := Walk.ok ⟨its, []⟩) (t := .nm 2) (body := fun env st => denSs (LB.body.nth 1).bd env st)
    (fun i env S => ∃ o2 o3 o4 o5 o6 o7 o8 o9, env = [some d, some (.loc l), o2, o3, o4, o5, o6, o7, o8, o9] ∧ Bag (1000 * (4 - i)) l lg lc S) (items := its)
    (env := [some d, some (.loc l), none, none, none, none, none, none, none, none]) (st := S) ⟨_, _, _, _, _, _, _, _, rfl, B.less (by omega)⟩
    (fun i ddd env S hd' hI => by
      rw [← hits] at hd'
      obtain ⟨hi, rfl⟩ := range_at hd'
      obtain ⟨o2, o3, o4, o5, o6, o7, o8, o9, rfl, B⟩ := hI
      obtain ⟨p3, p4, p5, p6, p7, p8, p9, S2, e2, B2⟩ := law_iter (d := d) o3 o4 o5 o6 o7 o8 o9 (k := 1000 * (4 - (i + 1))) i (B.less (by omega))
      exact ⟨rfl, _, _, S2, rfl, e2, ⟨_, _, _, _, _, _, _, _, rfl, B2⟩⟩)
    (fun _ _ _ => rfl)
  exact den_ret (df := LB) (env0 := [some d, none, none, none, none, none, none, none, none, none]) rfl rfl
    (ss_next (s_setM (i := 1) (e_call (es_cons (e_var rfl) es_nil) d1) (by show 1 < 10; decide)) (ss_next (s_for (w := ⟨its, []⟩) (s_rng (es_cons e_lit es_nil) hr) e1) (ss_ret (s_ret e_lit))))
theorem law_den0 (ns : List Int) (h : ns.length ≤ 63) : (∃ st', f_law [.rol (ns.map D.int)] [] = some (.bl true, st')) ∧ ∃ st', f_law [.loc 0] [.lst (ns.map D.int)] = some (.bl true, st') := by
  constructor
  · obtain ⟨l, lg, lc, S, e, B⟩ := bag_ok ns (by omega) (.rol (ns.map D.int)) [] [] rfl rfl
    exact law_main _ _ e B
  · obtain ⟨l, lg, lc, S, e, B⟩ := bag_ok ns (by omega) (.loc 0) [.lst (ns.map D.int)] [(0, ns.map D.int)] rfl (by simp [-Option.some.injEq, -Prod.mk.injEq, Walk.ok])
    exact law_main _ _ e B
end Law
end
section
set_option Elab.async false
set_option linter.all false
set_option maxRecDepth 100000
set_option autoImplicit false
/-! how the data lie in the abstract heap -/
namespace Calc
open PySem PySem.Spec PyProof.Rows L2

/-- a list that nobody writes -/
def RoL (K : PySem.W.Frag) (H : Hp) (a : Addr) (xs : List V) : Prop :=
  (∃ o, H a = some (.frz o (.lst xs))) ∨
    ∃ (o : Obj) (its : Array Value) (n : Nat), K.lookup a = some o ∧ o.cls = .type "list" ∧ o.dict = none ∧ o.data = .seq its n ∧ its.size ≤ sizeLine ∧ Vals xs its.toList
theorem RoL.sql {K : PySem.W.Frag} {H : Hp} {a : Addr} {xs : List V} : RoL K H a xs → SqL K H a xs
  | .inl ⟨o, h⟩ => .inl (.inr ⟨o, h⟩)
  | .inr h => .inr h

section
variable (K : PySem.W.Frag) (μ : List Addr) (H : Hp)
mutual
inductive RelD : D → V → Prop
  | non : RelD .non .non
  | bl (b : Bool) : RelD (.bl b) (.bl b)
  | int (i : Int) : RelD (.int i) (.int i)
  | str (x : Str) : RelD (.str x) (.str x)
  | tup {a : Addr} {xs : List D} {vs : List V} : SqT K H a vs → RelDs xs vs → RelD (.tup xs) (.ref a)
  | rol {a : Addr} {xs : List D} {vs : List V} : RoL K H a vs → RelDs xs vs → RelD (.rol xs) (.ref a)
  | loc {l : Nat} {a : Addr} : μ[l]? = some a → RelD (.loc l) (.ref a)
inductive RelDs : List D → List V → Prop
  | nil : RelDs [] []
  | cons {x : D} {v : V} {xs : List D} {vs : List V} : RelD x v → RelDs xs vs → RelDs (x :: xs) (v :: vs)
end
def CellR : Cell → HO → Prop
  | .lst xs, o => ∃ vs, o = .lst vs ∧ RelDs K μ H xs vs
  | .dic _, _ => False
structure StR (st : Store) : Prop where
  len : μ.length = st.length
  nd : μ.Nodup
  at_ : ∀ (l : Nat) (c : Cell), st[l]? = some c → ∃ a o, μ[l]? = some a ∧ H a = some o ∧ CellR K μ H c o
structure EnvR (env : Env) (σ : L2.St) : Prop where
  len : env.length = σ.length
  at_ : ∀ (i : Nat) d, env[i]? = some (some d) → ∃ v, σ[i]? = some (some v) ∧ RelD K μ H d v
end
def TabsR (Tb : List Addr) (H : Hp) : Prop := ∀ P ∈ Tb, GxR.TabG H P
def noTbl (o : HO) : Prop := ∀ ps, o ≠ .tbl ps
structure Post (Tb : List Addr) (μ : List Addr) (H : Hp) (μ' : List Addr) (H' : Hp) : Prop where
  pre : μ <+: μ'
  ext : ∀ b o, H b = some o → b ∉ μ → noTbl o → H' b = some o
  new : ∀ a ∈ μ', a ∈ μ ∨ H a = none
  tab : TabsR Tb H'
  there : ∀ b, H' b = none → H b = none

section
variable {K : PySem.W.Frag} {Tb μ μ' μ1 μ2 : List Addr} {H H' H1 H2 : Hp} {st : Store} {env : Env} {σ : L2.St}

theorem RelDs.length : ∀ {xs : List D} {vs : List V}, RelDs K μ H xs vs → xs.length = vs.length
  | _, _, .nil => rfl
  | _, _, .cons _ t => by rw [List.length_cons, List.length_cons, t.length]
theorem RelDs.get : ∀ {xs : List D} {vs : List V} {i : Nat} {x : D}, RelDs K μ H xs vs → xs[i]? = some x → ∃ v, vs[i]? = some v ∧ RelD K μ H x v
  | _, _, _, _, .nil, e => by simp at e
  | _, _, 0, _, .cons r _, e => by simp at e; subst e; exact ⟨_, rfl, r⟩
  | _, _, i + 1, x, .cons _ t, e => by
    obtain ⟨u, h1, h2⟩ := t.get (i := i) (x := x) (by simpa using e)
    exact ⟨u, by simpa using h1, h2⟩
theorem RelDs.getV : ∀ {xs : List D} {vs : List V} {i : Nat} {v : V}, RelDs K μ H xs vs → vs[i]? = some v → ∃ x, xs[i]? = some x ∧ RelD K μ H x v
  | _, _, _, _, .nil, e => by simp at e
  | _, _, 0, _, .cons r _, e => by simp at e; subst e; exact ⟨_, rfl, r⟩
  | _, _, i + 1, x, .cons _ t, e => by
    obtain ⟨u, h1, h2⟩ := t.getV (i := i) (v := x) (by simpa using e)
    exact ⟨u, by simpa using h1, h2⟩
theorem RelDs.append : ∀ {xs ys : List D} {vs ws : List V}, RelDs K μ H xs vs → RelDs K μ H ys ws → RelDs K μ H (xs ++ ys) (vs ++ ws)
  | _, _, _, _, .nil, s => s
  | _, _, _, _, .cons r t, s => .cons r (t.append s)
theorem RelDs.take : ∀ {xs : List D} {vs : List V} (n : Nat), RelDs K μ H xs vs → RelDs K μ H (xs.take n) (vs.take n)
  | _, _, 0, _ => .nil
  | _, _, _ + 1, .nil => .nil
  | _, _, n + 1, .cons r t => .cons r (t.take n)
theorem RelDs.drop : ∀ {xs : List D} {vs : List V} (n : Nat), RelDs K μ H xs vs → RelDs K μ H (xs.drop n) (vs.drop n)
  | _, _, 0, r => r
  | _, _, _ + 1, .nil => .nil
  | _, _, n + 1, .cons _ t => t.drop n
theorem RelDs.set {x : D} {v : V} (r : RelD K μ H x v) : ∀ {xs : List D} {vs : List V} (n : Nat), RelDs K μ H xs vs → RelDs K μ H (xs.set n x) (vs.set n v)
  | _, _, _, .nil => .nil
  | _, _, 0, .cons _ t => .cons r t
  | _, _, n + 1, .cons q t => .cons q (t.set r n)
theorem RelDs.eraseIdx : ∀ {xs : List D} {vs : List V} (n : Nat), RelDs K μ H xs vs → RelDs K μ H (xs.eraseIdx n) (vs.eraseIdx n)
  | _, _, _, .nil => .nil
  | _, _, 0, .cons _ t => t
  | _, _, n + 1, .cons q t => .cons q (t.eraseIdx n)
theorem RelDs.dropLast : ∀ {xs : List D} {vs : List V}, RelDs K μ H xs vs → RelDs K μ H xs.dropLast vs.dropLast
  | _, _, .nil => .nil
  | _, _, .cons _ .nil => .nil
  | _, _, .cons q (.cons r t) => .cons q (RelDs.dropLast (.cons r t))
theorem RelDs.reverse : ∀ {xs : List D} {vs : List V}, RelDs K μ H xs vs → RelDs K μ H xs.reverse vs.reverse
  | _, _, .nil => .nil
  | _, _, .cons q t => by rw [List.reverse_cons, List.reverse_cons]; exact t.reverse.append (.cons q .nil)
theorem RelDs.rep {xs : List D} {vs : List V} (h : RelDs K μ H xs vs) : ∀ k : Nat, RelDs K μ H (List.replicate k xs).flatten (List.replicate k vs).flatten
  | 0 => .nil
  | k + 1 => by rw [List.replicate_succ, List.replicate_succ, List.flatten_cons, List.flatten_cons]; exact h.append (h.rep k)

/-- objects that are written stand in the store alone -/
theorem StR.mem (s : StR K μ H st) {a : Addr} (h : a ∈ μ) : ∃ xs, H a = some (.lst xs) := by
  obtain ⟨l, hl, e⟩ := List.getElem_of_mem h
  obtain ⟨a', o, h1, h2, h3⟩ := s.at_ l (st[l]'(by rw [← s.len]; exact hl)) (List.getElem?_eq_getElem _)
  rw [List.getElem?_eq_getElem hl] at h1
  have e' : a' = a := (Option.some.inj h1).symm.trans e
  subst e'
  generalize (st[l]'(by rw [← s.len]; exact hl)) = c at h3
  cases c with
  | lst xs => obtain ⟨vs, e, _⟩ := h3; subst e; exact ⟨vs, h2⟩
  | dic _ => exact h3.elim
theorem StR.nmem (s : StR K μ H st) {a : Addr} {o : HO} (h : H a = some o) (n : ∀ xs, o ≠ .lst xs) : a ∉ μ := fun hm => by
  obtain ⟨xs, e⟩ := s.mem hm
  rw [h] at e
  exact n xs (Option.some.inj e)

theorem SqT.mono {a : Addr} {vs : List V} (s : StR K μ H st) (p : ∀ b o, H b = some o → b ∉ μ → noTbl o → H' b = some o) (h : SqT K H a vs) : SqT K H' a vs := by
  rcases h with (h | ⟨o, h⟩) | h
  · exact .inl (.inl (p _ _ h (s.nmem h fun _ z => by cases z) fun _ z => by cases z))
  · exact .inl (.inr ⟨o, p _ _ h (s.nmem h fun _ z => by cases z) fun _ z => by cases z⟩)
  · exact .inr h
theorem RoL.mono {a : Addr} {vs : List V} (s : StR K μ H st) (p : ∀ b o, H b = some o → b ∉ μ → noTbl o → H' b = some o) (h : RoL K H a vs) : RoL K H' a vs := by
  rcases h with ⟨o, h⟩ | h
  · exact .inl ⟨o, p _ _ h (s.nmem h fun _ z => by cases z) fun _ z => by cases z⟩
  · exact .inr h
theorem pre_get {l : Nat} {a : Addr} (h : μ <+: μ') (e : μ[l]? = some a) : μ'[l]? = some a := by
  obtain ⟨t, rfl⟩ := h
  rw [List.getElem?_append_left (List.getElem?_eq_some_iff.mp e).1]
  exact e
mutual
theorem RelD.mono (s : StR K μ H st) (q : μ <+: μ') (p : ∀ b o, H b = some o → b ∉ μ → noTbl o → H' b = some o) : ∀ {d : D} {v : V}, RelD K μ H d v → RelD K μ' H' d v
  | _, _, .non => .non
  | _, _, .bl b => .bl b
  | _, _, .int b => .int b
  | _, _, .str b => .str b
  | _, _, .tup h r => .tup (SqT.mono s p h) (RelDs.mono s q p r)
  | _, _, .rol h r => .rol (RoL.mono s p h) (RelDs.mono s q p r)
  | _, _, .loc h => .loc (pre_get q h)
theorem RelDs.mono (s : StR K μ H st) (q : μ <+: μ') (p : ∀ b o, H b = some o → b ∉ μ → noTbl o → H' b = some o) : ∀ {d : List D} {v : List V}, RelDs K μ H d v → RelDs K μ' H' d v
  | _, _, .nil => .nil
  | _, _, .cons a b => .cons (RelD.mono s q p a) (RelDs.mono s q p b)
end
mutual
/-- what no cell holds stays known wherever all but lists stays -/
theorem RelD.monoN : ∀ {d : D} {v : V}, RelD K μ H d v → μ <+: μ' → (∀ b o, H b = some o → (∀ xs, o ≠ .lst xs) → H' b = some o) → RelD K μ' H' d v
  | _, _, .non, _, _ => .non
  | _, _, .bl b, _, _ => .bl b
  | _, _, .int b, _, _ => .int b
  | _, _, .str b, _, _ => .str b
  | _, _, .tup h r, q, p => .tup (by
      rcases h with (h | ⟨o, h⟩) | h
      · exact .inl (.inl (p _ _ h fun _ z => by cases z))
      · exact .inl (.inr ⟨o, p _ _ h fun _ z => by cases z⟩)
      · exact .inr h) (RelDs.monoN r q p)
  | _, _, .rol h r, q, p => .rol (by
      rcases h with ⟨o, h⟩ | h
      · exact .inl ⟨o, p _ _ h fun _ z => by cases z⟩
      · exact .inr h) (RelDs.monoN r q p)
  | _, _, .loc h, q, _ => .loc (pre_get q h)
theorem RelDs.monoN : ∀ {d : List D} {v : List V}, RelDs K μ H d v → μ <+: μ' → (∀ b o, H b = some o → (∀ xs, o ≠ .lst xs) → H' b = some o) → RelDs K μ' H' d v
  | _, _, .nil, _, _ => .nil
  | _, _, .cons a b, q, p => .cons (RelD.monoN a q p) (RelDs.monoN b q p)
end
theorem EnvR.mono (s : StR K μ H st) (q : μ <+: μ') (p : ∀ b o, H b = some o → b ∉ μ → noTbl o → H' b = some o) (e : EnvR K μ H env σ) : EnvR K μ' H' env σ :=
  ⟨e.len, fun i d h => let ⟨v, h1, h2⟩ := e.at_ i d h; ⟨v, h1, h2.mono s q p⟩⟩
theorem Post.refl (t : TabsR Tb H) : Post Tb μ H μ H := ⟨List.prefix_refl _, fun _ _ h _ _ => h, fun _ h => .inl h, t, fun _ h => h⟩
theorem Post.trans (a : Post Tb μ H μ1 H1) (b : Post Tb μ1 H1 μ2 H2) : Post Tb μ H μ2 H2 where
  pre := a.pre.trans b.pre
  ext := fun c o h n t => b.ext c o (a.ext c o h n t) (fun hm => by
    rcases a.new c hm with z | z
    · exact n z
    · rw [h] at z; cases z) t
  new := fun c hc => by
    rcases b.new c hc with z | z
    · exact a.new c z
    · exact .inr (a.there c z)
  tab := b.tab
  there := fun c h => a.there c (b.there c h)
theorem TabsR.upd (t : TabsR Tb H) {p : Addr} {o : HO} (h : H p = none ∨ ∃ xs, H p = some (.lst xs)) : TabsR Tb (upd H p o) := fun P hP => by
  obtain ⟨ps, e, z⟩ := t P hP
  have hne : P ≠ p := fun q => by
    rw [q] at e
    rcases h with h | ⟨xs, h⟩
    · rw [h] at e; cases e
    · rw [h] at e; cases e
  exact ⟨ps, by rw [upd_ne hne]; exact e, z⟩
/-- a new object that is no cell of the store -/
theorem Post.made (t : TabsR Tb H) {p : Addr} {o : HO} (h : H p = none) : Post Tb μ H μ (upd H p o) where
  pre := List.prefix_refl _
  ext := fun b u e _ _ => by rw [upd_ne (ne_of_none e h)]; exact e
  new := fun _ h => .inl h
  tab := t.upd (.inl h)
  there := fun b e => by
    by_cases q : b = p
    · rw [q]; exact h
    · rw [upd_ne q] at e; exact e
/-- a new cell -/
theorem Post.cell (t : TabsR Tb H) {p : Addr} {o : HO} (h : H p = none) : Post Tb μ H (μ ++ [p]) (upd H p o) where
  pre := List.prefix_append _ _
  ext := fun b u e _ _ => by rw [upd_ne (ne_of_none e h)]; exact e
  new := fun a ha => by
    rcases List.mem_append.mp ha with z | z
    · exact .inl z
    · rw [List.mem_singleton.mp z]; exact .inr h
  tab := t.upd (.inl h)
  there := fun b e => by
    by_cases q : b = p
    · rw [q]; exact h
    · rw [upd_ne q] at e; exact e
/-- a cell is written -/
theorem Post.write (s : StR K μ H st) (t : TabsR Tb H) {p : Addr} {o : HO} (h : p ∈ μ) : Post Tb μ H μ (upd H p o) where
  pre := List.prefix_refl _
  ext := fun b u e n _ => by rw [upd_ne (fun q => n (by rw [q]; exact h))]; exact e
  new := fun _ h => .inl h
  tab := t.upd (.inr (s.mem h))
  there := fun b e => by
    by_cases q : b = p
    · rw [q, upd_same] at e; cases e
    · rw [upd_ne q] at e; exact e

theorem CellR.mono {c : Cell} {o : HO} (s : StR K μ H st) (q : μ <+: μ') (p : ∀ b o, H b = some o → b ∉ μ → noTbl o → H' b = some o) (h : CellR K μ H c o) : CellR K μ' H' c o := by
  cases c with
  | lst xs => obtain ⟨vs, e, r⟩ := h; exact ⟨vs, e, r.mono s q p⟩
  | dic _ => exact h.elim
/-- .. the store over it -/
theorem StR.made (s : StR K μ H st) {p : Addr} {o : HO} (h : H p = none) : StR K μ (upd H p o) st :=
  ⟨s.len, s.nd, fun l c e => by
    obtain ⟨a, o', h1, h2, h3⟩ := s.at_ l c e
    exact ⟨a, o', h1, by rw [upd_ne (ne_of_none h2 h)]; exact h2, h3.mono s (List.prefix_refl _) fun b u e _ _ => by rw [upd_ne (ne_of_none e h)]; exact e⟩⟩
theorem StR.cell (s : StR K μ H st) {p : Addr} {xs : List D} {vs : List V} (h : H p = none) (r : RelDs K μ H xs vs) : StR K (μ ++ [p]) (upd H p (.lst vs)) (st ++ [.lst xs]) := by
  have mo : ∀ b o, H b = some o → b ∉ μ → noTbl o → upd H p (.lst vs) b = some o := fun b u e _ _ => by rw [upd_ne (ne_of_none e h)]; exact e
  refine ⟨by rw [List.length_append, List.length_append, s.len]; rfl, ?_, fun l c e => ?_⟩
  · refine List.nodup_append.mpr ⟨s.nd, by simp, fun a ha b hb => ?_⟩
    rw [List.mem_singleton.mp hb]
    obtain ⟨xs, e⟩ := s.mem ha
    exact ne_of_none e h
  · by_cases hl : l < st.length
    · rw [List.getElem?_append_left hl] at e
      obtain ⟨a, o', h1, h2, h3⟩ := s.at_ l c e
      exact ⟨a, o', pre_get (List.prefix_append _ _) h1, by rw [upd_ne (ne_of_none h2 h)]; exact h2, h3.mono s (List.prefix_append _ _) mo⟩
    · have hl2 : l = st.length := by
        have := (List.getElem?_eq_some_iff.mp e).1
        rw [List.length_append, List.length_singleton] at this
        omega
      subst hl2
      rw [List.getElem?_append_right (Nat.le_refl _), Nat.sub_self] at e
      have e' : Cell.lst xs = c := Option.some.inj e
      subst e'
      refine ⟨p, _, ?_, upd_same, vs, rfl, r.mono s (List.prefix_append _ _) mo⟩
      rw [List.getElem?_append_right (by rw [s.len]; exact Nat.le_refl _), s.len, Nat.sub_self]; rfl
theorem StR.write (s : StR K μ H st) {p : Addr} {l : Nat} {xs : List D} {vs : List V} (hp : μ[l]? = some p) (r : RelDs K μ H xs vs) : StR K μ (upd H p (.lst vs)) (st.set l (.lst xs)) := by
  have hm : p ∈ μ := List.mem_of_getElem? hp
  have mo : ∀ b o, H b = some o → b ∉ μ → noTbl o → upd H p (.lst vs) b = some o := fun b u e n _ => by rw [upd_ne (fun q => n (by rw [q]; exact hm))]; exact e
  refine ⟨by rw [List.length_set]; exact s.len, s.nd, fun k c e => ?_⟩
  by_cases hk : l = k
  · subst hk
    have hl : l < st.length := by rw [← s.len]; exact (List.getElem?_eq_some_iff.mp hp).1
    rw [List.getElem?_set_self hl] at e
    have e' : Cell.lst xs = c := Option.some.inj e
    subst e'
    exact ⟨p, _, hp, upd_same, vs, rfl, r.mono s (List.prefix_refl _) mo⟩
  · rw [List.getElem?_set_ne hk] at e
    obtain ⟨a, o', h1, h2, h3⟩ := s.at_ k c e
    refine ⟨a, o', h1, ?_, h3.mono s (List.prefix_refl _) mo⟩
    have hne : a ≠ p := fun q => by
      rw [q] at h1
      obtain ⟨h5, e5⟩ := List.getElem?_eq_some_iff.mp hp
      obtain ⟨h6, e6⟩ := List.getElem?_eq_some_iff.mp h1
      exact hk ((List.getElem_inj s.nd).mp (e5.trans e6.symm))
    rw [upd_ne hne]; exact h2
theorem StR.list (s : StR K μ H st) {l : Nat} {xs : List D} (h : st[l]? = some (.lst xs)) : ∃ a vs, μ[l]? = some a ∧ H a = some (.lst vs) ∧ RelDs K μ H xs vs := by
  obtain ⟨a, o, h1, h2, vs, e, r⟩ := s.at_ l _ h
  subst e
  exact ⟨a, vs, h1, h2, r⟩

/-! ### what is under n -/
mutual
theorem RelD.under : ∀ {d : D} {v : V}, RelD K μ H d v → D.under μ.length d = true
  | _, _, .non => rfl
  | _, _, .bl b => rfl
  | _, _, .int b => rfl
  | _, _, .str b => rfl
  | _, _, .tup h r => by unfold D.under; exact RelDs.under r
  | _, _, .rol h r => by unfold D.under; exact RelDs.under r
  | _, _, .loc h => by unfold D.under; exact decide_eq_true (List.getElem?_eq_some_iff.mp h).1
theorem RelDs.under : ∀ {d : List D} {v : List V}, RelDs K μ H d v → D.unders μ.length d = true
  | _, _, .nil => rfl
  | _, _, .cons a b => by unfold D.unders; rw [RelD.under a, RelDs.under b]; rfl
end
mutual
theorem RelD.back (q : μ <+: μ') : ∀ {d : D} {v : V}, RelD K μ' H d v → D.under μ.length d = true → RelD K μ H d v
  | _, _, .non, _ => .non
  | _, _, .bl b, _ => .bl b
  | _, _, .int b, _ => .int b
  | _, _, .str b, _ => .str b
  | _, _, .tup h r, u => by unfold D.under at u; exact .tup h (RelDs.back q r u)
  | _, _, .rol h r, u => by unfold D.under at u; exact .rol h (RelDs.back q r u)
  | _, _, .loc h, u => by
    unfold D.under at u
    obtain ⟨t, rfl⟩ := q
    rw [List.getElem?_append_left (of_decide_eq_true u)] at h
    exact .loc h
theorem RelDs.back (q : μ <+: μ') : ∀ {d : List D} {v : List V}, RelDs K μ' H d v → D.unders μ.length d = true → RelDs K μ H d v
  | _, _, .nil, _ => .nil
  | _, _, .cons a b, u => by
    unfold D.unders at u
    obtain ⟨u1, u2⟩ := Bool.and_eq_true_iff.mp u
    exact .cons (RelD.back q a u1) (RelDs.back q b u2)
end
theorem gcOk_at : ∀ {st st' : Store} {n l : Nat} {c' : Cell}, gcOk st st' n = true → l < st.length → st'[l]? = some c' → ∃ c, st[l]? = some c ∧ (c' = c ∨ c'.under n = true)
  | [], _, _, _, _, _, h, _ => absurd h (by simp)
  | c :: cs, [], _, _, _, h, _, _ => by cases h
  | c :: cs, c2 :: cs', n, 0, c', h, _, e => by
    have e' : c2 = c' := Option.some.inj e
    subst e'
    unfold gcOk at h
    obtain ⟨h1, h2⟩ := Bool.and_eq_true_iff.mp h
    refine ⟨c, rfl, ?_⟩
    rcases Bool.or_eq_true_iff.mp h1 with z | z
    · exact .inl (of_decide_eq_true z)
    · exact .inr z
  | c :: cs, c2 :: cs', n, l + 1, c', h, hl, e => by
    unfold gcOk at h
    obtain ⟨h1, h2⟩ := Bool.and_eq_true_iff.mp h
    exact gcOk_at (l := l) h2 (by simpa using hl) (by simpa using e)
theorem gcOk_len : ∀ {st st' : Store} {n : Nat}, gcOk st st' n = true → st.length ≤ st'.length
  | [], _, _, _ => Nat.zero_le _
  | c :: cs, [], _, h => by cases h
  | c :: cs, c2 :: cs', n, h => by
    unfold gcOk at h
    obtain ⟨h1, h2⟩ := Bool.and_eq_true_iff.mp h
    exact Nat.succ_le_succ (gcOk_len h2)
/-- behind a call -/
theorem gc_rel {st st' : Store} {d d' : D} {st2 : Store} {v : V} (s : StR K μ H st) (s' : StR K μ' H' st') (p : Post Tb μ H μ' H') (r : RelD K μ' H' d v) (e : gc st d st' = (d', st2)) :
    ∃ μ2, Post Tb μ H μ2 H' ∧ StR K μ2 H' st2 ∧ RelD K μ2 H' d' v := by
  unfold gc at e
  split at e
  · rename_i c
    obtain ⟨c1, c2⟩ := Bool.and_eq_true_iff.mp c
    cases e
    have hn := gcOk_len c2
    rw [← s.len] at c1
    refine ⟨μ, ⟨List.prefix_refl _, p.ext, fun _ h => .inl h, p.tab, p.there⟩, ⟨?_, s.nd, fun l c' hc => ?_⟩, r.back p.pre c1⟩
    · rw [List.length_take, s.len]; omega
    · have hl : l < st.length := by
        have := (List.getElem?_eq_some_iff.mp hc).1
        rw [List.length_take] at this; omega
      rw [List.getElem?_take_of_lt hl] at hc
      obtain ⟨a, o, h1, h2, h3⟩ := s'.at_ l c' hc
      obtain ⟨c0, hc0, hu⟩ := gcOk_at c2 hl hc
      have hu' : c'.under μ.length = true := by
        rcases hu with rfl | hu
        · obtain ⟨a0, o0, k1, k2, k3⟩ := s.at_ l _ hc0
          cases c' with
          | lst xs => obtain ⟨vs, _, rr⟩ := k3; exact rr.under
          | dic _ => exact k3.elim
        · rw [s.len]; exact hu
      refine ⟨a, o, ?_, h2, ?_⟩
      · obtain ⟨t, ht⟩ := p.pre
        rw [← ht, List.getElem?_append_left (by rw [s.len]; exact hl)] at h1
        exact h1
      · cases c' with
        | lst xs =>
          obtain ⟨vs, e, rr⟩ := h3
          exact ⟨vs, e, rr.back p.pre hu'⟩
        | dic _ => exact h3.elim
  · cases e
    exact ⟨μ', p, s', r⟩
end
end Calc
end
section
set_option Elab.async false
set_option linter.all false
set_option maxRecDepth 100000
set_option autoImplicit false
/-! the rules over data: operations by values -/
namespace Calc
open PySem PySem.Spec PyProof.Rows L2

/-- a computation's reading -/
def tM {α β : Type} (K : PySem.W.Frag) (Tb : List Addr) (Rel : List Addr → Hp → α → β → Prop) (m : Env → Store → Option (α × Store)) (σ : L2.St) (H : Hp) (Q : β → Hp → Prop) : Prop :=
  ∃ μ env st a st', StR K μ H st ∧ TabsR Tb H ∧ EnvR K μ H env σ ∧ m env st = some (a, st') ∧ ∀ μ' H' b, Post Tb μ H μ' H' → StR K μ' H' st' → Rel μ' H' a b → Q b H'
abbrev tE (K : PySem.W.Frag) (Tb : List Addr) (m : Env → Store → Option (D × Store)) : TE := tM K Tb (RelD K) m
abbrev tB (K : PySem.W.Frag) (Tb : List Addr) (m : Env → Store → Option (Bool × Store)) : TT := tM K Tb (fun _ _ a b => a = b) m
abbrev tEs (K : PySem.W.Frag) (Tb : List Addr) (m : Env → Store → Option (List D × Store)) : TA := tM K Tb (RelDs K) m
/-- operations on values -/
def r2M (K : PySem.W.Frag) (Tb : List Addr) (m : D → D → Store → Option (D × Store)) : R2 := fun x y H Q =>
  ∃ μ st a b d st', StR K μ H st ∧ TabsR Tb H ∧ RelD K μ H a x ∧ RelD K μ H b y ∧ m a b st = some (d, st') ∧ ∀ μ' H' v, Post Tb μ H μ' H' → StR K μ' H' st' → RelD K μ' H' d v → Q v H'
def rnM (K : PySem.W.Frag) (Tb : List Addr) (m : List D → Store → Option (D × Store)) : List V → Hp → VK → Prop := fun xs H Q =>
  ∃ μ st as d st', StR K μ H st ∧ TabsR Tb H ∧ RelDs K μ H as xs ∧ m as st = some (d, st') ∧ ∀ μ' H' v, Post Tb μ H μ' H' → StR K μ' H' st' → RelD K μ' H' d v → Q v H'
def rmM (K : PySem.W.Frag) (Tb : List Addr) (m : D → List D → Store → Option (D × Store)) : V → List V → Hp → VK → Prop := fun x xs H Q =>
  ∃ μ st a as d st', StR K μ H st ∧ TabsR Tb H ∧ RelD K μ H a x ∧ RelDs K μ H as xs ∧ m a as st = some (d, st') ∧ ∀ μ' H' v, Post Tb μ H μ' H' → StR K μ' H' st' → RelD K μ' H' d v → Q v H'

theorem _root_.L2.PE.imp {X : Cx} {e : Expr} {t t' : TE} (h : PE X e t) (w : ∀ σ H Q, t' σ H Q → t σ H Q) : PE X e t' := ⟨fun pins s σ H Q I q => h.run pins s σ H Q I (w σ H Q q)⟩
theorem _root_.L2.PT.imp {X : Cx} {e : Expr} {t t' : TT} (h : PT X e t) (w : ∀ σ H Q, t' σ H Q → t σ H Q) : PT X e t' := ⟨fun pins s σ H Q I q => h.run pins s σ H Q I (w σ H Q q)⟩
theorem _root_.L2.PW.imp {X : Cx} {e : Expr} {t t' : TT} (h : PW X e t) (w : ∀ σ H Q, t' σ H Q → t σ H Q) : PW X e t' := ⟨fun wh pins s σ H Q I q => h.run wh pins s σ H Q I (w σ H Q q)⟩
theorem _root_.L2.PA.imp {X : Cx} {e : List Expr} {t t' : TA} (h : PA X e t) (w : ∀ σ H Q, t' σ H Q → t σ H Q) : PA X e t' := ⟨fun pos pins s σ H Q I q => h.run pos pins s σ H Q I (w σ H Q q)⟩
theorem _root_.L2.PS.imp {X : Cx} {e : Stmt} {t t' : TS} (h : PS X e t) (w : ∀ D σ H, t' D σ H → t D σ H) : PS X e t' := ⟨fun pins s σ H D I q => h.run pins s σ H D I (w D σ H q)⟩
theorem _root_.L2.PSs.imp {X : Cx} {e : List Stmt} {t t' : TS} (h : PSs X e t) (w : ∀ D σ H, t' D σ H → t D σ H) : PSs X e t' := ⟨fun pins s σ H D I q => h.run pins s σ H D I (w D σ H q)⟩

section
variable {K : PySem.W.Frag} {Tb : List Addr} {α β γ δ : Type} {RA : List Addr → Hp → α → β → Prop} {RC : List Addr → Hp → γ → δ → Prop}
/-- the value is there already -/
theorem tM_pure {m : Env → Store → Option (α × Store)} {σ : L2.St} {H : Hp} {Q : β → Hp → Prop} (h : tM K Tb RA m σ H Q) {b : β}
    (hm : ∀ μ env st a st', StR K μ H st → EnvR K μ H env σ → m env st = some (a, st') → st' = st ∧ RA μ H a b) : Q b H := by
  obtain ⟨μ, env, st, a, st', sr, tb, er, e, k⟩ := h
  obtain ⟨rfl, r⟩ := hm μ env st a st' sr er e
  exact k μ H b (.refl tb) sr r
/-- first m, then the rest -/
theorem tM_bnd {m : Env → Store → Option (α × Store)} {f : Env → α → Store → Option (γ × Store)} {σ : L2.St} {H : Hp} {Q : δ → Hp → Prop} {R : β → Hp → Prop} (h : tM K Tb RC (fun env st => bnd (m env st) (f env)) σ H Q)
    (w : ∀ μ env st c st' a b H1, StR K μ H1 st → TabsR Tb H1 → EnvR K μ H1 env σ → RA μ H1 a b → f env a st = some (c, st') → (∀ μ' H' d, Post Tb μ H1 μ' H' → StR K μ' H' st' → RC μ' H' c d → Q d H') → R b H1) : tM K Tb RA m σ H R := by
  obtain ⟨μ, env, st, c, st', sr, tb, er, e, k⟩ := h
  obtain ⟨a, st1, e1, e2⟩ := bnd_eq e
  exact ⟨μ, env, st, a, st1, sr, tb, er, e1, fun μ1 H1 b p1 sr1 r1 => w μ1 env st1 c st' a b H1 sr1 p1.tab (er.mono sr p1.pre p1.ext) r1 e2 fun μ' H' d p' sr' r' => k μ' H' d (p1.trans p') sr' r'⟩
end

section
variable {X : Cx} {Tb : List Addr}
/-! ### operators -/
theorem op_fdivA : OpR X (binaryOp .FloorDiv) (rI (fun _ j => j ≠ 0 ∧ j.natAbs.log2 < 9000) fun i j => .int (i.fdiv j)) := opI fun _ _ _ _ _ _ _ hc q => floordiv_int hc.1 q (.inl (PyProof.noPylong_of_log2 hc.2))
def opr : Bop → Operator
  | .add => .Add | .sub => .Sub | .mul => .Mult | .fdiv => .FloorDiv | .mod => .Mod | .pow => .Pow
theorem sz_eq : SZ = sizeLine := by decide
theorem op_bin (op : Bop) : OpR X (binaryOp (opr op)) (r2M X.K Tb (binop op)) := by
  intro pins s σ H x y v u Q I rx ry h
  obtain ⟨μ, st, a, b, d, st', sr, tb, ra, rb, e, k⟩ := h
  cases op with
  | add =>
    cases a <;> cases b <;> simp only [binop] at e <;> try (first | (cases e; done) | skip)
    · cases ra; cases rb; cases e
      exact op_add pins s σ H _ _ v u Q I rx ry ⟨_, _, rfl, rfl, k μ H _ (.refl tb) sr (.int _)⟩
    · split at e
      · rename_i xs ys hz
        cases e
        cases ra with
        | tup ha da =>
          cases rb with
          | tup hb db =>
            refine op_catA pins s σ H _ _ v u Q I rx ry ⟨_, _, _, _, rfl, rfl, ha, hb, ?_, fun z => ?_, fun z1 z2 => ?_, fun z1 z2 p hp => ?_⟩
            · rw [← da.length, ← db.length]; rw [sz_eq] at hz; exact hz
            · subst z; cases da
              exact k μ H _ (.refl tb) sr (.tup hb db)
            · subst z2; cases db
              rw [List.append_nil] at k
              exact k μ H _ (.refl tb) sr (.tup ha da)
            · refine k μ _ _ (.made tb hp) (sr.made hp) (.tup (.inl (.inl upd_same)) ((da.append db).mono sr (List.prefix_refl _) (Post.made (Tb := Tb) (μ := μ) tb hp).ext))
      · cases e
    · split at e
      · rename_i l1 l2 _ _ xs ys h1 h2
        split at e
        · rename_i hz
          cases e
          obtain ⟨p1, vs, m1, hh1, d1⟩ := sr.list h1
          obtain ⟨p2, ws, m2, hh2, d2⟩ := sr.list h2
          cases ra with
          | loc ea =>
            cases rb with
            | loc eb =>
              rw [ea] at m1; cases m1
              rw [eb] at m2; cases m2
              refine op_cat pins s σ H _ _ v u Q I rx ry ⟨_, _, _, _, rfl, rfl, hh1, hh2, ?_, fun p hp => ?_⟩
              · rw [← d1.length, ← d2.length]; rw [sz_eq] at hz; exact hz
              · refine k (μ ++ [p]) _ _ (.cell tb hp) (sr.cell hp (d1.append d2)) (.loc ?_)
                rw [← sr.len, List.getElem?_append_right (Nat.le_refl _), Nat.sub_self]; rfl
        · cases e
      · cases e
  | sub =>
    cases a <;> cases b <;> simp only [binop] at e <;> try (first | (cases e; done) | skip)
    cases ra; cases rb; cases e
    exact op_sub pins s σ H _ _ v u Q I rx ry ⟨_, _, rfl, rfl, k μ H _ (.refl tb) sr (.int _)⟩
  | mul =>
    cases a <;> cases b <;> simp only [binop] at e <;> try (first | (cases e; done) | skip)
    · split at e
      · rename_i hc
        cases ra; cases rb; cases e
        exact op_mulW pins s σ H _ _ v u Q I rx ry ⟨_, _, rfl, rfl, (by unfold mulOk at hc; unfold L2.CMulW; exact of_decide_eq_true hc), k μ H _ (.refl tb) sr (.int _)⟩
      · cases e
    · split at e
      · rename_i hc
        obtain ⟨h1, h2, h3, h4⟩ := hc
        cases e
        cases rb
        cases ra with
        | tup ha da =>
          refine op_repT pins s σ H _ _ v u Q I rx ry ⟨_, _, _, rfl, rfl, ha, ?_, h2, h3, by rw [← da.length]; exact h4, fun p hp => ?_⟩
          · intro z; subst z; cases da; exact h1 rfl
          · exact k μ _ _ (.made tb hp) (sr.made hp) (.tup (.inl (.inl upd_same)) ((da.rep _).mono sr (List.prefix_refl _) (Post.made (Tb := Tb) (μ := μ) tb hp).ext))
      · cases e
    · split at e
      · rename_i l i _ xs h1
        split at e
        · rename_i hz
          cases e
          obtain ⟨p1, vs, m1, hh1, d1⟩ := sr.list h1
          cases rb
          cases ra with
          | loc ea =>
            rw [ea] at m1; cases m1
            refine op_rep pins s σ H _ _ v u Q I rx ry ⟨_, _, _, rfl, rfl, hh1, hz.1, hz.2.1, ?_, fun p hp => ?_⟩
            · rw [← d1.length, ← sz_eq]; exact hz.2.2
            · refine k (μ ++ [p]) _ _ (.cell tb hp) (sr.cell hp (d1.rep _)) (.loc ?_)
              rw [← sr.len, List.getElem?_append_right (Nat.le_refl _), Nat.sub_self]; rfl
        · cases e
      · cases e
  | fdiv =>
    cases a <;> cases b <;> simp only [binop] at e <;> try (first | (cases e; done) | skip)
    split at e
    · rename_i hc
      obtain ⟨c1, c2⟩ := Bool.and_eq_true_iff.mp hc
      cases ra; cases rb; cases e
      exact op_fdivA pins s σ H _ _ v u Q I rx ry ⟨_, _, rfl, rfl, ⟨of_decide_eq_true c1, of_decide_eq_true c2⟩, k μ H _ (.refl tb) sr (.int _)⟩
    · cases e
  | mod =>
    cases a <;> cases b <;> simp only [binop] at e <;> try (first | (cases e; done) | skip)
    split at e
    · cases e
    · rename_i hc
      cases ra; cases rb; cases e
      exact op_modN pins s σ H _ _ v u Q I rx ry ⟨_, _, rfl, rfl, hc, k μ H _ (.refl tb) sr (.int _)⟩
  | pow =>
    cases a <;> cases b <;> simp only [binop] at e <;> try (first | (cases e; done) | skip)
    split at e
    · rename_i hc
      cases ra; cases rb; cases e
      exact op_pow pins s σ H _ _ v u Q I rx ry ⟨_, _, rfl, rfl, hc, k μ H _ (.refl tb) sr (.int _)⟩
    · cases e
end
end Calc
end
section
set_option Elab.async false
set_option linter.all false
set_option maxRecDepth 100000
set_option autoImplicit false
/-! comparisons, truth, items, slices, built-ins, methods -/
namespace Calc
open PySem PySem.Spec PyProof.Rows L2

mutual
def toPy : D → PyData
  | .non => .none
  | .bl b => .bool b
  | .int i => .int i
  | .str x => .str x
  | .tup xs => .tuple (toPys xs)
  | .rol xs => .list (toPys xs)
  | .loc _ => .none
def toPys : List D → List PyData
  | [] => []
  | x :: xs => toPy x :: toPys xs
end
mutual
theorem toPy_depth : ∀ d : D, (toPy d).depth = d.dep
  | .non => rfl
  | .bl b => rfl
  | .int i => rfl
  | .str x => rfl
  | .tup xs => by simp only [toPy, PyData.depth, D.dep, toPys_depth xs]
  | .rol xs => by simp only [toPy, PyData.depth, D.dep, toPys_depth xs]
  | .loc _ => rfl
theorem toPys_depth : ∀ xs : List D, PyData.depthAll (toPys xs) = D.deps xs
  | [] => rfl
  | x :: xs => by simp only [toPys, PyData.depthAll, D.deps, toPy_depth x, toPys_depth xs]
end
mutual
theorem toPy_lay : ∀ d : D, d.free = true → (toPy d).canLay0 = true
  | .non, _ => by simp [toPy, PyData.canLay0]
  | .bl b, _ => by simp [toPy, PyData.canLay0]
  | .int i, _ => by simp [toPy, PyData.canLay0]
  | .str x, h => by
    simp only [toPy, PyData.canLay0, PyData.strOk]
    exact h
  | .tup xs, h => by
    simp only [toPy, PyData.canLay0]
    exact toPys_lay xs (by simpa [D.free] using h)
  | .rol xs, h => by
    simp only [toPy, PyData.canLay0]
    exact toPys_lay xs (by simpa [D.free] using h)
  | .loc _, h => by simp [D.free] at h
theorem toPys_lay : ∀ xs : List D, D.frees xs = true → PyData.canLayAll0 (toPys xs) = true
  | [], _ => by simp [toPys, PyData.canLayAll0]
  | x :: xs, h => by
    simp only [D.frees, Bool.and_eq_true] at h
    simp only [toPys, PyData.canLayAll0, Bool.and_eq_true]
    exact ⟨toPy_lay x h.1, toPys_lay xs h.2⟩
end
mutual
theorem eqD_py : ∀ a b : D, a.free = true → b.free = true → eqD a b = PyData.eqv (toPy a) (toPy b)
  | .non, b, _, h => by cases b <;> first | (simp [D.free] at h; done) | simp [eqD, toPy, PyData.eqv]
  | .bl a, b, _, h => by cases b <;> first | (simp [D.free] at h; done) | simp [eqD, toPy, PyData.eqv]
  | .int a, b, _, h => by cases b <;> first | (simp [D.free] at h; done) | simp [eqD, toPy, PyData.eqv]
  | .str a, b, _, h => by cases b <;> first | (simp [D.free] at h; done) | simp [eqD, toPy, PyData.eqv]
  | .tup xs, b, g, h => by
    cases b with
    | tup ys => simp only [eqD, toPy, PyData.eqv]; exact eqDs_py xs ys (by simpa [D.free] using g) (by simpa [D.free] using h)
    | loc l => simp [D.free] at h
    | _ => simp [eqD, toPy, PyData.eqv]
  | .rol xs, b, g, h => by
    cases b with
    | rol ys => simp only [eqD, toPy, PyData.eqv]; exact eqDs_py xs ys (by simpa [D.free] using g) (by simpa [D.free] using h)
    | loc l => simp [D.free] at h
    | _ => simp [eqD, toPy, PyData.eqv]
  | .loc _, _, g, _ => by simp [D.free] at g
theorem eqDs_py : ∀ a b : List D, D.frees a = true → D.frees b = true → eqDs a b = PyData.eqvAll (toPys a) (toPys b)
  | [], b, _, _ => by cases b <;> simp [eqDs, toPys, PyData.eqvAll]
  | x :: xs, b, g, h => by
    cases b with
    | nil => simp [eqDs, toPys, PyData.eqvAll]
    | cons y ys =>
      simp only [D.frees, Bool.and_eq_true] at g h
      simp only [eqDs, toPys, PyData.eqvAll, eqD_py x y g.1 h.1, eqDs_py xs ys g.2 h.2]
end
theorem flat_shaped {d : D} (h : flat d = true) : SeqAt.shaped (toPy d) = true := by
  obtain ⟨h1, h2⟩ := Bool.and_eq_true_iff.mp h
  unfold SeqAt.shaped
  rw [toPy_lay d h1, toPy_depth d]
  have := of_decide_eq_true h2
  simp only [Bool.true_and]
  exact decide_eq_true (by omega)

section
variable {K : PySem.W.Frag} {μ : List Addr} {H : Hp} {st : Store}
mutual
theorem RelD.dp : ∀ {d : D} {v : V}, RelD K μ H d v → d.free = true → Dp K H v (toPy d)
  | _, _, .non, _ => .non
  | _, _, .bl b, _ => .bl b
  | _, _, .int b, _ => .int b
  | _, _, .str b, _ => .str b
  | _, _, .tup h r, f => .tup h (RelDs.dp r (by simpa [D.free] using f))
  | _, _, .rol h r, f => .lst h.sql (RelDs.dp r (by simpa [D.free] using f))
  | _, _, .loc h, f => by simp [D.free] at f
theorem RelDs.dp : ∀ {d : List D} {v : List V}, RelDs K μ H d v → D.frees d = true → DpAll K H v (toPys d)
  | _, _, .nil, _ => .nil
  | _, _, .cons a b, f => by
    simp only [D.frees, Bool.and_eq_true] at f
    exact .cons (RelD.dp a f.1) (RelDs.dp b f.2)
end
theorem look_dp (s : StR K μ H st) {d : D} {v : V} (r : RelD K μ H d v) (f : flat (look st d) = true) : Dp K H v (toPy (look st d)) := by
  have ff := (Bool.and_eq_true_iff.mp f).1
  cases d with
  | loc l =>
    unfold look at ff ⊢
    cases e : st[l]? with
    | none => simp only [e] at ff; simp [D.free] at ff
    | some c =>
      cases c with
      | lst xs =>
        simp only [e] at ff ⊢
        obtain ⟨a, vs, h1, h2, d⟩ := s.list e
        cases r with
        | loc h => rw [h] at h1; cases h1; exact .lst (.of h2) (d.dp (by simpa [D.free] using ff))
      | dic _ => simp only [e] at ff; simp [D.free] at ff
  | _ => exact r.dp ff
end
def rbM (K : PySem.W.Frag) (Tb : List Addr) (m : D → D → Store → Option Bool) : R2 := fun x y H Q =>
  ∃ μ st a b c, StR K μ H st ∧ TabsR Tb H ∧ RelD K μ H a x ∧ RelD K μ H b y ∧ m a b st = some c ∧ Q (.bl c) H
def copr : Cop → CmpOp
  | .eq => .Eq | .ne => .NotEq | .lt => .Lt | .le => .LtE | .gt => .Gt | .ge => .GtE | .isN => .Is | .notN => .IsNot | .mem => .In | .nmem => .NotIn
section
variable {X : Cx} {Tb : List Addr}
theorem eqv_of {x y : D} {st : Store} {c : Bool} (h : eqv x y st = some c) : flat (look st x) = true ∧ flat (look st y) = true ∧ PyData.eqv (toPy (look st x)) (toPy (look st y)) = c := by
  unfold eqv at h
  split at h
  · rename_i f
    obtain ⟨f1, f2⟩ := Bool.and_eq_true_iff.mp f
    cases h
    exact ⟨f1, f2, (eqD_py _ _ (Bool.and_eq_true_iff.mp f1).1 (Bool.and_eq_true_iff.mp f2).1).symm⟩
  · cases h
theorem RelD.non_iff {K : PySem.W.Frag} {μ : List Addr} {H : Hp} {d : D} {v : V} (r : RelD K μ H d v) : decide (v = .non) = decide (d = .non) := by
  cases r <;> simp
theorem op_cmp (op : Cop) (hu : X.A.units + 64 < cLine) : OpR X (compareOp (copr op)) (rbM X.K Tb (cmpop op)) := by
  intro pins s σ H x y v u Q I rx ry h
  obtain ⟨μ, st, a, b, c, sr, tb, ra, rb, e, k⟩ := h
  cases op with
  | eq =>
    obtain ⟨f1, f2, e2⟩ := eqv_of e
    refine op_eqD hu pins s σ H x y v u Q I rx ry ⟨_, _, look_dp sr ra f1, look_dp sr rb f2, flat_shaped f1, flat_shaped f2, ?_⟩
    rw [e2]; exact k
  | ne =>
    obtain ⟨c', e1, e3⟩ := Option.map_eq_some_iff.mp (show (eqv a b st).map (!·) = some c from e)
    obtain ⟨f1, f2, e2⟩ := eqv_of e1
    refine op_neD hu pins s σ H x y v u Q I rx ry ⟨_, _, look_dp sr ra f1, look_dp sr rb f2, flat_shaped f1, flat_shaped f2, ?_⟩
    rw [e2, e3]; exact k
  | lt =>
    cases a <;> cases b <;> simp only [cmpop] at e <;> try (first | (cases e; done) | skip)
    cases ra; cases rb; cases e
    exact op_lt pins s σ H _ _ v u Q I rx ry ⟨_, _, rfl, rfl, k⟩
  | le =>
    cases a <;> cases b <;> simp only [cmpop] at e <;> try (first | (cases e; done) | skip)
    cases ra; cases rb; cases e
    exact op_le pins s σ H _ _ v u Q I rx ry ⟨_, _, rfl, rfl, k⟩
  | gt =>
    cases a <;> cases b <;> simp only [cmpop] at e <;> try (first | (cases e; done) | skip)
    cases ra; cases rb; cases e
    exact op_gt pins s σ H _ _ v u Q I rx ry ⟨_, _, rfl, rfl, k⟩
  | ge =>
    cases a <;> cases b <;> simp only [cmpop] at e <;> try (first | (cases e; done) | skip)
    cases ra; cases rb; cases e
    exact op_ge pins s σ H _ _ v u Q I rx ry ⟨_, _, rfl, rfl, k⟩
  | isN =>
    cases b <;> simp only [cmpop] at e <;> try (first | (cases e; done) | skip)
    cases rb; cases e
    refine op_isN pins s σ H _ _ v u Q I rx ry ⟨rfl, ?_⟩
    rw [ra.non_iff]; exact k
  | notN =>
    cases b <;> simp only [cmpop] at e <;> try (first | (cases e; done) | skip)
    cases rb; cases e
    refine op_notN pins s σ H _ _ v u Q I rx ry ⟨rfl, ?_⟩
    rw [ra.non_iff]; exact k
  | mem => cases a <;> cases b <;> simp [cmpop] at e
  | nmem => cases a <;> cases b <;> simp [cmpop] at e

/-! ### truth -/
theorem isEmpty_rel {K : PySem.W.Frag} {μ : List Addr} {H : Hp} {xs : List D} {vs : List V} (r : RelDs K μ H xs vs) : (!vs.isEmpty) = !xs.isEmpty := by
  cases r <;> rfl
theorem tru_rel {K : PySem.W.Frag} {μ : List Addr} {H : Hp} {st : Store} {d : D} {v : V} {c : Bool} (s : StR K μ H st) (r : RelD K μ H d v) (e : truth d st = some c) : TruV K v H c := by
  cases r with
  | non => cases e; rfl
  | bl b => cases e; rfl
  | int i => cases e; show _ = (i != 0); by_cases h : i = 0 <;> simp [h]
  | str x =>
    simp only [truth] at e
    split at e
    · rename_i hz
      cases e
      refine ⟨by rw [← sz_eq]; exact hz, ?_⟩
      by_cases h : x.length = 0
      · simp [h]
      · have h' : (x.length : Int) ≠ 0 := by omega
        simp [h, h']
    · cases e
  | tup h d => cases e; exact .inr (.inl ⟨_, h, (isEmpty_rel d).symm⟩)
  | rol h d => cases e; exact .inl ⟨_, h.sql, (isEmpty_rel d).symm⟩
  | loc h =>
    rename_i l a
    simp only [truth] at e
    split at e
    · rename_i xs h1
      cases e
      obtain ⟨a', vs, h3, h4, d⟩ := s.list h1
      rw [h] at h3; cases h3
      exact .inl ⟨_, .of h4, (isEmpty_rel d).symm⟩
    · cases e

/-! ### items, slices -/
theorem seqOf_rel {K : PySem.W.Frag} {μ : List Addr} {H : Hp} {st : Store} {d : D} {v : V} {xs : List D} (s : StR K μ H st) (r : RelD K μ H d v) (e : seqOf st d = some xs) :
    ∃ a vs, v = .ref a ∧ (SqL K H a vs ∨ SqT K H a vs) ∧ RelDs K μ H xs vs := by
  cases r with
  | tup h d => cases e; exact ⟨_, _, rfl, .inr h, d⟩
  | rol h d => cases e; exact ⟨_, _, rfl, .inl h.sql, d⟩
  | loc h =>
    simp only [seqOf] at e
    split at e
    · rename_i xs h1
      cases e
      obtain ⟨a', vs, h3, h4, d⟩ := s.list h1
      rw [h] at h3; cases h3
      exact ⟨_, _, rfl, .inl (.of h4), d⟩
    · cases e
  | _ => cases e
theorem ixI_eq (n : Nat) (i : Int) : ixI n i = ixN n i := rfl
theorem atI_rel {K : PySem.W.Frag} {μ : List Addr} {H : Hp} {xs : List D} {vs : List V} {i : Int} {x : D} (r : RelDs K μ H xs vs) (e : atI xs i = some x) : ∃ v, L2.atI vs i = some v ∧ RelD K μ H x v := by
  unfold atI at e
  unfold L2.atI
  rw [ixI_eq, r.length] at e
  obtain ⟨j, h1, h2⟩ := Option.bind_eq_some_iff.mp e
  obtain ⟨v, h3, h4⟩ := r.get h2
  exact ⟨v, Option.bind_eq_some_iff.mpr ⟨j, h1, h3⟩, h4⟩
def riM (K : PySem.W.Frag) (Tb : List Addr) (m : D → D → Store → Option D) : R2 := fun x y H Q =>
  ∃ μ st a b d, StR K μ H st ∧ TabsR Tb H ∧ RelD K μ H a x ∧ RelD K μ H b y ∧ m a b st = some d ∧ ∀ v, RelD K μ H d v → Q v H
theorem ix_rel : IxR X (riM X.K Tb index) := by
  intro ve se pins s σ H x y v u Q I rx ry h hsub
  obtain ⟨μ, st, a, b, d, sr, tb, ra, rb, e, k⟩ := h
  cases b <;> simp only [index] at e <;> try (first | (cases e; done) | skip)
  cases rb
  split at e
  · rename_i xs h1
    obtain ⟨p, vs, rfl, hq, dr⟩ := seqOf_rel sr ra h1
    obtain ⟨z, hz, rz⟩ := atI_rel dr e
    rcases hq with hq | hq
    · exact ix_list ve se pins s σ H _ _ v u Q I rx ry ⟨_, _, _, _, rfl, rfl, hq, hz, k z rz⟩ hsub
    · exact ix_tup ve se pins s σ H _ _ v u Q I rx ry ⟨_, _, _, _, rfl, rfl, hq, hz, k z rz⟩ hsub
  · cases e
theorem sIx_eq (n d : Nat) (o : Option Int) : sIx n d o = HT.sIx n d o := by cases o <;> rfl
theorem cut_rel {K : PySem.W.Frag} {μ : List Addr} {H : Hp} {xs : List D} {vs : List V} (r : RelDs K μ H xs vs) (lo hi : Option Int) : RelDs K μ H (cutL xs lo hi) (cutV vs lo hi) := by
  unfold cutL cutV
  rw [sIx_eq, sIx_eq, r.length]
  exact (r.drop _).take _
def rsM (K : PySem.W.Frag) (Tb : List Addr) : V → Option Int → Option Int → Hp → VK → Prop := fun x lo hi H Q =>
  ∃ μ st a d st', StR K μ H st ∧ TabsR Tb H ∧ RelD K μ H a x ∧ slice a lo hi st = some (d, st') ∧ ∀ μ' H' v, Post Tb μ H μ' H' → StR K μ' H' st' → RelD K μ' H' d v → Q v H'
theorem sl_rel : SlR X (rsM X.K Tb) := by
  intro pins s σ H x v vl vu lo hi sl Q I rx hs pl pu h
  obtain ⟨μ, st, a, d, st', sr, tb, ra, e, k⟩ := h
  cases ra with
  | @tup p0 xs0 vs0 h1 dr =>
    cases e
    refine sl_tupA pins s σ H _ v vl vu lo hi sl Q I rx hs pl pu ⟨_, _, rfl, h1, fun hw => ?_, fun hw p hp => ?_⟩
    · have : cutV vs0 lo hi = vs0 := by
        unfold cutV
        rw [hw.1, hw.2, List.drop_zero, Nat.sub_zero, List.take_length]
      have c := cut_rel dr lo hi
      rw [this] at c
      exact k μ H _ (.refl tb) sr (.tup h1 c)
    · exact k μ _ _ (.made tb hp) (sr.made hp) (.tup (.inl (.inl upd_same)) ((cut_rel dr lo hi).mono sr (List.prefix_refl _) (Post.made (Tb := Tb) (μ := μ) tb hp).ext))
  | loc h1 =>
    simp only [slice] at e
    split at e
    · rename_i xs h2
      cases e
      obtain ⟨a', vs, h3, h4, dr⟩ := sr.list h2
      rw [h1] at h3; cases h3
      refine sl_list pins s σ H _ v vl vu lo hi sl Q I rx hs pl pu ⟨_, _, rfl, .of h4, fun p hp => ?_⟩
      refine k (μ ++ [p]) _ _ (.cell tb hp) (sr.cell hp (cut_rel dr lo hi)) (.loc ?_)
      rw [← sr.len, List.getElem?_append_right (Nat.le_refl _), Nat.sub_self]; rfl
    · cases e
  | _ => cases e

/-! ### built-ins -/
theorem RelDs.one {K : PySem.W.Frag} {μ : List Addr} {H : Hp} {x : D} {vs : List V} (r : RelDs K μ H [x] vs) : ∃ v, vs = [v] ∧ RelD K μ H x v := by
  cases r with
  | cons a b => cases b; exact ⟨_, rfl, a⟩
theorem bl_len : CallR X (.builtin "len") (rnM X.K Tb (bltn .len)) := by
  intro pins s σ H xs us Q I r h
  obtain ⟨μ, st, as, d, st', sr, tb, ra, e, k⟩ := h
  cases as with
  | nil => simp [bltn] at e
  | cons x r0 =>
    cases r0 with
    | cons _ _ => simp [bltn] at e
    | nil =>
      obtain ⟨v, rfl, rv⟩ := ra.one
      simp only [bltn] at e
      split at e
      · rename_i ys h1
        cases e
        obtain ⟨p, vs, rfl, hq, dr⟩ := seqOf_rel sr rv h1
        refine call_len_seq pins s σ H _ us Q I r ⟨_, _, rfl, hq, ?_⟩
        rw [← dr.length]
        exact k μ H _ (.refl tb) sr (.int _)
      · cases e
theorem bl_abs : CallR X (.builtin "abs") (rnM X.K Tb (bltn .abs)) := by
  intro pins s σ H xs us Q I r h
  obtain ⟨μ, st, as, d, st', sr, tb, ra, e, k⟩ := h
  cases as with
  | nil => simp [bltn] at e
  | cons x r0 =>
    cases r0 with
    | cons _ _ => cases x <;> simp [bltn] at e
    | nil =>
      obtain ⟨v, rfl, rv⟩ := ra.one
      cases x <;> simp only [bltn] at e <;> try (first | (cases e; done) | skip)
      cases e; cases rv
      exact call_abs pins s σ H _ us Q I r ⟨_, rfl, k μ H _ (.refl tb) sr (.int _)⟩
theorem bl_int : CallR X (.type "int") (rnM X.K Tb (bltn .int)) := by
  intro pins s σ H xs us Q I r h
  obtain ⟨μ, st, as, d, st', sr, tb, ra, e, k⟩ := h
  cases as with
  | nil => simp [bltn] at e
  | cons x r0 =>
    cases r0 with
    | cons _ _ => cases x <;> simp [bltn] at e
    | nil =>
      obtain ⟨v, rfl, rv⟩ := ra.one
      cases x <;> simp only [bltn] at e <;> try (first | (cases e; done) | skip)
      cases e; cases rv
      exact call_int1 pins s σ H _ us Q I r (.inl ⟨_, rfl, k μ H _ (.refl tb) sr (.int _)⟩)
theorem bl_tuple : CallR X (.type "tuple") (rnM X.K Tb (bltn .tuple)) := by
  intro pins s σ H xs us Q I r h
  obtain ⟨μ, st, as, d, st', sr, tb, ra, e, k⟩ := h
  cases as with
  | nil => simp [bltn] at e
  | cons x r0 =>
    cases r0 with
    | cons _ _ => cases x <;> simp [bltn] at e
    | nil =>
      obtain ⟨v, rfl, rv⟩ := ra.one
      have go : ∀ ys, seqOf st x = some ys → d = .tup ys → st' = st → wpAny (model X.prog X.w) X.A (call (.type "tuple") us) (EP X pins σ Q) X.xe s := fun ys h1 hd hs => by
        subst hs
        subst hd
        obtain ⟨p, vs, rfl, hq, dr⟩ := seqOf_rel sr rv h1
        rcases hq with hq | hq
        · exact call_tuple_of pins s σ H _ us Q I r ⟨_, _, rfl, .inl ⟨hq, fun l hl => k μ _ _ (.made tb hl) (sr.made hl) (.tup (.inl (.inl upd_same)) (dr.mono sr (List.prefix_refl _) (Post.made (Tb := Tb) (μ := μ) tb hl).ext))⟩⟩
        · exact call_tuple_of pins s σ H _ us Q I r ⟨_, _, rfl, .inr ⟨hq, k μ H _ (.refl tb) sr (.tup hq dr)⟩⟩
      by_cases hx : ∃ ys, x = .tup ys
      · obtain ⟨ys, rfl⟩ := hx
        cases e
        exact go _ rfl rfl rfl
      · have e' : (match seqOf st x with
          | some xs => some (D.tup xs, st)
          | none => none) = some (d, st') := by
          cases x <;> first | exact e | exact absurd ⟨_, rfl⟩ hx
        split at e'
        · rename_i ys h1
          cases e'
          exact go _ h1 rfl rfl
        · cases e'
theorem bl_list : CallR X (.type "list") (rnM X.K Tb (bltn .list)) := by
  intro pins s σ H xs us Q I r h
  obtain ⟨μ, st, as, d, st', sr, tb, ra, e, k⟩ := h
  cases as with
  | nil => simp [bltn] at e
  | cons x r0 =>
    cases r0 with
    | cons _ _ => simp [bltn] at e
    | nil =>
      obtain ⟨v, rfl, rv⟩ := ra.one
      simp only [bltn] at e
      split at e
      · rename_i ys h1
        cases e
        obtain ⟨p, vs, rfl, hq, dr⟩ := seqOf_rel sr rv h1
        refine call_list_of pins s σ H _ us Q I r ⟨_, _, rfl, hq, fun p hp => ?_⟩
        refine k (μ ++ [p]) _ _ (.cell tb hp) (sr.cell hp dr) (.loc ?_)
        rw [← sr.len, List.getElem?_append_right (Nat.le_refl _), Nat.sub_self]; rfl
      · cases e
/-- the class that a test names -/
def isiOf : Bf → Option String
  | .isInt => some "int" | .isBool => some "bool" | .isStr => some "str" | .isTup => some "tuple"
  | _ => none
def tyN : D → Option String
  | .non => some "NoneType" | .bl _ => some "bool" | .int _ => some "int" | .str _ => some "str" | .tup _ => some "tuple"
  | _ => none
theorem tyN_rel {K : PySem.W.Frag} {μ : List Addr} {H : Hp} {d : D} {v : V} {T : String} (r : RelD K μ H d v) (e : tyN d = some T) : TyX K H v (.type T) := by
  cases r with
  | non => cases e; exact .base .non
  | bl b => cases e; exact .base (.bl b)
  | int b => cases e; exact .base (.int b)
  | str b => cases e; exact .base (.str b)
  | tup h _ =>
    cases e
    rcases h with (h | ⟨o, h⟩) | ⟨o, its, n, h1, h2, _⟩
    · exact .base (.tup h)
    · exact .fTuple h
    · exact .kTuple h1 h2
  | _ => cases e
theorem kitTab : kitB "NoneType" "int" = some false ∧ kitB "NoneType" "bool" = some false ∧ kitB "NoneType" "str" = some false ∧ kitB "NoneType" "tuple" = some false ∧
    kitB "bool" "int" = some true ∧ kitB "bool" "bool" = some true ∧ kitB "bool" "str" = some false ∧ kitB "bool" "tuple" = some false ∧
    kitB "int" "int" = some true ∧ kitB "int" "bool" = some false ∧ kitB "int" "str" = some false ∧ kitB "int" "tuple" = some false ∧
    kitB "str" "int" = some false ∧ kitB "str" "bool" = some false ∧ kitB "str" "str" = some true ∧ kitB "str" "tuple" = some false ∧
    kitB "tuple" "int" = some false ∧ kitB "tuple" "bool" = some false ∧ kitB "tuple" "str" = some false ∧ kitB "tuple" "tuple" = some true := by decide +kernel
/-- isinstance(x, T) by values -/
theorem bl_isi {b : Bf} {T : String} (hb : isiOf b = some T) : CallR X (.builtin "isinstance") (fun xs H Q => ∃ v, xs = [v, .ty T] ∧ rnM X.K Tb (bltn b) [v] H Q) := by
  intro pins s σ H xs us Q I r h
  obtain ⟨v, rfl, μ, st, as, d, st', sr, tb, ra, e, k⟩ := h
  cases ra with
  | cons rv rn =>
    cases rn
    rename_i x
    have key : ∃ T0 c, tyN x = some T0 ∧ kitB T0 T = some c ∧ d = .bl c ∧ st' = st := by
      obtain ⟨k1, k2, k3, k4, k5, k6, k7, k8, k9, k10, k11, k12, k13, k14, k15, k16, k17, k18, k19, k20⟩ := kitTab
      cases b <;> (first | (cases hb; done) | cases hb) <;> cases x <;> (first | (simp [bltn] at e; done) | cases e) <;> exact ⟨_, _, rfl, by assumption, rfl, rfl⟩
    obtain ⟨T0, c, h1, h2, rfl, rfl⟩ := key
    exact call_isi pins s σ H _ us Q I r ⟨_, _, _, _, _, rfl, .ty T, tyN_rel rv h1, kit_ty h2, k μ H _ (.refl tb) sr (.bl _)⟩

/-! ### methods of lists, stores -/
theorem mt_rel_append : MtR X "list.append" (rmM X.K Tb (meth .append)) := by
  intro pins s σ H x xs v us Q I rx r h
  obtain ⟨μ, st, a, as, d, st', sr, tb, ra, rs, e, k⟩ := h
  cases ra with
  | loc ha =>
    rename_i l p
    cases as with
    | nil => simp [meth] at e
    | cons y r0 =>
      cases r0 with
      | cons _ _ => simp [meth] at e
      | nil =>
        obtain ⟨v', rfl, rv⟩ := rs.one
        simp only [meth] at e
        split at e
        · rename_i ys h1
          split at e
          · rename_i hz
            cases e
            obtain ⟨a', vs, h3, h4, dr⟩ := sr.list h1
            rw [ha] at h3; cases h3
            refine mt_append pins s σ H _ _ v us Q I rx r ⟨_, _, _, rfl, rfl, h4, ?_, ?_⟩
            · rw [← dr.length, ← sz_eq]; exact hz
            · exact k μ _ _ (.write sr tb (List.mem_of_getElem? ha)) (sr.write ha (dr.append (.cons rv .nil))) .non
          · cases e
        · cases e
  | _ => simp [meth] at e
theorem mt_rel_pop : MtR X "list.pop" (fun x xs H Q => xs = [] ∧ rmM X.K Tb (meth .pop) x xs H Q) := by
  intro pins s σ H x xs v us Q I rx r h
  obtain ⟨rfl, μ, st, a, as, d, st', sr, tb, ra, rs, e, k⟩ := h
  cases rs
  cases ra with
  | loc ha =>
    rename_i l p
    simp only [meth] at e
    split at e
    · rename_i ys h1
      split at e
      · rename_i y h2
        cases e
        obtain ⟨a', vs, h3, h4, dr⟩ := sr.list h1
        rw [ha] at h3; cases h3
        obtain ⟨z, hz, rz⟩ := dr.get h2
        rw [dr.length] at hz
        exact mt_pop pins s σ H _ _ v us Q I rx r ⟨_, _, _, rfl, rfl, h4, hz, k μ _ _ (.write sr tb (List.mem_of_getElem? ha)) (sr.write ha dr.dropLast) (rz.mono sr (List.prefix_refl _) (Post.write (Tb := Tb) sr tb (List.mem_of_getElem? ha)).ext)⟩
      · cases e
    · cases e
  | _ => simp [meth] at e
theorem mt_rel_reverse : MtR X "list.reverse" (fun x xs H Q => xs = [] ∧ rmM X.K Tb (meth .reverse) x xs H Q) := by
  intro pins s σ H x xs v us Q I rx r h
  obtain ⟨rfl, μ, st, a, as, d, st', sr, tb, ra, rs, e, k⟩ := h
  cases rs
  cases ra with
  | loc ha =>
    rename_i l p
    simp only [meth] at e
    split at e
    · rename_i ys h1
      cases e
      obtain ⟨a', vs, h3, h4, dr⟩ := sr.list h1
      rw [ha] at h3; cases h3
      exact mt_reverse pins s σ H _ _ v us Q I rx r ⟨_, _, rfl, rfl, h4, k μ _ _ (.write sr tb (List.mem_of_getElem? ha)) (sr.write ha dr.reverse) .non⟩
    · cases e
  | _ => simp [meth] at e
def rSetM (K : PySem.W.Frag) (Tb : List Addr) : TSet := fun o i v H Q =>
  ∃ μ st a b d st', StR K μ H st ∧ TabsR Tb H ∧ RelD K μ H a o ∧ RelD K μ H b i ∧ RelD K μ H d v ∧ setIx a b d st = some st' ∧ ∀ μ' H', Post Tb μ H μ' H' → StR K μ' H' st' → Q H'
theorem set_rel : PSet X (rSetM X.K Tb) := by
  intro pins s σ H o i v ov iv u Q I ro ri rv h
  obtain ⟨μ, st, a, b, d, st', sr, tb, ra, rb, rd, e, k⟩ := h
  cases ra with
  | loc ha =>
    cases b <;> simp only [setIx] at e <;> try (first | (cases e; done) | skip)
    cases rb
    split at e
    · rename_i ys h1
      split at e
      · rename_i j h2
        cases e
        obtain ⟨a', vs, h3, h4, dr⟩ := sr.list h1
        rw [ha] at h3; cases h3
        rw [ixI_eq, dr.length] at h2
        exact set_list pins s σ H _ _ _ ov iv u Q I ro ri rv ⟨_, _, _, _, rfl, rfl, h4, h2, k μ _ (.write sr tb (List.mem_of_getElem? ha)) (sr.write ha (dr.set rd j))⟩
      · cases e
    · cases e
  | _ => simp [setIx] at e
end
end Calc
end
section
set_option Elab.async false
set_option linter.all false
set_option maxRecDepth 100000
set_option autoImplicit false
/-! the check: IR against the text -/
namespace Calc
open PySem PySem.Spec PyProof.Rows L2

structure XOk (X : Cx) (Tb : List Addr) (N : List Str) (sc : Scope) (top g : Bool) : Prop where
  eN : X.N = N
  eS : X.env.scope = sc
  nd : List.Nodup N
  calm : X.calm = true
  fn : top = true → ∀ x, X.fn x = true
  tabs : g = true → ∃ c P, X.env.code = .ref c ∧ GxR.TabB X.base X.mg c P ∧ P ∈ Tb

/-! ### the texts -/
def isGl (sc : Scope) (x : Str) : Bool := decide (sc.names.lookup x = some .globalImplicit) && !(x == ("__debug__" : Str))
def isVis (sc : Scope) (x : Str) : Bool := (match sc.names.lookup x with | some .local => true | some .cell => true | some .free => true | _ => false) && !(x == ("__debug__" : Str)) && !(x == ("__classdict__" : Str))
def isLoc (sc : Scope) (top : Bool) (x : Str) : Bool := match sc.names.lookup x with | some .local => true | some .cell => top | _ => false
def notStar : Expr → Bool | .Starred _ _ => false | _ => true
def notSlice : Expr → Bool | .Slice _ _ _ _ => false | _ => true
def notSet : Expr → Bool | .Set _ _ _ => false | _ => true
def notCall : Expr → Bool | .Call _ _ _ _ => false | _ => true
def notComp : Expr → Bool | .ListComp _ _ _ _ => false | .SetComp _ _ _ _ => false | .DictComp _ _ _ _ _ => false | _ => true
def notList : Expr → Bool | .List _ _ => false | _ => true
def notTup : Expr → Bool | .Tuple _ _ _ => false | _ => true
def plainTest : Expr → Bool | .UnaryOp _ _ _ => false | .BoolOp _ _ _ => false | .IfExp _ _ _ _ => false | .Compare _ _ _ _ => false | _ => true
def isTupE : Expr → Bool | .Tuple _ _ _ => true | _ => false

theorem star_ok {e : Expr} {es : List Expr} {env : PySem.Env} (h : notStar e = true) : starEach (e :: es) env = (false, eval e env) :: starEach es env := by
  cases e <;> first | rfl | cases h
theorem star_any {pos : Pos} {env : PySem.Env} : ∀ {es : List Expr}, es.all notStar = true → (backTo pos (starEach es env)).any (·.1) = false
  | [], _ => rfl
  | e :: es, h => by
    rw [List.all_cons, Bool.and_eq_true] at h
    rw [star_ok h.1]
    show (false || (backTo pos (starEach es env)).any (·.1)) = false
    rw [star_any h.2]; rfl
theorem star_all {pos : Pos} {env : PySem.Env} : ∀ {es : List Expr}, es.all notStar = true → (backTo pos (starEach es env)).all (fun x => !x.1) = true
  | [], _ => rfl
  | e :: es, h => by
    rw [List.all_cons, Bool.and_eq_true] at h
    rw [star_ok h.1]
    show (true && (backTo pos (starEach es env)).all (fun x => !x.1)) = true
    rw [star_all h.2]; rfl
theorem plainIx_ok {b : Expr} (h : notSlice b = true) : PlainIx b := fun o i => by cases b <;> first | rfl | cases h
theorem test_ok {a : Expr} {env : PySem.Env} (h : plainTest a = true) (whole : Sem Value) : isTrue a env whole = (do let v ← whole; standAt a.pos; holding [v] (truthy v)) := by
  cases a <;> first | rfl | cases h
theorem base_ok {o : Expr} {attr : Str} {env : PySem.Env} {w : Sem Value} (h : notCall o = true) : attributeBase o attr env w = w := by
  cases o <;> first | rfl | cases h
theorem set_ok {e : Expr} {env : PySem.Env} {x : Value} (h : notSet e = true) : foldedSetIterable e env x = pure x := by
  cases e <;> first | rfl | cases h
theorem swap_ok {e : Expr} {t : Option Expr} {l : Nat} {env : PySem.Env} (h : notComp e = true) : swapsWith e t l env = pure false := by
  cases e <;> first | rfl | cases h
theorem mark_ok {op : CmpOp} {b : Expr} (h : notSet b = true) : behindInMarks op b = false := by
  cases b <;> first | rfl | cases h

/-! ### the check of expressions -/
def oprC : Bop → Operator → Bool
  | .add, .Add => true | .sub, .Sub => true | .mul, .Mult => true | .fdiv, .FloorDiv => true | .mod, .Mod => true | .pow, .Pow => true
  | _, _ => false
theorem oprC_eq {a : Bop} {b : Operator} (h : oprC a b = true) : b = opr a := by cases a <;> cases b <;> first | rfl | cases h
def coprC : Cop → CmpOp → Bool
  | .eq, .Eq => true | .ne, .NotEq => true | .lt, .Lt => true | .le, .LtE => true | .gt, .Gt => true | .ge, .GtE => true | .isN, .Is => true | .notN, .IsNot => true
  | _, _ => false
theorem coprC_eq {a : Cop} {b : CmpOp} (h : coprC a b = true) : b = copr a := by cases a <;> cases b <;> first | rfl | cases h
def litC : D → Const → Bool
  | .int i, .int j => decide (i = j)
  | .bl a, .bool b => a == b
  | .non, .none => true
  | .str x, .str y => decide (x = y)
  | _, _ => false
def bfName : Bf → Str
  | .len => "len" | .abs => "abs" | .int => "int" | .tuple => "tuple" | .list => "list" | _ => "isinstance"
def mfName : Mf → Str
  | .append => "append" | .pop => "pop" | .popAt => "pop" | .reverse => "reverse"
def gkName : Gk → Str
  | .tuple => "tuple" | .all => "all" | .any => "any" | .sum => "sum"
def ownP (N : List Str) (own : List Nat) : List (Str × Nat) := own.map fun i => (N.getD i ⟨#[]⟩, i)
mutual
def chkT (N : List Str) (sc : Scope) (top : Bool) : T → Expr → Bool
  | .nm i, .Name x _ => decide (N[i]? = some x) && isLoc sc top x
  | .tup ts, .Tuple es _ _ => chkTs N sc top ts es
  | _, _ => false
def chkTs (N : List Str) (sc : Scope) (top : Bool) : List T → List Expr → Bool
  | [], [] => true
  | t :: ts, e :: es => chkT N sc top t e && chkTs N sc top ts es
  | _, _ => false
end
mutual
def tSlots : T → List Nat
  | .nm i => [i]
  | .tup ts => tsSlots ts
def tsSlots : List T → List Nat
  | [] => []
  | t :: ts => tSlots t ++ tsSlots ts
end
def genC (N : List Str) (sc scope : Scope) (own : List (Str × Nat)) : Bool :=
  blkC N sc scope own && !scope.isCoroutine && decide (scope.names.lookup (".0" : Str) = some NameKind.local) && scope.names.all (fun y => decide (y.2 ≠ .cell)) && scope.names.all (fun y => match y.2 with
    | .free => decide (sc.names.lookup y.1 = some .cell)
    | _ => true)
mutual
def chkE (N : List Str) (sc : Scope) (g : Bool) : E → Expr → Bool
  | .lit d, ex => (match ex with
    | .Constant c _ _ => litC d c
    | _ => false)
  | .var i, ex => (match ex with
    | .Name x _ => decide (N[i]? = some x) && isVis sc x
    | _ => false)
  | .glb x _, ex => (match ex with
    | .Name y _ => decide (x = y) && isGl sc x
    | _ => false)
  | .tup es, ex => (match ex with
    | .Tuple xs _ _ => chkEs N sc g es xs
    | _ => false)
  | .lst es, ex => (match ex with
    | .List xs _ => chkEs N sc g es xs
    | _ => false)
  | .bin op a b, ex => (match ex with
    | .BinOp x o y _ => oprC op o && chkE N sc g a x && chkE N sc g b y
    | _ => false)
  | .neg a, ex => (match ex with
    | .UnaryOp .USub x _ => chkE N sc g a x
    | _ => false)
  | .cmp op a b, ex => (match ex with
    | .Compare x [o] [y] _ => coprC op o && chkE N sc g a x && chkE N sc g b y && notSet y
    | _ => false)
  | .chain o1 o2 a b c, ex => (match ex with
    | .Compare x [p1, p2] [y, z] _ => coprC o1 p1 && coprC o2 p2 && chkE N sc g a x && chkE N sc g b y && chkE N sc g c z && notSet z
    | _ => false)
  | .not a, ex => (match ex with
    | .UnaryOp .Not x _ => chkE N sc g a x
    | _ => false)
  | .and a b, ex => (match ex with
    | .BoolOp .And (x :: y :: rest) pos => chkE N sc g a x && (match rest with
      | [] => chkE N sc g b y
      | _ => chkE N sc g b (.BoolOp .And (y :: rest) pos))
    | _ => false)
  | .or a b, ex => (match ex with
    | .BoolOp .Or (x :: y :: rest) pos => chkE N sc g a x && (match rest with
      | [] => chkE N sc g b y
      | _ => chkE N sc g b (.BoolOp .Or (y :: rest) pos))
    | _ => false)
  | .ite c a b, ex => (match ex with
    | .IfExp t x y _ => chkE N sc g c t && chkE N sc g a x && chkE N sc g b y
    | _ => false)
  | .idx a i, ex => (match ex with
    | .Subscript x y _ => notSlice y && chkE N sc g a x && chkE N sc g i y
    | _ => false)
  | .slc a lo hi, ex => (match ex with
    | .Subscript x (.Slice l h none _) _ => chkE N sc g a x && chkO N sc g lo l && chkO N sc g hi h
    | _ => false)
  | .call f _ es, ex => (match ex with
    | .Call (.Name y _) xs kws _ => decide (f = y) && isGl sc f && kws.isEmpty && !xs.isEmpty && chkEs N sc g es xs
    | _ => false)
  | .callK f _ ks _ es kes, ex => (match ex with
    | .Call (.Name y _) xs kws _ => decide (f = y) && isGl sc f && chkEs N sc g es xs && decide (kws.map (·.arg) = ks.map some) && chkEs N sc g kes (kws.map (·.value))
    | _ => false)
  | .bl f es, ex => (match ex with
    | .Call (.Name y _) xs kws _ => decide (bfName f = y) && isGl sc y && kws.isEmpty && (isiOf f).isNone && !xs.isEmpty && chkEs N sc g es xs
    | _ => false)
  | .isi f a, ex => (match ex with
    | .Call (.Name y _) [x, .Name z _] kws _ => decide (y = ("isinstance" : Str)) && isGl sc y && kws.isEmpty && (match isiOf f with
      | some T => decide (z = Str.ofString T) && isGl sc z
      | none => false) && notStar x && chkE N sc g a x
    | _ => false)
  | .meth m o es, ex => (match ex with
    | .Call (.Attribute x a apos) xs kws cpos => decide (mfName m = a) && kws.isEmpty && notCall x && (apos.endLine == cpos.line) && decide (xs.length < 20) && chkE N sc g o x && chkEs N sc g es xs &&
        (match m with
          | .append => !xs.isEmpty
          | .pop => xs.isEmpty
          | .popAt => false
          | .reverse => xs.isEmpty)
    | _ => false)
  | .lc elt t s test own, ex => (match ex with
    | .ListComp y [⟨tg, it, ifs, 0⟩] scope _ => chkSrc N sc g tg s it && notSet it && blkC N sc scope (ownP N own) && chkT N (relS scope sc) false t tg && (tSlots t).all (fun i => own.contains i) &&
        chkI N (relS scope sc) g test ifs && chkE N (relS scope sc) g elt y
    | _ => false)
  | .gen k elt t s test own, ex => (match ex with
    | .Call (.Name y _) [.GeneratorExp e [⟨tg, it, ifs, 0⟩] scope _] kws _ => g && decide (gkName k = y) && isGl sc y && kws.isEmpty && (match k with | .sum => false | _ => true) && chkSrc N sc true tg s it && notSet it && notList it && genC N sc scope (ownP N own) && chkT N scope false t tg && (tSlots t).all (fun i => own.contains i) &&
        chkI N scope false test ifs && chkE N scope false elt e
    | _ => false)
def chkEs (N : List Str) (sc : Scope) (g : Bool) : Es → List Expr → Bool
  | .nil, xs => xs.isEmpty
  | .cons e es, xs => (match xs with
    | x :: xs => notStar x && chkE N sc g e x && chkEs N sc g es xs
    | [] => false)
def chkO (N : List Str) (sc : Scope) (g : Bool) : Oe → Option Expr → Bool
  | .none, x => x.isNone
  | .some e, x => (match x with
    | some y => chkE N sc g e y
    | none => false)
def chkI (N : List Str) (sc : Scope) (g : Bool) : Oe → List Expr → Bool
  | .none, x => x.isEmpty
  | .some e, x => (match x with
    | [y] => chkE N sc g e y
    | _ => false)
def chkSrc (N : List Str) (sc : Scope) (g : Bool) (tg : Expr) : Src → Expr → Bool
  | .seq e, ex => chkE N sc g e ex
  | .rng es, ex => (match ex with
    | .Call (.Name y _) xs kws _ => decide (y = ("range" : Str)) && isGl sc y && kws.isEmpty && (xs.length == 1 || xs.length == 2) && chkEs N sc g es xs
    | _ => false)
  | .enm e, ex => (match ex with
    | .Call (.Name y _) [x] kws _ => decide (y = ("enumerate" : Str)) && isGl sc y && kws.isEmpty && isTupE tg && notStar x && chkE N sc g e x
    | _ => false)
  | .zip a b, ex => (match ex with
    | .Call (.Name y _) [x, z] kws _ => decide (y = ("zip" : Str)) && isGl sc y && kws.isEmpty && isTupE tg && notStar x && notStar z && chkE N sc g a x && chkE N sc g b z
    | _ => false)
end
end Calc
end
section
set_option Elab.async false
set_option linter.all false
set_option maxRecDepth 100000
set_option autoImplicit false
/-! the steps of the soundness of expressions -/
namespace Calc
open PySem PySem.Spec PyProof.Rows L2

def spF (K : PySem.W.Frag) (Tb : List Addr) (np : Nat) (F : Fn) : Sp := fun vs H Q _ => vs.length = np ∧ rnM K Tb F vs H Q

section
variable {X : Cx} {Tb : List Addr} {e e1 e2 e3 : Expr} {es : List Expr} {pos : Pos} {m m1 m2 m3 : Env → Store → Option (D × Store)} {mb : Env → Store → Option (Bool × Store)} {ms : Env → Store → Option (List D × Store)}

theorem de_lit {d : D} {c : Const} {k : Nat} (h : litC d c = true) : PE X (.Constant c k pos) (tE X.K Tb fun _ st => some (d, st)) := by
  have fin : ∀ {v : V}, (∀ μ H, RelD X.K μ H d v) → PE X (.Constant c k pos) (tC v) → PE X (.Constant c k pos) (tE X.K Tb fun _ st => some (d, st)) := fun {v} hv hp => hp.imp fun σ H Q q =>
    tM_pure (RA := RelD X.K) q fun μ env st a st' _ _ ee => by cases ee; exact ⟨rfl, hv μ H⟩
  cases d <;> cases c <;> first | (cases h; done) | skip
  · exact fin (fun _ _ => .non) pe_non
  · simp only [litC, beq_iff_eq] at h
    subst h
    exact fin (fun _ _ => .bl _) pe_bl
  · have hh := of_decide_eq_true h
    subst hh
    exact fin (fun _ _ => .int _) pe_int
  · have hh := of_decide_eq_true h
    subst hh
    exact fin (fun _ _ => .str _) pe_str

theorem de_var {i : Nat} {x : Str} (hN : X.N[i]? = some x) (hv : isVis X.env.scope x = true) : PE X (.Name x pos) (tE X.K Tb fun env st => match env[i]? with
    | some (some d) => some (d, st)
    | _ => none) := by
  unfold isVis at hv
  simp only [Bool.and_eq_true, Bool.not_eq_true'] at hv
  obtain ⟨⟨h1, h2⟩, h3⟩ := hv
  have vis : Vis X.env.scope x := by
    split at h1 <;> first | exact .inl (by assumption) | exact .inr (.inl (by assumption)) | exact .inr (.inr (by assumption)) | cases h1
  refine (pe_var hN vis h2 h3).imp fun σ H Q q => ?_
  obtain ⟨μ, env, st, d, st', sr, tb, er, ee, k⟩ := q
  dsimp only at ee
  split at ee
  · rename_i d' he
    cases ee
    obtain ⟨v, hv, r⟩ := er.at_ i _ he
    exact ⟨v, hv, k μ H v (.refl tb) sr r⟩
  · cases ee

def GV (X : Cx) (x : Str) (d : D) : Prop := ∃ u v, X.mg x = some u ∧ RelV v u ∧ ∀ μ H, RelD X.K μ H d v
theorem de_glb {x : Str} {d : D} (hg : isGl X.env.scope x = true) (h : GV X x d) : PE X (.Name x pos) (tE X.K Tb fun _ st => some (d, st)) := by
  unfold isGl at hg
  simp only [Bool.and_eq_true, Bool.not_eq_true'] at hg
  obtain ⟨u, v, hm, r, hr⟩ := h
  have hg1 : X.env.scope.names.lookup x = some .globalImplicit := of_decide_eq_true hg.1
  exact (pe_glob (show L2.Gl X x from hg1) hm r hg.2).imp fun σ H Q q => tM_pure (RA := RelD X.K) q fun μ env st a st' _ _ ee => by cases ee; exact ⟨rfl, hr μ H⟩

theorem de_tup {k : Nat} (h : PA X es (tEs X.K Tb ms)) : PE X (.Tuple es k pos) (tE X.K Tb fun env st => bnd (ms env st) fun xs st1 => if xs.length ≤ SZ then some (.tup xs, st1) else none) := by
  refine (pe_tup h).imp fun σ H Q q => ?_
  refine tM_bnd (RA := RelDs X.K) (f := fun _ xs st1 => if xs.length ≤ SZ then some (D.tup xs, st1) else none) q fun μ env st c st' a b H1 sr tb er r ee kk => ?_
  split at ee
  · rename_i hz
    cases ee
    refine ⟨by rw [← r.length, ← sz_eq]; exact hz, fun p hp => ?_⟩
    exact kk μ _ _ (.made tb hp) (sr.made hp) (.tup (.inl (.inl upd_same)) (r.mono sr (List.prefix_refl _) (Post.made (Tb := Tb) (μ := μ) tb hp).ext))
  · cases ee
theorem de_lst (h : PA X es (tEs X.K Tb ms)) : PE X (.List es pos) (tE X.K Tb fun env st => bnd (ms env st) fun xs st1 => if xs.length ≤ SZ then some (.loc st1.length, st1 ++ [.lst xs]) else none) := by
  refine (pe_lst h).imp fun σ H Q q => ?_
  refine tM_bnd (RA := RelDs X.K) (f := fun _ xs st1 => if xs.length ≤ SZ then some (D.loc st1.length, st1 ++ [.lst xs]) else none) q fun μ env st c st' a b H1 sr tb er r ee kk => ?_
  split at ee
  · rename_i hz
    cases ee
    refine ⟨by rw [← r.length, ← sz_eq]; exact hz, fun p hp => ?_⟩
    refine kk (μ ++ [p]) _ _ (.cell tb hp) (sr.cell hp r) (.loc ?_)
    rw [← sr.len, List.getElem?_append_right (Nat.le_refl _), Nat.sub_self]; rfl
  · cases ee

/-- two values, then an operation -/
theorem tM_2 {K : PySem.W.Frag} {γ δ : Type} {RC : List Addr → Hp → γ → δ → Prop} {f : D → D → Store → Option (γ × Store)} {σ : L2.St} {H : Hp} {Q : δ → Hp → Prop} {R : V → V → Hp → Prop}
    (q : tM K Tb RC (fun env st => bnd (m1 env st) fun x st1 => bnd (m2 env st1) fun y st2 => f x y st2) σ H Q)
    (w : ∀ μ st a b x y c st' H2, StR K μ H2 st → TabsR Tb H2 → RelD K μ H2 a x → RelD K μ H2 b y → f a b st = some (c, st') → (∀ μ' H' d, Post Tb μ H2 μ' H' → StR K μ' H' st' → RC μ' H' c d → Q d H') → R x y H2) :
    tE K Tb m1 σ H fun x H1 => tE K Tb m2 σ H1 fun y H2 => R x y H2 := by
  refine tM_bnd (RA := RelD K) (f := fun env x st1 => bnd (m2 env st1) fun y st2 => f x y st2) q fun μ env st c st' a x H1 sr tb er r ee kk => ?_
  obtain ⟨b, st2, e1, e2⟩ := bnd_eq ee
  exact ⟨μ, env, st, b, st2, sr, tb, er, e1, fun μ2 H2 y p2 sr2 r2 => w μ2 st2 a b x y c st' H2 sr2 p2.tab (r.mono sr p2.pre p2.ext) r2 e2 fun μ' H' d p' s' r' => kk μ' H' d (p2.trans p') s' r'⟩
theorem de_bin {op : Bop} {o : Operator} (ho : oprC op o = true) (h1 : PE X e1 (tE X.K Tb m1)) (h2 : PE X e2 (tE X.K Tb m2)) : PE X (.BinOp e1 o e2 pos) (tE X.K Tb fun env st => bnd (m1 env st) fun x st1 => bnd (m2 env st1) fun y st2 => binop op x y st2) := by
  rw [oprC_eq ho]
  refine (pe_op (op_bin (Tb := Tb) op) h1 h2).imp fun σ H Q q => ?_
  exact tM_2 q fun μ st a b x y c st' H2 sr tb ra rb ee kk => ⟨μ, st, a, b, c, st', sr, tb, ra, rb, ee, kk⟩
theorem de_neg (h : PE X e (tE X.K Tb m)) : PE X (.UnaryOp .USub e pos) (tE X.K Tb fun env st => bnd (m env st) fun x st1 => match x with
    | .int i => some (.int (-i), st1)
    | _ => none) := by
  refine (pe_un un_neg h).imp fun σ H Q q => ?_
  refine tM_bnd (RA := RelD X.K) (f := fun _ x st1 => match x with
    | .int i => some (D.int (-i), st1)
    | _ => none) q fun μ env st c st' a b H1 sr tb er r ee kk => ?_
  cases a <;> simp only at ee <;> try (first | (cases ee; done) | skip)
  cases ee; cases r
  exact ⟨_, rfl, kk μ H1 _ (.refl tb) sr (.int _)⟩
theorem de_cmp {op : Cop} {o : CmpOp} (ho : coprC op o = true) (hu : X.A.units + 64 < cLine) (h1 : PE X e1 (tE X.K Tb m1)) (h2 : PE X e2 (tE X.K Tb m2)) (hs : notSet e2 = true) : PE X (.Compare e1 [o] [e2] pos) (tE X.K Tb fun env st => bnd (m1 env st) fun x st1 => bnd (m2 env st1) fun y st2 => match cmpop op x y st2 with
    | some c => some (.bl c, st2)
    | none => none) := by
  rw [coprC_eq ho]
  refine (pe_cmpR (op_cmp (Tb := Tb) op hu) h1 h2 (mark_ok hs)).imp fun σ H Q q => ?_
  refine tM_2 q fun μ st a b x y c st' H2 sr tb ra rb ee kk => ?_
  split at ee
  · rename_i c0 hc
    cases ee
    exact ⟨μ, st, a, b, c0, sr, tb, ra, rb, hc, kk μ H2 _ (.refl tb) sr (.bl _)⟩
  · cases ee
theorem dt_cmp {op : Cop} {o : CmpOp} (ho : coprC op o = true) (hu : X.A.units + 64 < cLine) (h1 : PE X e1 (tE X.K Tb m1)) (h2 : PE X e2 (tE X.K Tb m2)) (hs : notSet e2 = true) : PT X (.Compare e1 [o] [e2] pos) (tB X.K Tb fun env st => bnd (m1 env st) fun x st1 => bnd (m2 env st1) fun y st2 => match cmpop op x y st2 with
    | some c => some (c, st2)
    | none => none) := by
  rw [coprC_eq ho]
  refine (pt_cmpR (op_cmp (Tb := Tb) op hu) h1 h2 (mark_ok hs)).imp fun σ H Q q => ?_
  refine tM_2 q fun μ st a b x y c st' H2 sr tb ra rb ee kk => ?_
  split at ee
  · rename_i c0 hc
    cases ee
    exact ⟨μ, st, a, b, _, sr, tb, ra, rb, hc, _, rfl, kk μ H2 _ (.refl tb) sr rfl⟩
  · cases ee
theorem chain_core {K : PySem.W.Frag} {op op' : Cop} {γ : Type} {g : Bool → γ} {δ : Type} {RC : List Addr → Hp → γ → δ → Prop} {σ : L2.St} {H : Hp} {Q : δ → Hp → Prop} {R : V → Hp → Prop}
    (q : tM K Tb RC (fun env st => bnd (m1 env st) fun x st1 => bnd (m2 env st1) fun y st2 => match cmpop op x y st2 with
      | some true => bnd (m3 env st2) fun z st3 => (match cmpop op' y z st3 with
        | some k => some (g k, st3)
        | none => none)
      | some false => some (g false, st2)
      | none => none) σ H Q)
    (hR : ∀ μ st k H3, StR K μ H3 st → TabsR Tb H3 → (∀ d, RC μ H3 (g k) d → Q d H3) → R (.bl k) H3) :
    tChain (rbM K Tb (cmpop op)) (rbM K Tb (cmpop op')) (tE K Tb m1) (tE K Tb m2) (tE K Tb m3) σ H R := by
  refine tM_bnd (RA := RelD K) (f := fun env x st1 => bnd (m2 env st1) fun y st2 => match cmpop op x y st2 with
      | some true => bnd (m3 env st2) fun z st3 => (match cmpop op' y z st3 with
        | some k => some (g k, st3)
        | none => none)
      | some false => some (g false, st2)
      | none => none) q fun μ env st c st' a x H1 sr tb er r ee kk => ?_
  obtain ⟨b, st2, e1, e2⟩ := bnd_eq ee
  refine ⟨μ, env, st, b, st2, sr, tb, er, e1, fun μ2 H2 y p2 sr2 r2 => ?_⟩
  have ra2 := r.mono sr p2.pre p2.ext
  split at e2
  · rename_i hc
    refine ⟨μ2, st2, a, b, true, sr2, p2.tab, ra2, r2, hc, true, rfl, ?_⟩
    rw [if_pos rfl]
    obtain ⟨z, st3, e3, e4⟩ := bnd_eq e2
    refine ⟨μ2, env, st2, z, st3, sr2, p2.tab, er.mono sr p2.pre p2.ext, e3, fun μ3 H3 w p3 sr3 r3 => ?_⟩
    split at e4
    · rename_i k hk
      cases e4
      refine ⟨μ3, _, b, z, k, sr3, p3.tab, r2.mono sr2 p3.pre p3.ext, r3, hk, ?_⟩
      exact hR μ3 _ k H3 sr3 p3.tab fun d rd => kk μ3 H3 d (p2.trans p3) sr3 rd
    · cases e4
  · rename_i hc
    cases e2
    refine ⟨μ2, _, a, b, false, sr2, p2.tab, ra2, r2, hc, false, rfl, ?_⟩
    rw [if_neg Bool.false_ne_true]
    exact hR μ2 _ false H2 sr2 p2.tab fun d rd => kk μ2 H2 d p2 sr2 rd
  · cases e2
theorem marks_ok {o1 o2 : CmpOp} (hs : notSet e3 = true) : lastMarks [o1, o2] [e2, e3] = false := mark_ok hs
theorem de_chain {op op' : Cop} {o o' : CmpOp} (ho : coprC op o = true) (ho' : coprC op' o' = true) (hu : X.A.units + 64 < cLine) (h1 : PE X e1 (tE X.K Tb m1)) (h2 : PE X e2 (tE X.K Tb m2)) (h3 : PE X e3 (tE X.K Tb m3)) (hs : notSet e3 = true) :
    PE X (.Compare e1 [o, o'] [e2, e3] pos) (tE X.K Tb fun env st => bnd (m1 env st) fun x st1 => bnd (m2 env st1) fun y st2 => match cmpop op x y st2 with
      | some true => bnd (m3 env st2) fun z st3 => (match cmpop op' y z st3 with
        | some k => some (.bl k, st3)
        | none => none)
      | some false => some (.bl false, st2)
      | none => none) := by
  rw [coprC_eq ho, coprC_eq ho']
  refine (pe_chain (op_cmp (Tb := Tb) op hu) (op_cmp (Tb := Tb) op' hu) h1 h2 h3 (marks_ok hs)).imp fun σ H Q q => ?_
  exact chain_core (g := D.bl) (RC := RelD X.K) q fun μ st k H3 sr tb hq => hq _ (.bl k)
theorem dt_chain {op op' : Cop} {o o' : CmpOp} (ho : coprC op o = true) (ho' : coprC op' o' = true) (hu : X.A.units + 64 < cLine) (h1 : PE X e1 (tE X.K Tb m1)) (h2 : PE X e2 (tE X.K Tb m2)) (h3 : PE X e3 (tE X.K Tb m3)) (hs : notSet e3 = true) :
    PT X (.Compare e1 [o, o'] [e2, e3] pos) (tB X.K Tb fun env st => bnd (m1 env st) fun x st1 => bnd (m2 env st1) fun y st2 => match cmpop op x y st2 with
      | some true => bnd (m3 env st2) fun z st3 => (match cmpop op' y z st3 with
        | some k => some (k, st3)
        | none => none)
      | some false => some (false, st2)
      | none => none) := by
  rw [coprC_eq ho, coprC_eq ho']
  refine (pt_chain (op_cmp (Tb := Tb) op hu) (op_cmp (Tb := Tb) op' hu) h1 h2 h3 (marks_ok hs)).imp fun σ H Q q => ?_
  exact chain_core (g := fun k => k) (RC := fun _ _ a b => a = b) q fun μ st k H3 sr tb hq => ⟨k, rfl, hq _ rfl⟩

/-! ### truth values -/
theorem de_not (h : PE X e (tE X.K Tb m)) : PE X (.UnaryOp .Not e pos) (tE X.K Tb fun env st => bnd (m env st) fun x st1 => match x with
    | .bl b => some (.bl (!b), st1)
    | _ => none) := by
  refine (pe_not h).imp fun σ H Q q => ?_
  refine tM_bnd (RA := RelD X.K) (f := fun _ x st1 => match x with
    | .bl b => some (D.bl (!b), st1)
    | _ => none) q fun μ env st c st' a b H1 sr tb er r ee kk => ?_
  cases a <;> simp only at ee <;> try (first | (cases ee; done) | skip)
  cases ee; cases r
  exact ⟨_, rfl, kk μ H1 _ (.refl tb) sr (.bl _)⟩
theorem de_and {rest : List Expr} (h1 : PE X e1 (tE X.K Tb m1)) (h2 : PE X (.BoolOp .And (e2 :: rest) pos) (tE X.K Tb m2)) : PE X (.BoolOp .And (e1 :: e2 :: rest) pos) (tE X.K Tb fun env st => bnd (m1 env st) fun x st1 => match x with
    | .bl true => m2 env st1
    | .bl false => some (.bl false, st1)
    | _ => none) := by
  refine (pe_and h1 h2).imp fun σ H Q q => ?_
  refine tM_bnd (RA := RelD X.K) (f := fun env x st1 => match x with
    | .bl true => m2 env st1
    | .bl false => some (D.bl false, st1)
    | _ => none) q fun μ env st c st' a b H1 sr tb er r ee kk => ?_
  cases a with
  | bl z =>
    cases r
    refine ⟨z, rfl, ?_⟩
    cases z with
    | true => rw [if_pos rfl]; exact ⟨μ, env, st, c, st', sr, tb, er, ee, kk⟩
    | false => rw [if_neg Bool.false_ne_true]; cases ee; exact kk μ H1 _ (.refl tb) sr (.bl _)
  | _ => cases ee
theorem de_or {rest : List Expr} (h1 : PE X e1 (tE X.K Tb m1)) (h2 : PE X (.BoolOp .Or (e2 :: rest) pos) (tE X.K Tb m2)) : PE X (.BoolOp .Or (e1 :: e2 :: rest) pos) (tE X.K Tb fun env st => bnd (m1 env st) fun x st1 => match x with
    | .bl true => some (.bl true, st1)
    | .bl false => m2 env st1
    | _ => none) := by
  refine (pe_or h1 h2).imp fun σ H Q q => ?_
  refine tM_bnd (RA := RelD X.K) (f := fun env x st1 => match x with
    | .bl true => some (D.bl true, st1)
    | .bl false => m2 env st1
    | _ => none) q fun μ env st c st' a b H1 sr tb er r ee kk => ?_
  cases a with
  | bl z =>
    cases r
    refine ⟨z, rfl, ?_⟩
    cases z with
    | true => rw [if_pos rfl]; cases ee; exact kk μ H1 _ (.refl tb) sr (.bl _)
    | false => rw [if_neg Bool.false_ne_true]; exact ⟨μ, env, st, c, st', sr, tb, er, ee, kk⟩
  | _ => cases ee
theorem de_ite (hc : PT X e (tB X.K Tb mb)) (h1 : PE X e1 (tE X.K Tb m1)) (h2 : PE X e2 (tE X.K Tb m2)) : PE X (.IfExp e e1 e2 pos) (tE X.K Tb fun env st => bnd (mb env st) fun k st1 => if k = true then m1 env st1 else m2 env st1) := by
  refine (pe_ifExp hc h1 h2).imp fun σ H Q q => ?_
  refine tM_bnd (RA := fun _ _ a b => a = b) (f := fun env k st1 => if k = true then m1 env st1 else m2 env st1) q fun μ env st c st' a b H1 sr tb er r ee kk => ?_
  subst r
  cases a with
  | true => rw [if_pos rfl] at ee ⊢; exact ⟨μ, env, st, c, st', sr, tb, er, ee, kk⟩
  | false => rw [if_neg Bool.false_ne_true] at ee ⊢; exact ⟨μ, env, st, c, st', sr, tb, er, ee, kk⟩
theorem dt_not (h : PT X e (tB X.K Tb mb)) : PT X (.UnaryOp .Not e pos) (tB X.K Tb fun env st => bnd (mb env st) fun b st1 => some (!b, st1)) := by
  refine (pt_not h).imp fun σ H Q q => ?_
  refine tM_bnd (RA := fun _ _ a b => a = b) (f := fun _ b st1 => some (!b, st1)) q fun μ env st c st' a b H1 sr tb er r ee kk => ?_
  subst r; cases ee
  exact kk μ H1 _ (.refl tb) sr rfl
variable {mb1 mb2 : Env → Store → Option (Bool × Store)}
theorem dt_and {rest : List Expr} (h1 : PT X e1 (tB X.K Tb mb1)) (h2 : PW X (.BoolOp .And (e2 :: rest) pos) (tB X.K Tb mb2)) : PW X (.BoolOp .And (e1 :: e2 :: rest) pos) (tB X.K Tb fun env st => bnd (mb1 env st) fun c st1 => if c = true then mb2 env st1 else some (false, st1)) := by
  refine (pw_and h1 h2).imp fun σ H Q q => ?_
  refine tM_bnd (RA := fun _ _ a b => a = b) (f := fun env c st1 => if c = true then mb2 env st1 else some (false, st1)) q fun μ env st c st' a b H1 sr tb er r ee kk => ?_
  subst r
  cases a with
  | true => rw [if_pos rfl] at ee ⊢; exact ⟨μ, env, st, c, st', sr, tb, er, ee, kk⟩
  | false => rw [if_neg Bool.false_ne_true] at ee ⊢; cases ee; exact kk μ H1 _ (.refl tb) sr rfl
theorem dt_or {rest : List Expr} (h1 : PT X e1 (tB X.K Tb mb1)) (h2 : PW X (.BoolOp .Or (e2 :: rest) pos) (tB X.K Tb mb2)) : PW X (.BoolOp .Or (e1 :: e2 :: rest) pos) (tB X.K Tb fun env st => bnd (mb1 env st) fun c st1 => if c = true then some (true, st1) else mb2 env st1) := by
  refine (pw_or h1 h2).imp fun σ H Q q => ?_
  refine tM_bnd (RA := fun _ _ a b => a = b) (f := fun env c st1 => if c = true then some (true, st1) else mb2 env st1) q fun μ env st c st' a b H1 sr tb er r ee kk => ?_
  subst r
  cases a with
  | true => rw [if_pos rfl] at ee ⊢; cases ee; exact kk μ H1 _ (.refl tb) sr rfl
  | false => rw [if_neg Bool.false_ne_true] at ee ⊢; exact ⟨μ, env, st, c, st', sr, tb, er, ee, kk⟩
theorem dt_tru (h : PE X e (tE X.K Tb m)) (hp : plainTest e = true) : PT X e (tB X.K Tb fun env st => asTr (m env st)) := by
  refine (pt_truth h (test_ok hp)).imp fun σ H Q q => ?_
  refine tM_bnd (RA := RelD X.K) (f := fun _ x st1 => match truth x st1 with
    | some b => some (b, st1)
    | none => none) q fun μ env st c st' a b H1 sr tb er r ee kk => ?_
  split at ee
  · rename_i c0 hc
    cases ee
    exact ⟨_, tru_rel sr r hc, kk μ H1 _ (.refl tb) sr rfl⟩
  · cases ee

/-! ### items, slices, calls -/
theorem de_idx (h1 : PE X e1 (tE X.K Tb m1)) (h2 : PE X e2 (tE X.K Tb m2)) (hs : notSlice e2 = true) : PE X (.Subscript e1 e2 pos) (tE X.K Tb fun env st => bnd (m1 env st) fun x st1 => bnd (m2 env st1) fun y st2 => match index x y st2 with
    | some d => some (d, st2)
    | none => none) := by
  refine (pe_ix (ix_rel (Tb := Tb)) h1 h2 (plainIx_ok hs)).imp fun σ H Q q => ?_
  refine tM_2 q fun μ st a b x y c st' H2 sr tb ra rb ee kk => ?_
  split at ee
  · rename_i d hd
    cases ee
    exact ⟨μ, st, a, b, _, sr, tb, ra, rb, hd, fun v rv => kk μ H2 v (.refl tb) sr rv⟩
  · cases ee
def tOI (K : PySem.W.Frag) (Tb : List Addr) (mo : Env → Store → Option (Option Int × Store)) : TO := tM K Tb (fun _ _ a b => a = b) mo
theorem do_none : PO X none (tOI X.K Tb fun _ st => some (none, st)) := ⟨fun pins s σ H Q I q => po_none.run pins s σ H Q I (tM_pure (RA := fun _ _ a b => a = b) q fun μ env st a st' _ _ ee => by cases ee; exact ⟨rfl, rfl⟩)⟩
theorem do_some (h : PE X e (tE X.K Tb m)) : PO X (some e) (tOI X.K Tb fun env st => bnd (m env st) fun x st1 => match x with
    | .int i => some (some i, st1)
    | _ => none) := by
  refine ⟨fun pins s σ H Q I q => (po_some h).run pins s σ H Q I ?_⟩
  refine tM_bnd (RA := RelD X.K) (f := fun _ x st1 => match x with
    | .int i => some (some i, st1)
    | _ => none) q fun μ env st c st' a b H1 sr tb er r ee kk => ?_
  cases a <;> simp only at ee <;> try (first | (cases ee; done) | skip)
  cases ee; cases r
  exact ⟨_, rfl, kk μ H1 _ (.refl tb) sr rfl⟩
theorem de_slc {lo hi : Option Expr} {p2 : Pos} {ml mh : Env → Store → Option (Option Int × Store)} (h : PE X e (tE X.K Tb m)) (hl : PO X lo (tOI X.K Tb ml)) (hh : PO X hi (tOI X.K Tb mh)) : PE X (.Subscript e (.Slice lo hi none p2) pos) (tE X.K Tb fun env st =>
    bnd (m env st) fun x st1 => bnd (ml env st1) fun l st2 => bnd (mh env st2) fun h st3 => slice x l h st3) := by
  refine (pe_slice (sl_rel (Tb := Tb)) h hl hh).imp fun σ H Q q => ?_
  refine tM_bnd (RA := RelD X.K) (f := fun env x st1 => bnd (ml env st1) fun l st2 => bnd (mh env st2) fun h st3 => slice x l h st3) q fun μ env st c st' a x H1 sr tb er r ee kk => ?_
  obtain ⟨l, st2, e1, e2⟩ := bnd_eq ee
  refine ⟨μ, env, st, l, st2, sr, tb, er, e1, fun μ2 H2 y p2 sr2 r2 => ?_⟩
  subst r2
  obtain ⟨h', st3, e3, e4⟩ := bnd_eq e2
  refine ⟨μ2, env, st2, h', st3, sr2, p2.tab, er.mono sr p2.pre p2.ext, e3, fun μ3 H3 y p3 sr3 r3 => ?_⟩
  subst r3
  exact ⟨μ3, st3, a, c, st', sr3, p3.tab, (r.mono sr p2.pre p2.ext).mono sr2 p3.pre p3.ext, e4, fun μ' H' v p' s' r' => kk μ' H' v ((p2.trans p3).trans p') s' r'⟩
theorem da_nil : PA X [] (tEs X.K Tb fun _ st => some ([], st)) := pa_nil.imp fun σ H Q q => tM_pure (RA := RelDs X.K) q fun μ env st a st' _ _ ee => by cases ee; exact ⟨rfl, .nil⟩
theorem da_cons (h : PE X e (tE X.K Tb m)) (hr : PA X es (tEs X.K Tb ms)) (hs : notStar e = true) : PA X (e :: es) (tEs X.K Tb fun env st => bnd (m env st) fun x st1 => bnd (ms env st1) fun xs st2 => some (x :: xs, st2)) := by
  refine (pa_cons h hr (star_ok hs)).imp fun σ H Q q => ?_
  refine tM_bnd (RA := RelD X.K) (f := fun env x st1 => bnd (ms env st1) fun xs st2 => some (x :: xs, st2)) q fun μ env st c st' a x H1 sr tb er r ee kk => ?_
  obtain ⟨b, st2, e1, e2⟩ := bnd_eq ee
  cases e2
  exact ⟨μ, env, st, b, _, sr, tb, er, e1, fun μ2 H2 y p2 sr2 r2 => kk μ2 H2 _ p2 sr2 (.cons (r.mono sr p2.pre p2.ext) r2)⟩

theorem pa_any (h : PA X es (tEs X.K Tb ms)) : True := trivial
def GF (X : Cx) (Tb : List Addr) (lv : Nat) (x : Str) (F : Fn) : Prop := ∃ f fd ps k, k ≤ lv ∧ X.mg x = some (.ref f) ∧ PySem.W.keepIn X.K (.ref f) = true ∧ Binds X.K fd ps [] ∧ (∀ as st r, F as st = some r → as.length = ps.length) ∧
  FnOk X.prog X.w X.K X.mg X.base CX0 k f fd ps (spF X.K Tb ps.length F)
theorem gl_of {sc : Scope} {x : Str} (hg : isGl sc x = true) (hs : X.env.scope = sc) : Gl X x ∧ (x == ("__debug__" : Str)) = false := by
  unfold isGl at hg
  simp only [Bool.and_eq_true, Bool.not_eq_true'] at hg
  exact ⟨show X.env.scope.names.lookup x = _ by rw [hs]; exact of_decide_eq_true hg.1, hg.2⟩
theorem tM_call {K : PySem.W.Frag} {F : Fn} {R : List V → Hp → VK → Prop} {σ : L2.St} {H : Hp} {Q : VK} (q : tE K Tb (fun env st => bnd (ms env st) fun xs st1 => F xs st1) σ H Q)
    (w : ∀ vs H1, (∃ as st r, F as st = some r ∧ as.length = vs.length) → rnM K Tb F vs H1 Q → R vs H1 Q) : tEs K Tb ms σ H fun vs H1 => R vs H1 Q := by
  refine tM_bnd (RA := RelDs K) (f := fun _ xs st1 => F xs st1) q fun μ env st c st' a b H1 sr tb er r ee kk => ?_
  exact w b H1 ⟨a, st, _, ee, r.length⟩ ⟨μ, st, a, c, st', sr, tb, r, ee, kk⟩
theorem de_call {x : Str} {F : Fn} {lv : Nat} {p : Pos} (hr : Room lv X.A) (hg : isGl X.env.scope x = true) (h : GF X Tb lv x F) (ha : PA X es (tEs X.K Tb ms)) (hs : es.all notStar = true) (hne : es ≠ []) :
    PE X (.Call (.Name x p) es [] pos) (tE X.K Tb fun env st => bnd (ms env st) fun xs st1 => F xs st1) := by
  obtain ⟨g1, g2⟩ := gl_of hg rfl
  obtain ⟨f, fd, ps, k, hk, hm, hkp, hb, hlen, FO⟩ := h
  have key : ∀ σ H Q, tE X.K Tb (fun env st => bnd (ms env st) fun xs st1 => F xs st1) σ H Q → tCall (spF X.K Tb ps.length F) [] E0 (tEs X.K Tb ms) σ H Q := fun σ H Q q => by
    refine tM_call (R := fun vs H1 Q => spF X.K Tb ps.length F (vs ++ []) H1 Q E0) q fun vs H1 ⟨as, st, r, e1, e2⟩ hr => ?_
    rw [List.append_nil]
    exact ⟨by rw [← e2]; exact hlen as st r e1, hr⟩
  cases es with
  | nil => exact absurd rfl hne
  | cons e es =>
    rw [List.all_cons, Bool.and_eq_true] at hs
    exact (pe_call FO (hr.mono hk) g1 hm hkp hb .nil pass0 ha g2 (star_ok hs.1) (star_any hs.2)).imp key
end
end Calc
end
section
set_option Elab.async false
set_option linter.all false
set_option maxRecDepth 100000
set_option autoImplicit false
/-! built-ins by name, methods, keyword calls, targets, what is walked -/
namespace Calc
open PySem PySem.Spec PyProof.Rows L2

section
variable {X : Cx} {Tb : List Addr} {e e1 e2 e3 : Expr} {es : List Expr} {pos : Pos} {m m1 m2 m3 : Env → Store → Option (D × Store)} {mb : Env → Store → Option (Bool × Store)} {ms : Env → Store → Option (List D × Store)}

/-! ### built-ins -/
theorem de_blB {f : Bf} {id : String} {x : Str} {p : Pos} (hc : CallR X (.builtin id) (rnM X.K Tb (bltn f))) (hv : bootBuiltins x = some (.builtin id)) (hm : X.mg x = none) (hn : x ≠ "__name__") (hg : isGl X.env.scope x = true) (ha : PA X es (tEs X.K Tb ms)) (hs : es.all notStar = true) (hne : es ≠ []) :
    PE X (.Call (.Name x p) es [] pos) (tE X.K Tb fun env st => bnd (ms env st) fun xs st1 => bltn f xs st1) := by
  obtain ⟨g1, g2⟩ := gl_of hg rfl
  cases es with
  | nil => exact absurd rfl hne
  | cons e es =>
    rw [List.all_cons, Bool.and_eq_true] at hs
    exact (pe_callB hc g1 hm hv ha hn g2 (star_ok hs.1) (star_any hs.2)).imp fun σ H Q q => tM_call (F := bltn f) (R := fun vs H1 Q => rnM X.K Tb (bltn f) vs H1 Q) q fun vs H1 _ hr => hr
theorem de_blT {f : Bf} {T : String} {x : Str} {p : Pos} (hc : CallR X (.type T) (rnM X.K Tb (bltn f))) (hv : bootBuiltins x = some (.type T)) (hm : X.mg x = none) (hn : x ≠ "__name__") (hg : isGl X.env.scope x = true) (ha : PA X es (tEs X.K Tb ms)) (hs : es.all notStar = true) (hne : es ≠ []) :
    PE X (.Call (.Name x p) es [] pos) (tE X.K Tb fun env st => bnd (ms env st) fun xs st1 => bltn f xs st1) := by
  obtain ⟨g1, g2⟩ := gl_of hg rfl
  cases es with
  | nil => exact absurd rfl hne
  | cons e es =>
    rw [List.all_cons, Bool.and_eq_true] at hs
    exact (pe_callTy hc g1 hm hv ha hn g2 (star_ok hs.1) (star_any hs.2)).imp fun σ H Q q => tM_call (F := bltn f) (R := fun vs H1 Q => rnM X.K Tb (bltn f) vs H1 Q) q fun vs H1 _ hr => hr
theorem boots : bootBuiltins "len" = some (.builtin "len") ∧ bootBuiltins "abs" = some (.builtin "abs") ∧ bootBuiltins "int" = some (.type "int") ∧ bootBuiltins "tuple" = some (.type "tuple") ∧ bootBuiltins "list" = some (.type "list") ∧
    bootBuiltins "isinstance" = some (.builtin "isinstance") ∧ bootBuiltins "bool" = some (.type "bool") ∧ bootBuiltins "str" = some (.type "str") ∧ bootBuiltins "all" = some (.builtin "all") ∧ bootBuiltins "any" = some (.builtin "any") ∧ bootBuiltins "sum" = some (.builtin "sum") := by decide +kernel
theorem isi_boot {f : Bf} {T : String} (h : isiOf f = some T) : bootBuiltins (Str.ofString T) = some (.type T) ∧ (Str.ofString T) ≠ ("__name__" : Str) := by
  obtain ⟨_, _, b1, b2, _, _, b3, b4, _⟩ := boots
  cases f <;> cases h
  · exact ⟨b1, by decide⟩
  · exact ⟨b3, by decide⟩
  · exact ⟨b4, by decide⟩
  · exact ⟨b2, by decide⟩
/-- isinstance(e, T) -/
theorem de_isi {f : Bf} {T : String} {p p2 : Pos} (hf : isiOf f = some T) (hm : X.mg "isinstance" = none) (hm2 : X.mg (Str.ofString T) = none) (hg : isGl X.env.scope "isinstance" = true) (hg2 : isGl X.env.scope (Str.ofString T) = true) (h : PE X e (tE X.K Tb m)) (hs : notStar e = true) :
    PE X (.Call (.Name "isinstance" p) [e, .Name (Str.ofString T) p2] [] pos) (tE X.K Tb fun env st => bnd (m env st) fun x st1 => bltn f [x] st1) := by
  obtain ⟨g1, g2⟩ := gl_of hg rfl
  obtain ⟨g3, g4⟩ := gl_of hg2 rfl
  obtain ⟨b1, b2⟩ := isi_boot hf
  obtain ⟨_, _, _, _, _, b6, _⟩ := boots
  have hN : PE X (.Name (Str.ofString T) p2) (tC (.ty T)) := pe_bltn (v := .ty T) g3 hm2 b1 rfl b2 g4
  refine (pe_callB (bl_isi (Tb := Tb) hf) g1 hm b6 (pa_cons h (pa_cons hN pa_nil) (star_ok hs)) (by decide) g2 (star_ok hs) rfl).imp fun σ H Q q => ?_
  refine tM_bnd (RA := RelD X.K) (f := fun _ x st1 => bltn f [x] st1) q fun μ env st c st' a b H1 sr tb er r ee kk => ?_
  exact ⟨b, rfl, μ, st, [a], c, st', sr, tb, .cons r .nil, ee, kk⟩

/-! ### methods of lists -/
theorem loc_ty {K : PySem.W.Frag} {μ : List Addr} {H : Hp} {st st2 : Store} {mf : Mf} {d : D} {v : V} {xs : List D} {r : D × Store} (s : StR K μ H st) (rd : RelD K μ H d v) (e : meth mf d xs st2 = some r) : tyV K "list" v H := by
  cases rd with
  | loc h =>
    obtain ⟨zs, hz⟩ := s.mem (List.mem_of_getElem? h)
    exact .inl ⟨rfl, zs, .of hz⟩
  | _ => cases mf <;> simp [meth] at e
theorem de_mt {mf : Mf} {name : Str} {id : String} {apos cpos : Pos} (slot : Slot "list" name id) (hty : typeOf (.builtin id) = pure (.type "method_descriptor")) (hm : MtR X id (rmM X.K Tb (meth mf)))
    (ho : PE X e (tE X.K Tb m)) (ha : PA X es (tEs X.K Tb ms)) (hc : notCall e = true) (hl : (apos.endLine == cpos.line) = true) (hs : es.all notStar = true) (hn : es.length < 20) (hne : es ≠ []) :
    PE X (.Call (.Attribute e name apos) es [] cpos) (tE X.K Tb fun env st => bnd (m env st) fun x st1 => bnd (ms env st1) fun xs st2 => meth mf x xs st2) := by
  cases es with
  | nil => exact absurd rfl hne
  | cons a es =>
    rw [List.all_cons, Bool.and_eq_true] at hs
    have hall : (a :: es).all notStar = true := by rw [List.all_cons, hs.1, hs.2]; rfl
    refine (pe_bm PySem.F.plainAttrs_list slot hty hm ho ha (base_ok hc) (by
      rw [star_all hall]
      show (true && (backToKw cpos (keywordEach [] X.env)).all (fun x => x.1.isSome) && _) = true
      have : (backToKw cpos (keywordEach [] X.env)).all (fun x => x.1.isSome) = true := rfl
      rw [this]
      simp only [Bool.true_and, decide_eq_true_eq, List.length_nil, List.isEmpty_nil, if_true]
      omega) hl (star_ok hs.1) (star_any hs.2)).imp fun σ H Q q => ?_
    refine tM_bnd (RA := RelD X.K) (f := fun env x st1 => bnd (ms env st1) fun xs st2 => meth mf x xs st2) q fun μ env st c st' d v H1 sr tb er r ee kk => ?_
    obtain ⟨xs, st2, e1, e2⟩ := bnd_eq ee
    refine ⟨loc_ty sr r e2, μ, env, st, xs, st2, sr, tb, er, e1, fun μ2 H2 ys p2 sr2 r2 => ?_⟩
    exact ⟨μ2, st2, d, xs, c, st', sr2, p2.tab, r.mono sr p2.pre p2.ext, r2, e2, fun μ' H' v p' s' r' => kk μ' H' v (p2.trans p') s' r'⟩
theorem de_mt0 {mf : Mf} {name : Str} {id : String} {apos cpos : Pos} (slot : Slot "list" name id) (hty : typeOf (.builtin id) = pure (.type "method_descriptor")) (hm : MtR X id (fun x xs H Q => xs = [] ∧ rmM X.K Tb (meth mf) x xs H Q))
    (ho : PE X e (tE X.K Tb m)) (hms : ∀ env st, ms env st = some ([], st)) (hc : notCall e = true) (hl : (apos.endLine == cpos.line) = true) :
    PE X (.Call (.Attribute e name apos) [] [] cpos) (tE X.K Tb fun env st => bnd (m env st) fun x st1 => bnd (ms env st1) fun xs st2 => meth mf x xs st2) := by
  refine (pe_bm0 PySem.F.plainAttrs_list slot hty hm ho (base_ok hc) hl).imp fun σ H Q q => ?_
  refine tM_bnd (RA := RelD X.K) (f := fun env x st1 => bnd (ms env st1) fun xs st2 => meth mf x xs st2) q fun μ env st c st' d v H1 sr tb er r ee kk => ?_
  rw [hms] at ee
  exact ⟨loc_ty sr r ee, rfl, μ, st, d, [], c, st', sr, tb, r, .nil, ee, kk⟩

/-! ### calls with keywords -/
def dk_all {m : Env → Store → Option (List D × Store)} : True := trivial
theorem dk_nil : PK X [] (tEs X.K Tb fun _ st => some ([], st)) := ⟨fun pos pins s σ H Q I q => pk_nil.run pos pins s σ H Q I (tM_pure (RA := RelDs X.K) q fun μ env st a st' _ _ ee => by cases ee; exact ⟨rfl, .nil⟩)⟩
theorem dk_cons {nm : Option Str} {kpos : Pos} {kws : List Keyword} (h : PE X e (tE X.K Tb m)) (hr : PK X kws (tEs X.K Tb ms)) : PK X (⟨nm, e, kpos⟩ :: kws) (tEs X.K Tb fun env st => bnd (m env st) fun x st1 => bnd (ms env st1) fun xs st2 => some (x :: xs, st2)) := by
  refine ⟨fun pos pins s σ H Q I q => (pk_cons h hr).run pos pins s σ H Q I ?_⟩
  refine tM_bnd (RA := RelD X.K) (f := fun env x st1 => bnd (ms env st1) fun xs st2 => some (x :: xs, st2)) q fun μ env st c st' a x H1 sr tb er r ee kk => ?_
  obtain ⟨b, st2, e1, e2⟩ := bnd_eq ee
  cases e2
  exact ⟨μ, env, st, b, _, sr, tb, er, e1, fun μ2 H2 y p2 sr2 r2 => kk μ2 H2 _ p2 sr2 (.cons (r.mono sr p2.pre p2.ext) r2)⟩
def GK (X : Cx) (Tb : List Addr) (lv : Nat) (x : Str) (F : Fn) (n : Nat) (ks : List Str) (perm : List Nat) : Prop := ∃ f fd ps k, k ≤ lv ∧ X.mg x = some (.ref f) ∧ PySem.W.keepIn X.K (.ref f) = true ∧
  (∀ (s : Shared) (us ws : List Value), X.K.In s.heap → us.length = n → ws.length = ks.length → BindsTo s fd ⟨us, ks.zip ws⟩ (ps.zip (permut perm (us ++ ws)))) ∧ (∀ as st r, F as st = some r → as.length = ps.length) ∧
  FnOk X.prog X.w X.K X.mg X.base CX0 k f fd ps (spF X.K Tb ps.length F)
theorem Vals.permut {vs : List V} {us : List Value} (r : Vals vs us) : ∀ perm : List Nat, Vals (permut perm vs) (permut perm us)
  | [] => .nil
  | i :: perm => by
    have ih := Vals.permut r perm
    unfold Calc.permut at ih ⊢
    rw [List.filterMap_cons, List.filterMap_cons]
    cases e : vs[i]? with
    | none => rw [r.none_of e]; exact ih
    | some x =>
      obtain ⟨u, h1, h2⟩ := r.get e
      rw [h1]; exact .cons h2 ih
theorem RelDs.permut {K : PySem.W.Frag} {μ : List Addr} {H : Hp} {as : List D} {vs : List V} (r : RelDs K μ H as vs) : ∀ perm : List Nat, RelDs K μ H (permut perm as) (permut perm vs)
  | [] => .nil
  | i :: perm => by
    have ih := RelDs.permut r perm
    unfold Calc.permut at ih ⊢
    rw [List.filterMap_cons, List.filterMap_cons]
    cases e : as[i]? with
    | none =>
      have e2 : vs[i]? = none := by rw [List.getElem?_eq_none_iff] at e ⊢; rw [← r.length]; exact e
      rw [e2]; exact ih
    | some x =>
      obtain ⟨u, h1, h2⟩ := r.get e
      rw [h1]; exact .cons h2 ih
theorem kw_all {kws : List Keyword} {env : PySem.Env} {ks : List Str} (h : kws.map (·.arg) = ks.map some) : (backToKw pos (keywordEach kws env)).all (·.1.isSome) = true ∧ (backToKw pos (keywordEach kws env)).filterMap (·.1) = ks ∧ (backToKw pos (keywordEach kws env)).any (·.1.isNone) = false := by
  induction kws generalizing ks with
  | nil =>
    cases ks with
    | nil => exact ⟨rfl, rfl, rfl⟩
    | cons _ _ => cases h
  | cons kw kws ih =>
    cases ks with
    | nil => cases h
    | cons k ks =>
      obtain ⟨nm, v, kp⟩ := kw
      rw [List.map_cons, List.map_cons] at h
      injection h with h1 h2
      have h1' : nm = some k := h1
      subst h1'
      obtain ⟨i1, i2, i3⟩ := ih h2
      have e : backToKw pos (keywordEach (⟨some k, v, kp⟩ :: kws) env) = (some k, (do let x ← eval v env; standAt pos; pure x)) :: backToKw pos (keywordEach kws env) := rfl
      rw [e]
      refine ⟨?_, ?_, ?_⟩
      · rw [List.all_cons, i1]; rfl
      · rw [List.filterMap_cons]; simp only; rw [i2]
      · rw [List.any_cons, i3]; rfl
theorem de_callK {x : Str} {F : Fn} {lv : Nat} {p : Pos} {ks : List Str} {perm : List Nat} {kws : List Keyword} {mk : Env → Store → Option (List D × Store)} (hr : Room lv X.A) (hg : isGl X.env.scope x = true) (h : GK X Tb lv x F es.length ks perm) (ha : PA X es (tEs X.K Tb ms)) (hk : PK X kws (tEs X.K Tb mk))
    (hs : es.all notStar = true) (hks : kws.map (·.arg) = ks.map some) (hms : es = [] → ∀ env st, ms env st = some ([], st)) (hl : ∀ env st xs st', ms env st = some (xs, st') → xs.length = es.length) (hlk : ∀ env st xs st', mk env st = some (xs, st') → xs.length = kws.length) :
    PE X (.Call (.Name x p) es kws pos) (tE X.K Tb fun env st => bnd (ms env st) fun xs st1 => bnd (mk env st1) fun ys st2 => F (permut perm (xs ++ ys)) st2) := by
  obtain ⟨g1, g2⟩ := gl_of hg rfl
  obtain ⟨f, fd, ps, k, hk0, hm, hkp, hb, hlen, FO⟩ := h
  obtain ⟨k1, k2, k3⟩ := kw_all (pos := pos) (env := X.env) hks
  have hkl : kws.length = ks.length := by have := congrArg List.length hks; simpa using this
  have fin : ∀ {pins : List (Addr × Obj)} {s : Shared} {σ : L2.St} {H : Hp} {Q : VK} {us ws : List Value} {vs zs : List V} {μ : List Addr} {st st' : Store} {as bs : List D} {c : D}, Inv X pins σ H s → Vals vs us → Vals zs ws → StR X.K μ H st → TabsR Tb H → RelDs X.K μ H as vs → RelDs X.K μ H bs zs → as.length = es.length → bs.length = kws.length →
      F (permut perm (as ++ bs)) st = some (c, st') → (∀ μ' H' v, Post Tb μ H μ' H' → StR X.K μ' H' st' → RelD X.K μ' H' c v → Q v H') → wpAny (model X.prog X.w) X.A (PySem.call (.ref f) us (ks.zip ws)) (EP X pins σ Q) X.xe s := by
    intro pins s σ H Q us ws vs zs μ st st' as bs c I rv rz sr tb ra rb la lb ee kk
    have r2 := Vals.permut (rv.append rz) perm
    have hps : (permut perm (vs ++ zs)).length = ps.length := by
      rw [← ((ra.append rb).permut perm).length]
      exact hlen _ _ _ ee
    refine wpAny_call (codeAny_mono (FO.run X.A X.stack s H ⟨us, ks.zip ws⟩ (permut perm (us ++ ws)) (permut perm (vs ++ zs)) Q E0 (hr.mono hk0) I.env0 (hb s us ws I.kIn (by rw [← rv.length, ← ra.length, la]) (by rw [← rz.length, ← rb.length, lb, hkl])) r2 ⟨hps, μ, st, _, c, st', sr, tb, (ra.append rb).permut perm, ee, kk⟩) fun r s' hq => ?_)
    cases r with
    | error e => exact False.elim hq
    | ok fl =>
      cases fl with
      | ret u => exact I.after hq
      | next => exact False.elim hq
      | brk => exact False.elim hq
      | cont => exact False.elim hq
  refine ⟨fun pins s σ H Q I q => ?_⟩
  obtain ⟨μ, env, st, c, st', sr, tb, er, ee, kk⟩ := q
  obtain ⟨as, st1, e1, e2⟩ := bnd_eq ee
  obtain ⟨bs, st2, e3, e4⟩ := bnd_eq e2
  refine wpAny_Call_Name_kw (ld_glob I g1 hm ?_ g2)
  cases es with
  | nil =>
    rw [hms rfl] at e1
    cases e1
    refine PySem.W.callWith_KW0 (h₀ := X.base) I.ok.mod.kin hkp k1 ?_ (by show (false || _) = false; rw [k3]; rfl)
    refine thn (hk.run pos pins s σ H (fun zs H2 => ∃ μ2, Post Tb μ H μ2 H2 ∧ StR X.K μ2 H2 st2 ∧ RelDs X.K μ2 H2 bs zs) I ⟨μ, env, st, bs, st2, sr, tb, er, e3, fun μ2 H2 zs p2 s2 r2 => ⟨μ2, p2, s2, r2⟩⟩) fun ws s2 ⟨zs, H2, I2, rz, μ2, p2, sr2, rb⟩ => ⟨I2.kIn, ?_⟩
    rw [k2]
    exact fin (us := [] ++ []) (vs := []) I2 .nil rz sr2 p2.tab .nil rb rfl (hlk _ _ _ _ e3) e4 fun μ' H' v p' s' r' => kk μ' H' v (p2.trans p') s' r'
  | cons e es =>
    rw [List.all_cons, Bool.and_eq_true] at hs
    have hall : (e :: es).all notStar = true := by rw [List.all_cons, hs.1, hs.2]; rfl
    refine PySem.W.callWith_KW (h₀ := X.base) I.ok.mod.kin hkp k1 (thn (ha.run pos pins s σ H (fun vs H1 => ∃ μ1, Post Tb μ H μ1 H1 ∧ StR X.K μ1 H1 st1 ∧ RelDs X.K μ1 H1 as vs) I ⟨μ, env, st, as, st1, sr, tb, er, e1, fun μ1 H1 vs p1 s1 r1 => ⟨μ1, p1, s1, r1⟩⟩) fun us s1 ⟨vs, H1, I1, r, μ1, p1, sr1, ra⟩ => ?_) (by rw [star_any hall, k3]; rfl) (star_ok hs.1)
    refine thn (hk.run pos pins s1 σ H1 (fun zs H2 => ∃ μ2, Post Tb μ1 H1 μ2 H2 ∧ StR X.K μ2 H2 st2 ∧ RelDs X.K μ2 H2 bs zs) I1 ⟨μ1, env, st1, bs, st2, sr1, p1.tab, er.mono sr p1.pre p1.ext, e3, fun μ2 H2 zs p2 s2 r2 => ⟨μ2, p2, s2, r2⟩⟩) fun ws s2 ⟨zs, H2, I2, rz, μ2, p2, sr2, rb⟩ => ⟨I2.kIn, ?_⟩
    rw [k2]
    exact fin I2 r rz sr2 p2.tab (ra.mono sr1 p2.pre p2.ext) rb (hl _ _ _ _ e1) (hlk _ _ _ _ e3) e4 fun μ' H' v p' s' r' => kk μ' H' v ((p1.trans p2).trans p') s' r'
end
end Calc
end
section
set_option Elab.async false
set_option linter.all false
set_option maxRecDepth 100000
set_option autoImplicit false
/-! targets; what is walked; list comprehensions -/
namespace Calc
open PySem PySem.Spec PyProof.Rows L2

/-! ### targets -/
/-- the same but for the slots at vs -/
def But (vs : List Nat) (σ σ' : L2.St) : Prop := σ'.length = σ.length ∧ ∀ i : Nat, i ∉ vs → σ'[i]? = σ[i]?
theorem But.refl (vs : List Nat) (σ : L2.St) : But vs σ σ := ⟨rfl, fun _ _ => rfl⟩
theorem But.trans {vs ws : List Nat} {σ σ1 σ2 : L2.St} (a : But vs σ σ1) (b : But ws σ1 σ2) : But (vs ++ ws) σ σ2 :=
  ⟨b.1.trans a.1, fun i h => (b.2 i fun z => h (List.mem_append_right _ z)).trans (a.2 i fun z => h (List.mem_append_left _ z))⟩
def tTg (K : PySem.W.Frag) (t : T) : TG := fun v σ H Q => ∃ μ env st d env', StR K μ H st ∧ EnvR K μ H env σ ∧ RelD K μ H d v ∧ asg t d env = some env' ∧ ∀ σ', EnvR K μ H env' σ' → But (tSlots t) σ σ' → Q σ' H
def tTgs (K : PySem.W.Frag) (ts : List T) : TGs := fun vs σ H Q => ∃ μ env st ds env', StR K μ H st ∧ EnvR K μ H env σ ∧ RelDs K μ H ds vs ∧ asgs ts ds env = some env' ∧ ∀ σ', EnvR K μ H env' σ' → But (tsSlots ts) σ σ' → Q σ' H
theorem _root_.L2.PG.cimp {X : Cx} {e : Expr} {t t' : TG} (h : PG X e t) (w : ∀ v σ H Q, t' v σ H Q → t v σ H Q) : PG X e t' := ⟨fun pins s σ H v u Q I r q => h.run pins s σ H v u Q I r (w v σ H Q q)⟩
theorem _root_.L2.PGs.cimp {X : Cx} {e : List Expr} {t t' : TGs} (h : PGs X e t) (w : ∀ v σ H Q, t' v σ H Q → t v σ H Q) : PGs X e t' := ⟨fun pins s σ H v u Q I r q => h.run pins s σ H v u Q I r (w v σ H Q q)⟩
theorem EnvR.set {K : PySem.W.Frag} {μ : List Addr} {H : Hp} {env : Env} {σ : L2.St} {d : D} {v : V} (e : EnvR K μ H env σ) (r : RelD K μ H d v) (i : Nat) : EnvR K μ H (env.set i (some d)) (σ.set i (some v)) := by
  refine ⟨by rw [List.length_set, List.length_set]; exact e.len, fun j d' h => ?_⟩
  by_cases hj : i = j
  · subst hj
    have hl : i < env.length := by have := (List.getElem?_eq_some_iff.mp h).1; rwa [List.length_set] at this
    rw [List.getElem?_set_self hl] at h
    cases h
    exact ⟨v, by rw [List.getElem?_set_self (by rw [← e.len]; exact hl)], r⟩
  · rw [List.getElem?_set_ne hj] at h ⊢
    exact e.at_ j d' h
theorem asgs_len : ∀ {ts : List T} {ds : List D} {env env' : Env}, asgs ts ds env = some env' → ts.length = ds.length
  | [], [], _, _, _ => rfl
  | [], _ :: _, _, _, h => by simp [asgs] at h
  | _ :: _, [], _, _, h => by simp [asgs] at h
  | t :: ts, d :: ds, env, env', h => by
    simp only [asgs] at h
    split at h
    · rw [List.length_cons, List.length_cons, asgs_len h]
    · cases h
theorem chkTs_len {N : List Str} {sc : Scope} {top : Bool} : ∀ {ts : List T} {es : List Expr}, chkTs N sc top ts es = true → ts.length = es.length ∧ es.all notStar = true
  | [], [], _ => ⟨rfl, rfl⟩
  | [], _ :: _, h => by simp [chkTs] at h
  | _ :: _, [], h => by simp [chkTs] at h
  | t :: ts, e :: es, h => by
    simp only [chkTs, Bool.and_eq_true] at h
    obtain ⟨h1, h2⟩ := chkTs_len h.2
    refine ⟨by rw [List.length_cons, List.length_cons, h1], ?_⟩
    rw [List.all_cons, h2, Bool.and_true]
    cases t <;> cases e <;> first | rfl | (simp [chkT] at h; done)
theorem each_len {env : PySem.Env} : ∀ {es : List Expr}, es.all notStar = true → (assignEach es env).length = es.length ∧ (assignEach es env).findIdx? (·.1) = none
  | [], _ => ⟨rfl, rfl⟩
  | e :: es, h => by
    rw [List.all_cons, Bool.and_eq_true] at h
    obtain ⟨h1, h2⟩ := each_len (env := env) h.2
    have e1 : assignEach (e :: es) env = (false, assign e env) :: assignEach es env := by
      have := h.1
      cases e <;> first | rfl | cases this
    rw [e1]
    refine ⟨by rw [List.length_cons, List.length_cons, h1], ?_⟩
    rw [List.findIdx?_cons, h2]; rfl
theorem each_cons {env : PySem.Env} {e : Expr} {es : List Expr} (h : notStar e = true) : (assignEach (e :: es) env).map (·.2) = assign e env :: (assignEach es env).map (·.2) := by
  cases e <;> first | rfl | cases h
section
variable {X : Cx} {Tb : List Addr} {N : List Str} {sc : Scope} {top g : Bool}
mutual
theorem dg (ok : XOk X Tb N sc top g) : ∀ (t : T) (e : Expr), chkT N sc top t e = true → PG X e (tTg X.K t)
  | .nm i, .Name x p, h => by
    simp only [chkT, Bool.and_eq_true, decide_eq_true_eq] at h
    obtain ⟨h1, h2⟩ := h
    have hloc : Loc X.env.scope x ∧ (X.fn x = true ∨ X.env.scope.names.lookup x = some .local) := by
      rw [ok.eS]
      unfold isLoc at h2
      split at h2
      · exact ⟨.inl (by assumption), .inr (by assumption)⟩
      · exact ⟨.inr (by assumption), .inl (ok.fn h2 x)⟩
      · cases h2
    refine (pg_name (i := i) (by rw [ok.eN]; exact ok.nd) (by rw [ok.eN]; exact h1) hloc.1 hloc.2).cimp fun v σ H Q q => ?_
    obtain ⟨μ, env, st, d, env', sr, er, r, ee, kk⟩ := q
    simp only [asg] at ee
    split at ee
    · cases ee; exact kk _ (er.set r i) ⟨by rw [List.length_set], fun j hj => by rw [List.getElem?_set_ne (fun z => hj (by simp [tSlots, z]))]⟩
    · cases ee
  | .tup ts, .Tuple es k p, h => by
    simp only [chkT] at h
    obtain ⟨h1, h2⟩ := chkTs_len h
    obtain ⟨h3, h4⟩ := each_len (env := X.env) h2
    refine (pg_tup (n := es.length) ok.calm (dgs ok ts es h) h3 h4).cimp fun v σ H Q q => ?_
    obtain ⟨μ, env, st, d, env', sr, er, r, ee, kk⟩ := q
    simp only [asg] at ee
    split at ee
    · rename_i xs
      cases r with
      | tup hq dr => exact ⟨_, _, rfl, hq, by rw [← dr.length, ← asgs_len ee, h1], μ, env, st, xs, env', sr, er, dr, ee, fun σ' er' b' => kk σ' er' b'⟩
    · cases ee
  | .nm _, .BoolOp .., h => by simp [chkT] at h
  | .nm _, .NamedExpr .., h => by simp [chkT] at h
  | .nm _, .BinOp .., h => by simp [chkT] at h
  | .nm _, .UnaryOp .., h => by simp [chkT] at h
  | .nm _, .Lambda .., h => by simp [chkT] at h
  | .nm _, .IfExp .., h => by simp [chkT] at h
  | .nm _, .Dict .., h => by simp [chkT] at h
  | .nm _, .Set .., h => by simp [chkT] at h
  | .nm _, .ListComp .., h => by simp [chkT] at h
  | .nm _, .SetComp .., h => by simp [chkT] at h
  | .nm _, .DictComp .., h => by simp [chkT] at h
  | .nm _, .GeneratorExp .., h => by simp [chkT] at h
  | .nm _, .Await .., h => by simp [chkT] at h
  | .nm _, .Yield .., h => by simp [chkT] at h
  | .nm _, .YieldFrom .., h => by simp [chkT] at h
  | .nm _, .Compare .., h => by simp [chkT] at h
  | .nm _, .Call .., h => by simp [chkT] at h
  | .nm _, .FormattedValue .., h => by simp [chkT] at h
  | .nm _, .JoinedStr .., h => by simp [chkT] at h
  | .nm _, .Constant .., h => by simp [chkT] at h
  | .nm _, .Attribute .., h => by simp [chkT] at h
  | .nm _, .Subscript .., h => by simp [chkT] at h
  | .nm _, .Starred .., h => by simp [chkT] at h
  | .nm _, .List .., h => by simp [chkT] at h
  | .nm _, .Tuple .., h => by simp [chkT] at h
  | .nm _, .Slice .., h => by simp [chkT] at h
  | .tup _, .BoolOp .., h => by simp [chkT] at h
  | .tup _, .NamedExpr .., h => by simp [chkT] at h
  | .tup _, .BinOp .., h => by simp [chkT] at h
  | .tup _, .UnaryOp .., h => by simp [chkT] at h
  | .tup _, .Lambda .., h => by simp [chkT] at h
  | .tup _, .IfExp .., h => by simp [chkT] at h
  | .tup _, .Dict .., h => by simp [chkT] at h
  | .tup _, .Set .., h => by simp [chkT] at h
  | .tup _, .ListComp .., h => by simp [chkT] at h
  | .tup _, .SetComp .., h => by simp [chkT] at h
  | .tup _, .DictComp .., h => by simp [chkT] at h
  | .tup _, .GeneratorExp .., h => by simp [chkT] at h
  | .tup _, .Await .., h => by simp [chkT] at h
  | .tup _, .Yield .., h => by simp [chkT] at h
  | .tup _, .YieldFrom .., h => by simp [chkT] at h
  | .tup _, .Compare .., h => by simp [chkT] at h
  | .tup _, .Call .., h => by simp [chkT] at h
  | .tup _, .FormattedValue .., h => by simp [chkT] at h
  | .tup _, .JoinedStr .., h => by simp [chkT] at h
  | .tup _, .Constant .., h => by simp [chkT] at h
  | .tup _, .Attribute .., h => by simp [chkT] at h
  | .tup _, .Subscript .., h => by simp [chkT] at h
  | .tup _, .Starred .., h => by simp [chkT] at h
  | .tup _, .List .., h => by simp [chkT] at h
  | .tup _, .Name .., h => by simp [chkT] at h
  | .tup _, .Slice .., h => by simp [chkT] at h
theorem dgs (ok : XOk X Tb N sc top g) : ∀ (ts : List T) (es : List Expr), chkTs N sc top ts es = true → PGs X es (tTgs X.K ts)
  | [], [], _ => pgs_nil.cimp fun vs σ H Q q => by
    obtain ⟨μ, env, st, ds, env', sr, er, r, ee, kk⟩ := q
    cases ds with
    | nil => cases r; simp only [asgs] at ee; cases ee; exact ⟨rfl, kk σ er (But.refl _ _)⟩
    | cons _ _ => simp [asgs] at ee
  | t :: ts, e :: es, h => by
    have hh := h
    simp only [chkTs, Bool.and_eq_true] at h
    have hn := (chkTs_len hh).2
    rw [List.all_cons, Bool.and_eq_true] at hn
    refine (pgs_cons (dg ok t e h.1) (dgs ok ts es h.2) (each_cons hn.1)).cimp fun vs σ H Q q => ?_
    obtain ⟨μ, env, st, ds, env', sr, er, r, ee, kk⟩ := q
    cases r with
    | nil => simp [asgs] at ee
    | cons rd rr =>
      simp only [asgs] at ee
      split at ee
      · rename_i env1 h1
        exact ⟨_, _, rfl, μ, env, st, _, env1, sr, er, rd, h1, fun σ1 er1 b1 => ⟨μ, env1, st, _, env', sr, er1, rr, ee, fun σ2 er2 b2 => kk σ2 er2 (b1.trans b2)⟩⟩
      · cases ee
  | [], _ :: _, h => by simp [chkTs] at h
  | _ :: _, [], h => by simp [chkTs] at h
end
end

/-! ### what is walked -/
/-- the walk w is the iterator J, from the state μ0 H0 on -/
def WalkR (K : PySem.W.Frag) (Tb : List Addr) (w : Walk) (μ0 : List Addr) (H0 : Hp) (J : It) : Prop := ∀ (i : Nat) (μ : List Addr) (st : Store) (H : Hp), StR K μ H st → TabsR Tb H → Post Tb μ0 H0 μ H → w.ok st = true →
  (∀ d, w.items[i]? = some d → J.go i H ∧ ∀ x H', J.yld i H x H' → Post Tb μ H μ H' ∧ StR K μ H' st ∧ RelD K μ H' d x) ∧ (w.items.length ≤ i → J.stop i H)
def tW (K : PySem.W.Frag) (Tb : List Addr) (mw : Env → Store → Option (Walk × Store)) : TI := fun σ H R =>
  ∃ μ env st w st', StR K μ H st ∧ TabsR Tb H ∧ EnvR K μ H env σ ∧ mw env st = some (w, st') ∧ ∀ μ' H' J, Post Tb μ H μ' H' → StR K μ' H' st' → WalkR K Tb w μ' H' J → R J H'
theorem _root_.L2.PI.cimp {X : Cx} {tg e : Expr} {t t' : TI} (h : PI X tg e t) (w : ∀ σ H Q, t' σ H Q → t σ H Q) : PI X tg e t' := ⟨fun pins s σ H R I q => h.run pins s σ H R I (w σ H R q)⟩
/-- a list or a tuple -/
theorem pi_seq {X : Cx} {tg l : Expr} {tl : TE} (hl : PE X l tl) : PI X tg l (fun σ H R => tl σ H fun x H1 => ∃ a, x = .ref a ∧ ((∃ xs, SqL X.K H1 a xs ∧ R (Itl X.K a) H1) ∨ ∃ xs, SqT X.K H1 a xs ∧ R (Itt X.K a) H1)) := by
  refine ⟨fun pins s σ H R I h => ?_⟩
  refine thn (hl.run pins s σ H _ I h) fun v s1 ⟨x, H1, I1, r1, q1⟩ => ?_
  obtain ⟨a, e, q1⟩ := q1
  subst e
  cases r1
  rcases q1 with ⟨xs, hq, q⟩ | ⟨xs, hq, q⟩
  · obtain ⟨its, rv, p, hz⟩ := I1.list hq
    refine wpAny_pyIter_list p.isList ?_
    refine ⟨s1.heap.objs.size, [s1.heap.objs.size], _, _, H1, rfl, I1.kept (t' := s1.toks) fun b o e => Heap.get?_push_of_some _ e, turn_list a _, ⟨_, Heap.get?_push_size _ rfl, rfl, rfl⟩, fun b hb => ?_, q⟩
    have e : b = s1.heap.objs.size := by simpa using hb
    subst e
    exact I1.fpOk (Nat.le_refl _) (I1.hok.fresh (Nat.le_refl _))
  · obtain ⟨its, rv, p, hz⟩ := I1.tuple hq
    refine wpAny_pyIter_tuple (show s1.heap.IsTuple a its.toArray from p) ?_
    refine ⟨s1.heap.objs.size, [s1.heap.objs.size], _, _, H1, rfl, I1.kept (t' := s1.toks) fun b o e => Heap.get?_push_of_some _ e, turn_tuple a _, ⟨_, Heap.get?_push_size _ rfl, rfl, rfl⟩, fun b hb => ?_, q⟩
    have e : b = s1.heap.objs.size := by simpa using hb
    subst e
    exact I1.fpOk (Nat.le_refl _) (I1.hok.fresh (Nat.le_refl _))

section
variable {K : PySem.W.Frag} {Tb μ0 : List Addr} {H0 : Hp} {st0 : Store}
theorem sqL_inj {μ : List Addr} {H : Hp} {a : Addr} {xs ys : List V} (h : SqL K H a xs) (h' : H a = some (.lst ys) ∨ (∃ o, H a = some (.frz o (.lst ys))) ∨ ∃ (o : Obj) (its : Array Value) (n : Nat), K.lookup a = some o ∧ o.cls = .type "list" ∧ o.dict = none ∧ o.data = .seq its n ∧ its.size ≤ sizeLine ∧ Vals ys its.toList) : True := trivial
/-- a written list, as long as it stands -/
theorem walk_list {l : Nat} {a : Addr} {xs : List D} (ha : μ0[l]? = some a) : WalkR K Tb ⟨xs, [(l, xs)]⟩ μ0 H0 (Itl K a) := by
  intro i μ st H sr tb p ok
  have ok' : st[l]? = some (.lst xs) := by
    have := List.all_eq_true.mp ok (l, xs) (by simp)
    exact of_decide_eq_true this
  obtain ⟨a', vs, h1, h2, dr⟩ := sr.list ok'
  rw [pre_get p.pre ha] at h1
  cases h1
  refine ⟨fun d hd => ?_, fun hi => ⟨vs, .of h2, by rw [← dr.length]; exact hi⟩⟩
  obtain ⟨v, hv, rv⟩ := dr.get hd
  refine ⟨⟨vs, v, .of h2, hv⟩, fun x H' y => ?_⟩
  obtain ⟨rfl, y⟩ := y
  have := y vs (.of h2)
  rw [hv] at this
  cases this
  exact ⟨.refl tb, sr, rv⟩
theorem walk_rol {a : Addr} {xs : List D} {vs : List V} (sr0 : StR K μ0 H0 st0) (ha : RoL K H0 a vs) (dr : RelDs K μ0 H0 xs vs) : WalkR K Tb ⟨xs, []⟩ μ0 H0 (Itl K a) := by
  intro i μ st H sr tb p ok
  have ha' := RoL.mono sr0 p.ext ha
  have dr' := dr.mono sr0 p.pre p.ext
  refine ⟨fun d hd => ?_, fun hi => ⟨vs, ha'.sql, by rw [← dr.length]; exact hi⟩⟩
  obtain ⟨v, hv, rv⟩ := dr'.get hd
  refine ⟨⟨vs, v, ha'.sql, hv⟩, fun x H' y => ?_⟩
  obtain ⟨rfl, y⟩ := y
  have := y vs ha'.sql
  rw [hv] at this
  cases this
  exact ⟨.refl tb, sr, rv⟩
theorem walk_tup {a : Addr} {xs : List D} {vs : List V} (sr0 : StR K μ0 H0 st0) (ha : SqT K H0 a vs) (dr : RelDs K μ0 H0 xs vs) : WalkR K Tb ⟨xs, []⟩ μ0 H0 (Itt K a) := by
  intro i μ st H sr tb p ok
  have ha' := SqT.mono sr0 p.ext ha
  have dr' := dr.mono sr0 p.pre p.ext
  refine ⟨fun d hd => ?_, fun hi => ⟨vs, ha', by rw [← dr.length]; exact hi⟩⟩
  obtain ⟨v, hv, rv⟩ := dr'.get hd
  refine ⟨⟨vs, v, ha', hv⟩, fun x H' y => ?_⟩
  obtain ⟨rfl, y⟩ := y
  have := y vs ha'
  rw [hv] at this
  cases this
  exact ⟨.refl tb, sr, rv⟩
theorem walk_rng (lo : Int) (n : Nat) : WalkR K Tb ⟨(List.range n).map fun (i : Nat) => D.int (lo + (i : Int)), []⟩ μ0 H0 (Itr lo n) := by
  intro i μ st H sr tb p ok
  refine ⟨fun d hd => ?_, fun hi => by show n ≤ i; simpa using hi⟩
  rw [List.getElem?_map] at hd
  obtain ⟨j, hj, rfl⟩ := Option.map_eq_some_iff.mp hd
  obtain ⟨hl, ej⟩ := List.getElem?_eq_some_iff.mp hj
  rw [List.getElem_range] at ej
  subst ej
  refine ⟨by show i < n; simpa using hl, fun x H' y => ?_⟩
  obtain ⟨rfl, rfl⟩ := y
  exact ⟨.refl tb, sr, .int _⟩
end
section
variable {X : Cx} {Tb : List Addr} {e e1 e2 : Expr} {es : List Expr} {pos : Pos} {m m1 m2 : Env → Store → Option (D × Store)} {ms : Env → Store → Option (List D × Store)} {tg : Expr}
theorem dw_seq (h : PE X e (tE X.K Tb m)) : PI X tg e (tW X.K Tb fun env st => bnd (m env st) fun x st1 => match walkOf st1 x with
    | some w => some (w, st1)
    | none => none) := by
  refine (pi_seq h).cimp fun σ H R q => ?_
  obtain ⟨μ, env, st, w, st', sr, tb, er, ee, kk⟩ := q
  obtain ⟨d, st1, e1, e2⟩ := bnd_eq ee
  refine ⟨μ, env, st, d, st1, sr, tb, er, e1, fun μ1 H1 v p1 sr1 r1 => ?_⟩
  split at e2
  · rename_i w0 hw
    cases e2
    cases r1 with
    | tup hq dr => cases hw; exact ⟨_, rfl, .inr ⟨_, hq, kk μ1 H1 _ p1 sr1 (walk_tup sr1 hq dr)⟩⟩
    | rol hq dr => cases hw; exact ⟨_, rfl, .inl ⟨_, hq.sql, kk μ1 H1 _ p1 sr1 (walk_rol sr1 hq dr)⟩⟩
    | loc ha =>
      simp only [walkOf] at hw
      split at hw
      · rename_i xs hx
        cases hw
        obtain ⟨a', vs, h3, h4, dr⟩ := sr1.list hx
        rw [ha] at h3; cases h3
        exact ⟨_, rfl, .inl ⟨_, .of h4, kk μ1 H1 _ p1 sr1 (walk_list ha)⟩⟩
      · cases hw
    | _ => cases hw
  · cases e2
theorem dw_rng {p : Pos} (hg : isGl X.env.scope "range" = true) (hm : X.mg "range" = none) (ha : PA X es (tEs X.K Tb ms)) (hs : es.all notStar = true) (hl : es.length = 1 ∨ es.length = 2) (hms : ∀ env st xs st', ms env st = some (xs, st') → xs.length = es.length) :
    PI X tg (.Call (.Name "range" p) es [] pos) (tW X.K Tb fun env st => bnd (ms env st) fun xs st1 => match rngOf xs with
    | some w => some (w, st1)
    | none => none) := by
  obtain ⟨g1, g2⟩ := gl_of hg rfl
  match es, hl with
  | [a], _ =>
    rw [List.all_cons, Bool.and_eq_true] at hs
    refine (pi_range1 g1 hm ha (star_ok hs.1)).cimp fun σ H R q => ?_
    obtain ⟨μ, env, st, w, st', sr, tb, er, ee, kk⟩ := q
    obtain ⟨ds, st1, e1, e2⟩ := bnd_eq ee
    have hlen := hms _ _ _ _ e1
    refine ⟨μ, env, st, ds, st1, sr, tb, er, e1, fun μ1 H1 vs p1 sr1 r1 => ?_⟩
    split at e2
    · rename_i w0 hw
      cases e2
      match ds, hlen with
      | [d], _ =>
        cases r1 with
        | cons r1 rn =>
          cases rn
          cases d <;> simp only [rngOf] at hw <;> try (first | (cases hw; done) | skip)
          split at hw
          · rename_i hc
            cases hw; cases r1
            exact ⟨_, rfl, hc.1, hc.2, kk μ1 H1 _ p1 sr1 (walk_rng 0 _)⟩
          · cases hw
    · cases e2
  | [a, b], _ =>
    rw [List.all_cons, List.all_cons, Bool.and_eq_true, Bool.and_eq_true] at hs
    refine (pi_range2 g1 hm ha (by rw [star_ok hs.1, star_ok hs.2.1]; rfl) (star_ok hs.2.1)).cimp fun σ H R q => ?_
    obtain ⟨μ, env, st, w, st', sr, tb, er, ee, kk⟩ := q
    obtain ⟨ds, st1, e1, e2⟩ := bnd_eq ee
    have hlen := hms _ _ _ _ e1
    refine ⟨μ, env, st, ds, st1, sr, tb, er, e1, fun μ1 H1 vs p1 sr1 r1 => ?_⟩
    split at e2
    · rename_i w0 hw
      cases e2
      match ds, hlen with
      | [d, d'], _ =>
        cases r1 with
        | cons r1 rn =>
          cases rn with
          | cons r2 rn =>
            cases rn
            cases d <;> cases d' <;> simp only [rngOf] at hw <;> try (first | (cases hw; done) | skip)
            split at hw
            · rename_i hc
              cases hw; cases r1; cases r2
              exact ⟨_, _, rfl, ⟨hc.1.1, hc.1.2, hc.2.1, hc.2.2⟩, kk μ1 H1 _ p1 sr1 (walk_rng _ _)⟩
            · cases hw
    · cases e2

/-! ### enumerate, zip -/
theorem enum_at : ∀ {xs : List D} {n i : Nat} {d : D}, (enumFrom n xs)[i]? = some d → ∃ x, xs[i]? = some x ∧ d = .tup [.int ((n + i : Nat) : Int), x]
  | [], _, _, _, h => by simp [enumFrom] at h
  | x :: xs, n, 0, d, h => by
    simp [enumFrom] at h
    exact ⟨x, rfl, h.symm⟩
  | x :: xs, n, i + 1, d, h => by
    have h' : (enumFrom (n + 1) xs)[i]? = some d := by simpa [enumFrom] using h
    obtain ⟨y, h1, h2⟩ := enum_at h'
    refine ⟨y, by simpa using h1, ?_⟩
    rw [h2]
    have : n + 1 + i = n + (i + 1) := by omega
    rw [this]
theorem enum_len : ∀ {xs : List D} {n : Nat}, (enumFrom n xs).length = xs.length
  | [], _ => rfl
  | x :: xs, n => by simp [enumFrom, enum_len (xs := xs)]
theorem zip_at : ∀ {xs ys : List D} {i : Nat} {d : D}, (zipD xs ys)[i]? = some d → ∃ x y, xs[i]? = some x ∧ ys[i]? = some y ∧ d = .tup [x, y]
  | [], _, _, _, h => by simp [zipD] at h
  | _ :: _, [], _, _, h => by simp [zipD] at h
  | x :: xs, y :: ys, 0, d, h => by
    simp [zipD] at h
    exact ⟨x, y, rfl, rfl, h.symm⟩
  | x :: xs, y :: ys, i + 1, d, h => by
    have h' : (zipD xs ys)[i]? = some d := by simpa [zipD] using h
    obtain ⟨a, b, h1, h2, h3⟩ := zip_at h'
    exact ⟨a, b, by simpa using h1, by simpa using h2, h3⟩
theorem zip_len : ∀ {xs ys : List D}, (zipD xs ys).length = min xs.length ys.length
  | [], _ => by simp [zipD]
  | _ :: _, [] => by simp [zipD]
  | x :: xs, y :: ys => by simp only [zipD, List.length_cons, zip_len (xs := xs) (ys := ys)]; omega
/-- the list that is walked as it lies at a later state -/
def ListAt (K : PySem.W.Frag) (Tb : List Addr) (w : Walk) (μ0 : List Addr) (H0 : Hp) (a : Addr) : Prop := ∀ (μ : List Addr) (st : Store) (H : Hp), StR K μ H st → TabsR Tb H → Post Tb μ0 H0 μ H → w.ok st = true → ∃ vs, SqL K H a vs ∧ RelDs K μ H w.items vs ∧ ∀ vs', SqL K H a vs' → vs' = vs
def TupAt (K : PySem.W.Frag) (Tb : List Addr) (w : Walk) (μ0 : List Addr) (H0 : Hp) (a : Addr) : Prop := ∀ (μ : List Addr) (st : Store) (H : Hp), StR K μ H st → TabsR Tb H → Post Tb μ0 H0 μ H → w.ok st = true → ∃ vs, SqT K H a vs ∧ RelDs K μ H w.items vs
theorem at_of_walk {K : PySem.W.Frag} {Tb μ0 : List Addr} {H0 : Hp} {st0 : Store} {d : D} {v : V} {w : Walk} (sr0 : StR K μ0 H0 st0) (r : RelD K μ0 H0 d v) (hw : walkOf st0 d = some w) :
    ∃ a, v = .ref a ∧ (if isT d = true then TupAt K Tb w μ0 H0 a ∧ ∃ vs, SqT K H0 a vs else (∀ (μ : List Addr) (st : Store) (H : Hp), StR K μ H st → TabsR Tb H → Post Tb μ0 H0 μ H → w.ok st = true → ∃ vs, SqL K H a vs ∧ RelDs K μ H w.items vs) ∧ ∃ vs, SqL K H0 a vs) := by
  cases r with
  | tup hq dr =>
    cases hw
    refine ⟨_, rfl, ?_⟩
    rw [if_pos (show isT (.tup _) = true from rfl)]
    exact ⟨fun μ st H sr tb p ok => ⟨_, SqT.mono sr0 p.ext hq, dr.mono sr0 p.pre p.ext⟩, _, hq⟩
  | rol hq dr =>
    cases hw
    refine ⟨_, rfl, ?_⟩
    rw [if_neg (show ¬ isT (.rol _) = true from Bool.false_ne_true)]
    exact ⟨fun μ st H sr tb p ok => ⟨_, (RoL.mono sr0 p.ext hq).sql, dr.mono sr0 p.pre p.ext⟩, _, hq.sql⟩
  | @loc l0 a0' ha =>
    simp only [walkOf] at hw
    split at hw
    · rename_i xs hx
      cases hw
      refine ⟨_, rfl, ?_⟩
      rw [if_neg (show ¬ isT (.loc _) = true from Bool.false_ne_true)]
      obtain ⟨a0, vs0, h3, h4, dr0⟩ := sr0.list hx
      rw [ha] at h3; cases h3
      refine ⟨fun μ st H sr tb p ok => ?_, _, .of h4⟩
      have ok' : st[l0]? = some (Cell.lst xs) := of_decide_eq_true (List.all_eq_true.mp ok (l0, xs) (by simp))
      obtain ⟨a', vs, h1, h2, dr⟩ := sr.list ok'
      rw [pre_get p.pre ha] at h1
      cases h1
      exact ⟨vs, .of h2, dr⟩
    · cases hw
  | _ => cases hw
theorem pair_post {K : PySem.W.Frag} {μ : List Addr} {H : Hp} {st : Store} {T : Addr} {x y : D} {v u : V} (sr : StR K μ H st) (tb : TabsR Tb H) (hT : H T = none) (rx : RelD K μ H x v) (ry : RelD K μ H y u) :
    Post Tb μ H μ (upd H T (.tup [v, u])) ∧ StR K μ (upd H T (.tup [v, u])) st ∧ RelD K μ (upd H T (.tup [v, u])) (.tup [x, y]) (.ref T) := by
  have p : Post Tb μ H μ (upd H T (.tup [v, u])) := .made tb hT
  exact ⟨p, sr.made hT, .tup (.inl (.inl upd_same)) (.cons (rx.mono sr p.pre p.ext) (.cons (ry.mono sr p.pre p.ext) .nil))⟩
theorem dw_enm {p tpos : Pos} {elts : List Expr} {kk : Nat} (hg : isGl X.env.scope "enumerate" = true) (hm : X.mg "enumerate" = none) (h : PE X e (tE X.K Tb m)) (hs : notStar e = true) :
    PI X (.Tuple elts kk tpos) (.Call (.Name "enumerate" p) [e] [] pos) (tW X.K Tb fun env st => bnd (m env st) fun x st1 => if isT x = true then none else match walkOf st1 x with
      | some w => some (⟨enumFrom 0 w.items, w.still⟩, st1)
      | none => none) := by
  obtain ⟨g1, g2⟩ := gl_of hg rfl
  refine (pi_enum g1 hm (pa_cons h pa_nil (star_ok hs)) (by rw [star_ok hs]; rfl)).cimp fun σ H R q => ?_
  obtain ⟨μ, env, st, w, st', sr, tb, er, ee, kk⟩ := q
  obtain ⟨d, st1, e1, e2⟩ := bnd_eq ee
  refine ⟨μ, env, st, d, st1, sr, tb, er, e1, fun μ1 H1 v p1 sr1 r1 => ?_⟩
  split at e2
  · cases e2
  · rename_i hT
    split at e2
    · rename_i w0 hw
      cases e2
      obtain ⟨a, rfl, hat⟩ := at_of_walk (Tb := Tb) sr1 r1 hw
      rw [if_neg hT] at hat
      obtain ⟨hat, vs0, hv0⟩ := hat
      refine ⟨a, vs0, rfl, hv0, kk μ1 H1 _ p1 sr1 ?_⟩
      intro i μ2 st2 H2 sr2 tb2 p2 ok2
      obtain ⟨vs, hv, dr⟩ := hat μ2 st2 H2 sr2 tb2 p2 ok2
      refine ⟨fun dd hd => ?_, fun hi => ⟨vs, hv, by rw [← dr.length, ← enum_len (n := 0)]; exact hi⟩⟩
      obtain ⟨x, hx, rfl⟩ := enum_at hd
      obtain ⟨v, hv2, rv⟩ := dr.get hx
      refine ⟨⟨vs, v, hv, hv2⟩, fun z H' y => ?_⟩
      obtain ⟨T, x', rfl, hTn, rfl, y⟩ := y
      have := y vs hv
      rw [hv2] at this
      cases this
      have := pair_post (Tb := Tb) sr2 tb2 hTn (RelD.int (i : Int)) rv
      simpa using this
    · cases e2
theorem dw_zip {p tpos : Pos} {elts : List Expr} {kk : Nat} (hg : isGl X.env.scope "zip" = true) (hm : X.mg "zip" = none) (h1 : PE X e1 (tE X.K Tb m1)) (h2 : PE X e2 (tE X.K Tb m2)) (hs1 : notStar e1 = true) (hs2 : notStar e2 = true) :
    PI X (.Tuple elts kk tpos) (.Call (.Name "zip" p) [e1, e2] [] pos) (tW X.K Tb fun env st => bnd (m1 env st) fun x st1 => bnd (m2 env st1) fun y st2 => if isT x ≠ isT y then none else match walkOf st2 x, walkOf st2 y with
      | some w, some u => some (⟨zipD w.items u.items, w.still ++ u.still⟩, st2)
      | _, _ => none) := by
  obtain ⟨g1, g2⟩ := gl_of hg rfl
  refine (RZ.pi_zipA g1 hm (pa_cons h1 (pa_cons h2 pa_nil (star_ok hs2)) (star_ok hs1)) (star_ok hs1) (by rw [star_ok hs2]; rfl)).cimp fun σ H R q => ?_
  obtain ⟨μ, env, st, w, st', sr, tb, er, ee, kk⟩ := q
  obtain ⟨d, st1, e1, e2⟩ := bnd_eq ee
  refine ⟨μ, env, st, d, st1, sr, tb, er, e1, fun μ1 H1 v p1 sr1 r1 => ?_⟩
  obtain ⟨d2, st2, e3, e4⟩ := bnd_eq e2
  refine ⟨μ1, env, st1, d2, st2, sr1, p1.tab, er.mono sr p1.pre p1.ext, e3, fun μ2 H2 v2 p2 sr2 r2 => ?_⟩
  have r1' := r1.mono sr1 p2.pre p2.ext
  split at e4
  · cases e4
  · rename_i hT
    have hT' : isT d = isT d2 := by
      by_cases z : isT d = isT d2
      · exact z
      · exact absurd z hT
    split at e4
    · rename_i w1 w2 hw1 hw2
      cases e4
      obtain ⟨a, rfl, hat⟩ := at_of_walk (Tb := Tb) sr2 r1' hw1
      obtain ⟨b, rfl, hbt⟩ := at_of_walk (Tb := Tb) sr2 r2 hw2
      rw [← hT'] at hbt
      by_cases z : isT d = true
      · rw [if_pos z] at hat hbt
        obtain ⟨hat, vs0, hv0⟩ := hat
        obtain ⟨hbt, us0, hu0⟩ := hbt
        refine ⟨a, b, vs0, us0, rfl, .inr ⟨hv0, hu0, kk μ2 H2 _ (p1.trans p2) sr2 ?_⟩⟩
        intro i μ3 st3 H3 sr3 tb3 p3 ok3
        have ok3' : w1.ok st3 = true ∧ w2.ok st3 = true := by
          unfold Walk.ok at ok3 ⊢
          rw [List.all_append, Bool.and_eq_true] at ok3
          exact ok3
        obtain ⟨vs, hv, dr⟩ := hat μ3 st3 H3 sr3 tb3 p3 ok3'.1
        obtain ⟨us, hu, du⟩ := hbt μ3 st3 H3 sr3 tb3 p3 ok3'.2
        refine ⟨fun dd hd => ?_, fun hi => ⟨vs, us, hv, hu, by have := hi; simp only [zip_len] at this; rw [← dr.length, ← du.length]; omega⟩⟩
        obtain ⟨x, y, hx, hy, rfl⟩ := zip_at hd
        obtain ⟨v, hv2, rv⟩ := dr.get hx
        obtain ⟨u, hu2, ru⟩ := du.get hy
        refine ⟨⟨vs, us, v, u, hv, hu, hv2, hu2⟩, fun zz H' yy => ?_⟩
        obtain ⟨T, x', y', rfl, hTn, rfl, y1, y2⟩ := yy
        have t1 := y1 vs hv
        have t2 := y2 us hu
        rw [hv2] at t1
        rw [hu2] at t2
        cases t1; cases t2
        exact pair_post (Tb := Tb) sr3 tb3 hTn rv ru
      · rw [if_neg z] at hat hbt
        obtain ⟨hat, vs0, hv0⟩ := hat
        obtain ⟨hbt, us0, hu0⟩ := hbt
        refine ⟨a, b, vs0, us0, rfl, .inl ⟨hv0, hu0, kk μ2 H2 _ (p1.trans p2) sr2 ?_⟩⟩
        intro i μ3 st3 H3 sr3 tb3 p3 ok3
        have ok3' : w1.ok st3 = true ∧ w2.ok st3 = true := by
          unfold Walk.ok at ok3 ⊢
          rw [List.all_append, Bool.and_eq_true] at ok3
          exact ok3
        obtain ⟨vs, hv, dr⟩ := hat μ3 st3 H3 sr3 tb3 p3 ok3'.1
        obtain ⟨us, hu, du⟩ := hbt μ3 st3 H3 sr3 tb3 p3 ok3'.2
        refine ⟨fun dd hd => ?_, fun hi => ⟨vs, us, hv, hu, by have := hi; simp only [zip_len] at this; rw [← dr.length, ← du.length]; omega⟩⟩
        obtain ⟨x, y, hx, hy, rfl⟩ := zip_at hd
        obtain ⟨v, hv2, rv⟩ := dr.get hx
        obtain ⟨u, hu2, ru⟩ := du.get hy
        refine ⟨⟨vs, us, v, u, hv, hu, hv2, hu2⟩, fun zz H' yy => ?_⟩
        obtain ⟨T, x', y', rfl, hTn, rfl, y1, y2⟩ := yy
        have t1 := y1 vs hv
        have t2 := y2 us hu
        rw [hv2] at t1
        rw [hu2] at t2
        cases t1; cases t2
        exact pair_post (Tb := Tb) sr3 tb3 hTn rv ru
    · cases e4

/-! ### list comprehensions -/
theorem EnvR.wipe {K : PySem.W.Frag} {μ : List Addr} {H : Hp} {env : Env} {σ : L2.St} (er : EnvR K μ H env σ) : ∀ own : List Nat, EnvR K μ H (Calc.wipe env own) (L2.wipe σ own)
  | [] => er
  | v :: vs => by
    have ih := EnvR.wipe er vs
    unfold Calc.wipe L2.wipe
    refine ⟨by rw [List.length_set, List.length_set]; exact ih.len, fun j d h => ?_⟩
    by_cases hj : v = j
    · subst hj
      have hl : v < (Calc.wipe env vs).length := by have := (List.getElem?_eq_some_iff.mp h).1; rwa [List.length_set] at this
      rw [List.getElem?_set_self hl] at h
      cases h
    · rw [List.getElem?_set_ne hj] at h ⊢
      exact ih.at_ j d h

theorem wipe_at (σ : L2.St) (i : Nat) : ∀ vs : List Nat, (L2.wipe σ vs)[i]? = if i ∈ vs then (if i < σ.length then some none else none) else σ[i]?
  | [] => by simp [L2.wipe]
  | v :: vs => by
    have ih := wipe_at σ i vs
    unfold L2.wipe
    by_cases hv : v = i
    · subst hv
      rw [if_pos (by simp)]
      by_cases hl : v < σ.length
      · rw [if_pos hl, List.getElem?_set_self (by rw [L2.wipe_length]; exact hl)]
      · rw [if_neg hl, List.getElem?_eq_none (by rw [List.length_set, L2.wipe_length]; omega)]
    · rw [List.getElem?_set_ne hv, ih]
      by_cases hm : i ∈ vs
      · rw [if_pos hm, if_pos (List.mem_cons_of_mem _ hm)]
      · rw [if_neg hm, if_neg (by simp only [List.mem_cons, not_or]; exact ⟨fun z => hv z.symm, hm⟩)]
theorem wipe_but {σ σ' : L2.St} {ws vs : List Nat} (b : But ws (L2.wipe σ vs) σ') (h : ∀ i ∈ ws, i ∈ vs) : L2.wipe σ' vs = L2.wipe σ vs := by
  refine List.ext_getElem? fun i => ?_
  have hlen : σ'.length = σ.length := by rw [b.1, L2.wipe_length]
  rw [wipe_at, wipe_at, hlen]
  by_cases hm : i ∈ vs
  · rw [if_pos hm, if_pos hm]
  · rw [if_neg hm, if_neg hm, b.2 i fun z => hm (h i z), wipe_at, if_neg hm]
theorem StR.push {K : PySem.W.Frag} {μ : List Addr} {H : Hp} {st : Store} (s : StR K μ H st) {p : Addr} {xs : List D} {vs : List V} (h : H p = some (.lst vs)) (hn : p ∉ μ) (r : RelDs K μ H xs vs) : StR K (μ ++ [p]) H (st ++ [.lst xs]) := by
  have mo : ∀ b o, H b = some o → b ∉ μ → noTbl o → H b = some o := fun b u e _ _ => e
  refine ⟨by rw [List.length_append, List.length_append, s.len]; rfl, ?_, fun l c e => ?_⟩
  · refine List.nodup_append.mpr ⟨s.nd, by simp, fun a ha b hb => ?_⟩
    rw [List.mem_singleton.mp hb]
    intro z; subst z; exact hn ha
  · by_cases hl : l < st.length
    · rw [List.getElem?_append_left hl] at e
      obtain ⟨a, o', h1, h2, h3⟩ := s.at_ l c e
      exact ⟨a, o', pre_get (List.prefix_append _ _) h1, h2, h3.mono s (List.prefix_append _ _) mo⟩
    · have hl2 : l = st.length := by
        have := (List.getElem?_eq_some_iff.mp e).1
        rw [List.length_append, List.length_singleton] at this
        omega
      subst hl2
      rw [List.getElem?_append_right (Nat.le_refl _), Nat.sub_self] at e
      have e' : Cell.lst xs = c := Option.some.inj e
      subst e'
      refine ⟨p, _, ?_, h, vs, rfl, r.mono s (List.prefix_append _ _) mo⟩
      rw [List.getElem?_append_right (by rw [s.len]; exact Nat.le_refl _), s.len, Nat.sub_self]; rfl
theorem Post.push {Tb μ μ' : List Addr} {H H' : Hp} (p : Post Tb μ H μ' H') {a : Addr} (h : H a = none) : Post Tb μ H (μ' ++ [a]) H' :=
  ⟨p.pre.trans (List.prefix_append _ _), p.ext, fun b hb => by
    rcases List.mem_append.mp hb with z | z
    · exact p.new b z
    · rw [List.mem_singleton.mp z]; exact .inr h, p.tab, p.there⟩
/-- what a comprehension makes, at D -/
theorem lc_read {K : PySem.W.Frag} {Tb : List Addr} {own : List Nat} {t : T} {mw : Env → Store → Option (Walk × Store)} {test : Env → Store → Option (Bool × Store)} {elt : Env → Store → Option (D × Store)} {σ : L2.St} {H : Hp} {Q : VK} (hown : ∀ i ∈ tSlots t, i ∈ own)
    (q : tE K Tb (fun env st => bnd (mw env st) fun w st1 => bnd (compW w.ok t (Calc.wipe env own) test elt w.items [] st1) fun xs st3 => some (.loc st3.length, st3 ++ [.lst xs])) σ H Q) :
    tLc (tW K Tb mw) (tTg K t) (tB K Tb test) (tE K Tb elt) own σ H Q := by
  obtain ⟨μ, env, st, d, st', sr, tb, er, ee, kk⟩ := q
  obtain ⟨w, st1, e1, e2⟩ := bnd_eq ee
  obtain ⟨xs, st3, e3, e4⟩ := bnd_eq e2
  cases e4
  refine ⟨μ, env, st, w, st1, sr, tb, er, e1, fun μ1 H1 J p1 sr1 wr D hD => ?_⟩
  have er1 := (er.mono sr p1.pre p1.ext).wipe own
  have hDn : ∀ {μ2 : List Addr} {H2 : Hp}, Post Tb μ1 H1 μ2 H2 → True := fun _ => trivial
  refine ⟨fun i n H2 => n = w.items.length - i ∧ i ≤ w.items.length ∧ ∃ μ2 st2 acc accV, StR K μ2 H2 st2 ∧ D ∉ μ2 ∧ Post Tb μ1 H1 μ2 H2 ∧ H2 D = some (.lst accV) ∧ RelDs K μ2 H2 acc accV ∧ compW w.ok t (Calc.wipe env own) test elt (w.items.drop i) acc st2 = some (xs, st3), ⟨_, rfl, Nat.zero_le _, μ1, st1, [], [], sr1.made hD, fun hm => ?_, .made p1.tab hD, upd_same, .nil, by rw [List.drop_zero]; exact e3⟩, ?_⟩
  · obtain ⟨zs, hz⟩ := sr1.mem hm
    rw [hD] at hz; cases hz
  rintro i n H2 ⟨rfl, hi, μ2, st2, acc, accV, sr2, hD2, p2, hH2, ra, ec⟩
  have er2 := er1.mono sr1 p2.pre p2.ext
  by_cases hlt : i < w.items.length
  · rw [List.drop_eq_getElem_cons hlt] at ec
    unfold compW at ec
    split at ec
    · rename_i hok
      obtain ⟨hw1, _⟩ := wr i μ2 st2 H2 sr2 p2.tab p2 hok
      obtain ⟨hgo, hy⟩ := hw1 _ (List.getElem?_eq_getElem hlt)
      refine .inr ⟨hgo, fun H' => ∃ μ4 st4 acc' accV', StR K μ4 H' st4 ∧ D ∉ μ4 ∧ Post Tb μ1 H1 μ4 H' ∧ H' D = some (.lst accV') ∧ RelDs K μ4 H' acc' accV' ∧ compW w.ok t (Calc.wipe env own) test elt (w.items.drop (i + 1)) acc' st4 = some (xs, st3), fun H' ⟨μ4, st4, acc', accV', q1, q2, q3, q4, q5, q6⟩ => ⟨w.items.length - (i + 1), by omega, rfl, hlt, μ4, st4, acc', accV', q1, q2, q3, q4, q5, q6⟩, fun x H3 yy => ?_⟩
      obtain ⟨p3, sr3, rx⟩ := hy x H3 yy
      split at ec
      · rename_i env1 hasg
        refine ⟨μ2, _, st2, _, env1, sr3, er2.mono sr2 p3.pre p3.ext, rx, hasg, fun σ2 er3 b3 => ⟨wipe_but b3 hown, ?_⟩⟩
        obtain ⟨b, st5, e5, e6⟩ := bnd_eq ec
        have hH3 : H3 D = some (.lst accV) := p3.ext _ _ hH2 hD2 fun _ z => by cases z
        have ra3 := ra.mono sr2 p3.pre p3.ext
        refine ⟨μ2, env1, st2, b, st5, sr3, p3.tab, er3, e5, fun μ5 H5 b' p5 sr5 hb => ?_⟩
        subst hb
        have hD5 : D ∉ μ5 := fun hm => by
          rcases p5.new D hm with z | z
          · exact hD2 z
          · rw [hH3] at z; cases z
        have hH5 : H5 D = some (.lst accV) := p5.ext _ _ hH3 hD2 fun _ z => by cases z
        have ra5 := ra3.mono sr3 p5.pre p5.ext
        have p15 := (p2.trans p3).trans p5
        cases b with
        | true =>
          rw [if_pos rfl] at e6 ⊢
          obtain ⟨y, st6, e7, e8⟩ := bnd_eq e6
          refine ⟨μ5, env1, st5, y, st6, sr5, p5.tab, er3.mono sr3 p5.pre p5.ext, e7, fun μ6 H6 v p6 sr6 rv => ?_⟩
          have hH6 : H6 D = some (.lst accV) := p6.ext _ _ hH5 hD5 fun _ z => by cases z
          have hD6 : D ∉ μ6 := fun hm => by
            rcases p6.new D hm with z | z
            · exact hD5 z
            · rw [hH5] at z; cases z
          have ra6 := ra5.mono sr5 p6.pre p6.ext
          split at e8
          · rename_i hz
            have mo : ∀ b o, H6 b = some o → b ≠ D → upd H6 D (.lst (accV ++ [v])) b = some o := fun b o e n => by rw [upd_ne n]; exact e
            have hcl : ∀ a, a ∈ μ6 → a ≠ D := fun a ha z => hD6 (by rw [← z]; exact ha)
            have ext6 : ∀ b o, H6 b = some o → b ∉ D :: μ6 → noTbl o → upd H6 D (.lst (accV ++ [v])) b = some o := fun b o e n _ => mo b o e fun z => n (by rw [z]; exact List.mem_cons_self)
            -- nothing that is known names D
            have rel6 : ∀ {dd : Calc.D} {vv : V}, RelD K μ6 H6 dd vv → RelD K μ6 (upd H6 D (.lst (accV ++ [v]))) dd vv := fun r => RelD.monoN r (List.prefix_refl _) fun b o e n => mo b o e fun z => by
              rw [z, hH6] at e; cases e; exact n _ rfl
            have rels6 : ∀ {dd : List Calc.D} {vv : List V}, RelDs K μ6 H6 dd vv → RelDs K μ6 (upd H6 D (.lst (accV ++ [v]))) dd vv := fun r => RelDs.monoN r (List.prefix_refl _) fun b o e n => mo b o e fun z => by
              rw [z, hH6] at e; cases e; exact n _ rfl
            refine ⟨accV, hH6, by rw [← ra6.length, ← sz_eq]; exact hz, μ6, st6, acc ++ [y], accV ++ [v], ⟨sr6.len, sr6.nd, fun l c e => ?_⟩, hD6, ?_, upd_same, (rels6 ra6).append (.cons (rel6 rv) .nil), e8⟩
            · obtain ⟨a, o, h1, h2, h3⟩ := sr6.at_ l c e
              refine ⟨a, o, h1, mo a o h2 (hcl a (List.mem_of_getElem? h1)), ?_⟩
              cases c with
              | lst zs => obtain ⟨ws, e, r⟩ := h3; exact ⟨ws, e, rels6 r⟩
              | dic _ => exact h3.elim
            · have p16 := p15.trans p6
              refine ⟨p16.pre, fun b o e n nt => mo b o (p16.ext b o e n nt) fun z => ?_, p16.new, p16.tab.upd (.inr ⟨_, hH6⟩), fun b e => ?_⟩
              · rw [z, hD] at e; cases e
              · by_cases z : b = D
                · rw [z]; exact hD
                · rw [upd_ne z] at e; exact p16.there b e
          · cases e8
        | false =>
          rw [if_neg Bool.false_ne_true] at e6 ⊢
          exact ⟨μ5, st5, acc, accV, sr5, hD5, p15, hH5, ra5, e6⟩
      · cases ec
    · cases ec
  · have hie : i = w.items.length := by omega
    subst hie
    rw [List.drop_length] at ec
    unfold compW at ec
    split at ec
    · rename_i hok
      cases ec
      obtain ⟨_, hw2⟩ := wr _ μ2 _ H2 sr2 p2.tab p2 hok
      refine .inl ⟨hw2 (Nat.le_refl _), ?_⟩
      refine kk (μ2 ++ [D]) H2 _ ((p1.trans p2).push (p1.there D hD)) (sr2.push hH2 hD2 ra) (.loc ?_)
      rw [← sr2.len, List.getElem?_append_right (Nat.le_refl _), Nat.sub_self]; rfl
    · cases ec
end
end Calc
end
section
set_option Elab.async false
set_option linter.all false
set_option maxRecDepth 100000
set_option autoImplicit false
/-! statements -/
namespace Calc
open PySem PySem.Spec PyProof.Rows L2

def Cont (K : PySem.W.Frag) (Tb μ : List Addr) (H : Hp) (E : Ends) (fl : Flow) (env' : Env) (st' : Store) : Prop := match fl with
  | .next => ∀ μ' H' σ', Post Tb μ H μ' H' → StR K μ' H' st' → EnvR K μ' H' env' σ' → E.nx σ' H'
  | .brk => ∀ μ' H' σ', Post Tb μ H μ' H' → StR K μ' H' st' → EnvR K μ' H' env' σ' → E.bk σ' H'
  | .cnt => ∀ μ' H' σ', Post Tb μ H μ' H' → StR K μ' H' st' → EnvR K μ' H' env' σ' → E.ct σ' H'
  | .ret d => ∀ μ' H' v, Post Tb μ H μ' H' → StR K μ' H' st' → RelD K μ' H' d v → E.rt v H'
theorem Cont.after {K : PySem.W.Frag} {Tb μ μ1 : List Addr} {H H1 : Hp} {E : Ends} {fl : Flow} {env' : Env} {st' : Store} (c : Cont K Tb μ H E fl env' st') (p : Post Tb μ H μ1 H1) : Cont K Tb μ1 H1 E fl env' st' := by
  cases fl with
  | next => exact fun μ' H' σ' q => c μ' H' σ' (p.trans q)
  | brk => exact fun μ' H' σ' q => c μ' H' σ' (p.trans q)
  | cnt => exact fun μ' H' σ' q => c μ' H' σ' (p.trans q)
  | ret d => exact fun μ' H' v q => c μ' H' v (p.trans q)
def tSt (K : PySem.W.Frag) (Tb : List Addr) (m : Env → Store → R) : TS := fun E σ H =>
  ∃ μ env st fl env' st', StR K μ H st ∧ TabsR Tb H ∧ EnvR K μ H env σ ∧ m env st = some (fl, env', st') ∧ Cont K Tb μ H E fl env' st'

section
variable {X : Cx} {Tb : List Addr} {N : List Str} {sc : Scope} {g : Bool} {e e1 e2 e3 : Expr} {es : List Expr} {pos : Pos} {m m1 m2 m3 : Env → Store → Option (D × Store)} {mb : Env → Store → Option (Bool × Store)} {ms : Env → Store → Option (List D × Store)} {k k1 k2 : Env → Store → R} {st : Stmt} {rest body : List Stmt}

/-- first m, then the rest of the statement -/
theorem tSt_bnd {α β : Type} {K : PySem.W.Frag} {RA : List Addr → Hp → α → β → Prop} {mm : Env → Store → Option (α × Store)} {f : Env → α → Store → R} {σ : L2.St} {H : Hp} {E : Ends} {Rr : β → Hp → Prop} (h : tSt K Tb (fun env st => bnd (mm env st) (f env)) E σ H)
    (w : ∀ μ env st a b H1 fl env' st', StR K μ H1 st → TabsR Tb H1 → EnvR K μ H1 env σ → RA μ H1 a b → f env a st = some (fl, env', st') → Cont K Tb μ H1 E fl env' st' → Rr b H1) : tM K Tb RA mm σ H Rr := by
  obtain ⟨μ, env, st, fl, env', st', sr, tb, er, ee, kk⟩ := h
  obtain ⟨a, st1, e1, e2⟩ := bnd_eq ee
  exact ⟨μ, env, st, a, st1, sr, tb, er, e1, fun μ1 H1 b p1 sr1 r1 => w μ1 env st1 a b H1 fl env' st' sr1 p1.tab (er.mono sr p1.pre p1.ext) r1 e2 (kk.after p1)⟩

theorem ds_nil : PSs X [] (tSt X.K Tb fun env st => some (.next, env, st)) := pss_nil.imp fun E σ H q => by
  obtain ⟨μ, env, st, fl, env', st', sr, tb, er, ee, kk⟩ := q
  cases ee
  exact kk μ H σ (.refl tb) sr er
theorem ds_cons (h1 : PS X st (tSt X.K Tb k1)) (h2 : PSs X rest (tSt X.K Tb k2)) : PSs X (st :: rest) (tSt X.K Tb fun env st => match k1 env st with
    | some (.next, env', st') => k2 env' st'
    | r => r) := by
  refine (pss_cons h1 h2).imp fun E σ H q => ?_
  obtain ⟨μ, env, st, fl, env', st', sr, tb, er, ee, kk⟩ := q
  dsimp only at ee
  cases e1 : k1 env st with
  | none => rw [e1] at ee; cases ee
  | some p =>
    obtain ⟨fl1, env1, st1⟩ := p
    rw [e1] at ee
    cases fl1 with
    | next => exact ⟨μ, env, st, .next, env1, st1, sr, tb, er, e1, fun μ1 H1 σ1 p1 sr1 er1 => ⟨μ1, env1, st1, fl, env', st', sr1, p1.tab, er1, ee, kk.after p1⟩⟩
    | brk => cases ee; exact ⟨μ, env, st, .brk, _, _, sr, tb, er, e1, kk⟩
    | cnt => cases ee; exact ⟨μ, env, st, .cnt, _, _, sr, tb, er, e1, kk⟩
    | ret d => cases ee; exact ⟨μ, env, st, .ret d, _, _, sr, tb, er, e1, kk⟩
theorem ds_ex (h : PE X e (tE X.K Tb m)) (hc : notComp e = true) : PS X (.Expr e pos) (tSt X.K Tb fun env st => bnd (m env st) fun _ st1 => some (.next, env, st1)) := by
  refine (ps_expr h (swap_ok hc)).imp fun E σ H q => ?_
  refine tSt_bnd (RA := RelD X.K) (f := fun env _ st1 => some (.next, env, st1)) q fun μ env st a b H1 fl env' st' sr tb er r ee kk => ?_
  cases ee
  exact kk μ H1 σ (.refl tb) sr er
theorem set_read {i : Nat} {σ : L2.St} {H : Hp} {E : Ends} {K : PySem.W.Frag} (q : tSt K Tb (fun env st => bnd (m env st) fun x st1 => if i < env.length then some (.next, env.set i (some x), st1) else none) E σ H) : tAsg (tE K Tb m) (gName i) E σ H := by
  refine tSt_bnd (RA := RelD K) (f := fun env x st1 => if i < env.length then some (.next, env.set i (some x), st1) else none) q fun μ env st a b H1 fl env' st' sr tb er r ee kk => ?_
  split at ee
  · cases ee; exact kk μ H1 _ (.refl tb) sr (er.set r i)
  · cases ee
theorem loc_of {top : Bool} {x : Str} (ok : XOk X Tb N sc top g) (h : isLoc sc top x = true) : Loc X.env.scope x ∧ (X.fn x = true ∨ X.env.scope.names.lookup x = some .local) := by
  rw [ok.eS]
  unfold isLoc at h
  split at h
  · exact ⟨.inl (by assumption), .inr (by assumption)⟩
  · exact ⟨.inr (by assumption), .inl (ok.fn h x)⟩
  · cases h
theorem ds_set {top : Bool} {i : Nat} {x : Str} {p : Pos} (ok : XOk X Tb N sc top g) (h1 : N[i]? = some x) (h2 : isLoc sc top x = true) (h : PE X e (tE X.K Tb m)) (hs : swapsWith e (some (.Name x p)) pos.line X.env = pure false) :
    PS X (.Assign [.Name x p] e pos) (tSt X.K Tb fun env st => bnd (m env st) fun x st1 => if i < env.length then some (.next, env.set i (some x), st1) else none) := by
  obtain ⟨l1, l2⟩ := loc_of ok h2
  exact (ps_set (i := i) (by rw [ok.eN]; exact ok.nd) (by rw [ok.eN]; exact h1) l1 h hs l2).imp fun E σ H q => set_read q
theorem swap_comp {elt : Expr} {gs : List Comprehension} {scope : Scope} {p py : Pos} {y : Str} {l : Nat} {env : PySem.Env} :
    swapsWith (.ListComp elt gs scope p) (some (.Name y py)) l env = pure (env.blockKind == .function && env.kindOf y == some .local && py.line == p.line && !(scope.names.any fun (n, k) => n == y && (k == .local || k == .cell))) := rfl
theorem unp_read {t : T} {σ : L2.St} {H : Hp} {E : Ends} {K : PySem.W.Frag} (q : tSt K Tb (fun env st => bnd (m env st) fun x st1 => match asg t x env with
    | some env' => some (.next, env', st1)
    | none => none) E σ H) : tAsg (tE K Tb m) (tTg K t) E σ H := by
  refine tSt_bnd (RA := RelD K) (f := fun env x st1 => match asg t x env with
    | some env' => some (.next, env', st1)
    | none => none) q fun μ env st a b H1 fl env' st' sr tb er r ee kk => ?_
  split at ee
  · rename_i env1 h1
    cases ee
    exact ⟨μ, env, st, a, _, sr, er, r, h1, fun σ' er' _ => kk μ H1 σ' (.refl tb) sr er'⟩
  · cases ee
theorem ds_unp {top : Bool} {t : T} {tg : Expr} (ok : XOk X Tb N sc top g) (ht : chkT N sc top t tg = true) (hn : notStar tg = true) (h : PE X e (tE X.K Tb m)) (hc : notComp e = true) (ht2 : notTup e = true) :
    PS X (.Assign [tg] e pos) (tSt X.K Tb fun env st => bnd (m env st) fun x st1 => match asg t x env with
      | some env' => some (.next, env', st1)
      | none => none) := by
  refine (ps_asg h (dg ok t tg ht) (swap_ok hc) ?_ (each_cons hn)).imp fun E σ H q => unp_read q
  cases e <;> first | (cases ht2; done) | (cases tg <;> rfl)
/-- a, b = x, y of local names -/
theorem swapped_2 {x y : Str} {a b : Expr} {px py pt : Pos} {kt k2 : Nat} {pt2 : Pos} {env : PySem.Env} (hk : env.scope.kind = .function) (hx : env.scope.names.lookup x = some .local) (hy : env.scope.names.lookup y = some .local) (hl : (py.line == px.line) = true) (hxy : x ≠ y) (ha : notStar a = true) (hb : notStar b = true)
    (hf : [a, b].all (foldedForSure 8) = false) (hcs : [a, b].all (constantsAlone 8) = false) : swappedStores [.Tuple [.Name x px, .Name y py] kt pt] (.Tuple [a, b] k2 pt2) env = pure (some [x, y]) := by
  have hbk : (env.blockKind != .function) = false := by unfold Env.blockKind; rw [hk]; rfl
  have e1 : (env.kindOf x == some .local && px.line == px.line) = true := by
    have : env.kindOf x = some .local := hx
    rw [this]; simp
  have e2 : (env.kindOf y == some .local && py.line == px.line) = true := by
    have : env.kindOf y = some .local := hy
    rw [this, hl]; rfl
  have hed : ([x, y].eraseDups.length != [x, y].length) = false := by
    have : (y == x) = false := by simpa using Ne.symm hxy
    simp [List.eraseDups_cons, this]
  unfold swappedStores
  simp only [List.length_cons, List.length_nil, hbk, List.head?_cons, Option.map_some, Option.getD_some, Expr.pos, List.filterMap_cons, List.filterMap_nil, e1, e2, if_true]
  refine (if_neg (by decide)).trans ((if_neg fun h => ?_).trans ((if_neg ?_).trans ((if_neg ?_).trans ((if_neg ?_).trans rfl))))
  · cases a <;> first | (cases ha; done) | (cases b <;> first | (cases hb; done) | exact absurd h Bool.false_ne_true)
  · simp only [List.length_cons, List.length_nil] at hed
    simp only [List.length_cons, List.length_nil, hed]
    decide
  · rw [hf]; exact Bool.false_ne_true
  · rw [hcs]; exact Bool.false_ne_true
theorem ds_par {top : Bool} {i j : Nat} {x y : Str} {px py pt : Pos} {kt k2 : Nat} {pt2 : Pos} (ok : XOk X Tb N sc top g) (hi : N[i]? = some x) (hj : N[j]? = some y) (hx : sc.names.lookup x = some .local) (hy : sc.names.lookup y = some .local) (hk : sc.kind = .function) (hl : (py.line == px.line) = true) (hxy : x ≠ y) (h1 : PE X e1 (tE X.K Tb m1)) (h2 : PE X e2 (tE X.K Tb m2))
    (ha : notStar e1 = true) (hb : notStar e2 = true) (hf : [e1, e2].all (foldedForSure 8) = false) (hcs : [e1, e2].all (constantsAlone 8) = false) :
    PS X (.Assign [.Tuple [.Name x px, .Name y py] kt pt] (.Tuple [e1, e2] k2 pt2) pos) (tSt X.K Tb fun env st => bnd (m1 env st) fun x st1 => bnd (m2 env st1) fun y st2 =>
      if i < env.length ∧ j < env.length then some (.next, (env.set i (some x)).set j (some y), st2) else none) := by
  have hij : i ≠ j := fun z => by subst z; rw [hi] at hj; exact hxy (Option.some.inj hj)
  refine (ps_par (i := i) (j := j) ok.calm (by rw [ok.eN]; exact ok.nd) (by rw [ok.eN]; exact hi) (by rw [ok.eN]; exact hj) hij (by rw [ok.eS]; exact hx) (by rw [ok.eS]; exact hy) (pa_cons h1 (pa_cons h2 pa_nil (star_ok hb)) (star_ok ha)) (swapped_2 (by rw [ok.eS]; exact hk) (by rw [ok.eS]; exact hx) (by rw [ok.eS]; exact hy) hl hxy ha hb hf hcs)).imp fun E σ H q => ?_
  refine tSt_bnd (RA := RelD X.K) (f := fun env x st1 => bnd (m2 env st1) fun y st2 => if i < env.length ∧ j < env.length then some (.next, (env.set i (some x)).set j (some y), st2) else none) q fun μ env st a b H1 fl env' st' sr tb er r ee kk => ?_
  obtain ⟨c, st2, e3, e4⟩ := bnd_eq ee
  refine ⟨μ, env, st, c, st2, sr, tb, er, e3, fun μ2 H2 v2 p2 sr2 r2 => ⟨b, v2, rfl, ?_⟩⟩
  split at e4
  · cases e4
    exact kk μ2 H2 _ p2 sr2 (((er.mono sr p2.pre p2.ext).set (r.mono sr p2.pre p2.ext) i).set r2 j)
  · cases e4
theorem ds_sub {o i : Expr} {p : Pos} {mo mi : Env → Store → Option (D × Store)} (h : PE X e (tE X.K Tb m)) (ho : PE X o (tE X.K Tb mo)) (hi : PE X i (tE X.K Tb mi)) (hc : notComp e = true) (hs : notSlice i = true) :
    PS X (.Assign [.Subscript o i p] e pos) (tSt X.K Tb fun env st => bnd (m env st) fun v st1 => bnd (mo env st1) fun x st2 => bnd (mi env st2) fun k st3 => match setIx x k v st3 with
      | some st4 => some (.next, env, st4)
      | none => none) := by
  refine (ps_asg h (pg_sub ho hi (set_rel (Tb := Tb)) (fun v => by cases i <;> first | (cases hs; done) | rfl)) (by show swapsWith e (some (.Subscript o i p)) pos.line X.env = _; exact swap_ok hc) (by cases e <;> rfl) (by rfl)).imp fun E σ H q => ?_
  refine tSt_bnd (RA := RelD X.K) (f := fun env v st1 => bnd (mo env st1) fun x st2 => bnd (mi env st2) fun k st3 => match setIx x k v st3 with
      | some st4 => some (.next, env, st4)
      | none => none) q fun μ env st a b H1 fl env' st' sr tb er r ee kk => ?_
  obtain ⟨c, st2, e3, e4⟩ := bnd_eq ee
  refine ⟨μ, env, st, c, st2, sr, tb, er, e3, fun μ2 H2 v2 p2 sr2 r2 => ?_⟩
  obtain ⟨c3, st3, e5, e6⟩ := bnd_eq e4
  have er2 := er.mono sr p2.pre p2.ext
  refine ⟨μ2, env, st2, c3, st3, sr2, p2.tab, er2, e5, fun μ3 H3 v3 p3 sr3 r3 => ?_⟩
  split at e6
  · rename_i st4 h4
    cases e6
    exact ⟨μ3, st3, c, c3, a, _, sr3, p3.tab, r2.mono sr2 p3.pre p3.ext, r3, (r.mono sr p2.pre p2.ext).mono sr2 p3.pre p3.ext, h4, fun μ' H' p' s' => kk μ' H' σ ((p2.trans p3).trans p') s' ((er2.mono sr2 p3.pre p3.ext).mono sr3 p'.pre p'.ext)⟩
  · cases e6
def ipM (K : PySem.W.Frag) (Tb : List Addr) (op : Bop) : TIp := fun x y H Q => ∃ i j μ st c st', x = .int i ∧ y = .int j ∧ StR K μ H st ∧ TabsR Tb H ∧ binop op (.int i) (.int j) st = some (c, st') ∧ (∀ v, RelD K μ H c v → st' = st → Q v H)
theorem ip_any {op : Bop} (ho : op = .add ∨ op = .sub ∨ op = .mul) : PIp X (opr op) (ipM X.K Tb op) := by
  intro pins s σ H x y v u Q I r1 r2 h
  obtain ⟨i, j, μ, st, c, st', rfl, rfl, sr, tb, e, q⟩ := h
  rcases ho with rfl | rfl | rfl
  · cases e
    exact ip_add pins s σ H _ _ v u Q I r1 r2 ⟨_, _, rfl, rfl, q _ (.int _) rfl⟩
  · cases e
    exact ip_sub pins s σ H _ _ v u Q I r1 r2 ⟨_, _, rfl, rfl, q _ (.int _) rfl⟩
  · simp only [binop] at e
    split at e
    · rename_i hc
      cases e
      obtain ⟨t, rfl⟩ := r1
      obtain ⟨t', rfl⟩ := r2
      exact imul_int ⟨.int _, H, I.tok _, ⟨_, rfl⟩, q _ (.int _) rfl⟩ (CMulW.ok (by unfold mulOk at hc; unfold L2.CMulW; exact of_decide_eq_true hc))
    · cases e
theorem ds_aug {top : Bool} {i : Nat} {x : Str} {p : Pos} {op : Bop} {o : Operator} (ok : XOk X Tb N sc top g) (hop : oprC op o = true) (ho : op = .add ∨ op = .sub ∨ op = .mul) (h1 : N[i]? = some x) (h2 : isLoc sc top x = true) (h : PE X e (tE X.K Tb m)) :
    PS X (.AugAssign (.Name x p) o e pos) (tSt X.K Tb fun env st => match env[i]? with
      | some (some x) => bnd (m env st) fun y st1 => bnd (match x, y with
        | .int _, .int _ => binop op x y st1
        | _, _ => none) fun z st2 => some (.next, env.set i (some z), st2)
      | _ => none) := by
  rw [oprC_eq hop]
  obtain ⟨l1, l2⟩ := loc_of ok h2
  refine (ps_aug (i := i) (by rw [ok.eN]; exact ok.nd) (by rw [ok.eN]; exact h1) l1 h (ip_any (Tb := Tb) ho) l2).imp fun E σ H q => ?_
  obtain ⟨μ, env, st, fl, env', st', sr, tb, er, ee, kk⟩ := q
  dsimp only at ee
  split at ee
  · rename_i d hd
    obtain ⟨v, hv, rv⟩ := er.at_ i d hd
    obtain ⟨y, st1, e1, e2⟩ := bnd_eq ee
    refine ⟨v, hv, μ, env, st, y, st1, sr, tb, er, e1, fun μ1 H1 w p1 sr1 r1 => ?_⟩
    obtain ⟨z, st2, e3, e4⟩ := bnd_eq e2
    cases e4
    split at e3
    · rename_i a b
      cases rv; cases r1
      refine ⟨a, b, μ1, st1, z, _, rfl, rfl, sr1, p1.tab, e3, fun v' rv' hst => ?_⟩
      subst hst
      exact kk μ1 H1 _ p1 sr1 ((er.mono sr p1.pre p1.ext).set rv' i)
    · cases e3
  · cases ee
theorem ds_ret (h : PE X e (tE X.K Tb m)) : PS X (.Return (some e) pos) (tSt X.K Tb fun env st => bnd (m env st) fun x st1 => some (.ret x, env, st1)) := by
  refine (ps_ret h).imp fun E σ H q => ?_
  refine tSt_bnd (RA := RelD X.K) (f := fun env x st1 => some (.ret x, env, st1)) q fun μ env st a b H1 fl env' st' sr tb er r ee kk => ?_
  cases ee
  exact kk μ H1 b (.refl tb) sr r
theorem ds_ret0 : PS X (.Return none pos) (tSt X.K Tb fun env st => some (.ret .non, env, st)) := ps_retN.imp fun E σ H q => by
  obtain ⟨μ, env, st, fl, env', st', sr, tb, er, ee, kk⟩ := q
  cases ee
  exact kk μ H .non (.refl tb) sr .non
theorem ds_brk : PS X (.Break pos) (tSt X.K Tb fun env st => some (.brk, env, st)) := ps_break.imp fun E σ H q => by
  obtain ⟨μ, env, st, fl, env', st', sr, tb, er, ee, kk⟩ := q
  cases ee
  exact kk μ H σ (.refl tb) sr er
theorem ds_cnt : PS X (.Continue pos) (tSt X.K Tb fun env st => some (.cnt, env, st)) := ps_continue.imp fun E σ H q => by
  obtain ⟨μ, env, st, fl, env', st', sr, tb, er, ee, kk⟩ := q
  cases ee
  exact kk μ H σ (.refl tb) sr er
theorem ds_pass : PS X (.Pass pos) (tSt X.K Tb fun env st => some (.next, env, st)) := ps_pass.imp fun E σ H q => by
  obtain ⟨μ, env, st, fl, env', st', sr, tb, er, ee, kk⟩ := q
  cases ee
  exact kk μ H σ (.refl tb) sr er
theorem ds_never : PS X st (tSt X.K Tb fun _ _ => none) := ps_never.imp fun E σ H q => by
  obtain ⟨μ, env, st, fl, env', st', sr, tb, er, ee, kk⟩ := q
  cases ee
theorem ds_ite {c : Expr} {a b : List Stmt} (hc : PT X c (tB X.K Tb mb)) (ha : PSs X a (tSt X.K Tb k1)) (hb : PSs X b (tSt X.K Tb k2)) : PS X (.If c a b pos) (tSt X.K Tb fun env st => bnd (mb env st) fun k st1 => if k = true then k1 env st1 else k2 env st1) := by
  refine (ps_if hc ha hb).imp fun E σ H q => ?_
  refine tSt_bnd (RA := fun _ _ a b => a = b) (f := fun env k st1 => if k = true then k1 env st1 else k2 env st1) q fun μ env st a b H1 fl env' st' sr tb er r ee kk => ?_
  subst r
  cases a with
  | true => rw [if_pos rfl] at ee ⊢; exact ⟨μ, env, st, fl, env', st', sr, tb, er, ee, kk⟩
  | false => rw [if_neg Bool.false_ne_true] at ee ⊢; exact ⟨μ, env, st, fl, env', st', sr, tb, er, ee, kk⟩

/-! ### loops -/
theorem ds_whl {c : Expr} (hx : X.xe = fun _ _ => False) (hc : PT X c (tB X.K Tb mb)) (hb : PSs X body (tSt X.K Tb k)) : PS X (.While c body [] pos) (tSt X.K Tb fun env st => whileW (fun env st => bnd (mb env st) fun z st1 => if z = true then k env st1 else some (.brk, env, st1)) env st) := by
  refine (ps_while (by rw [hx]; exact PassesOwn.never) hc hb).imp fun E σ H q => ?_
  obtain ⟨μ, env, st, fl, env', st', sr, tb, er, ee, kk⟩ := q
  obtain ⟨n, hn⟩ := whileW_iff.mp ee
  refine ⟨fun n σ1 H1 => ∃ μ1 env1 st1, StR X.K μ1 H1 st1 ∧ EnvR X.K μ1 H1 env1 σ1 ∧ Post Tb μ H μ1 H1 ∧ iterW (fun env st => bnd (mb env st) fun z st1 => if z = true then k env st1 else some (.brk, env, st1)) n env1 st1 = some (fl, env', st'), ⟨n, μ, env, st, sr, er, .refl tb, hn⟩, ?_⟩
  rintro n1 σ1 H1 ⟨μ1, env1, st1, sr1, er1, p1, h1⟩
  cases n1 with
  | zero => cases h1
  | succ n1 =>
    unfold iterW at h1
    cases ef : bnd (mb env1 st1) fun z st1 => if z = true then k env1 st1 else some (.brk, env1, st1) with
    | none => rw [ef] at h1; cases h1
    | some p =>
      obtain ⟨fl2, env2, st2⟩ := p
      rw [ef] at h1
      obtain ⟨z, st3, e3, e4⟩ := bnd_eq ef
      refine ⟨μ1, env1, st1, z, st3, sr1, p1.tab, er1, e3, fun μ3 H3 z' p3 sr3 hz => ?_⟩
      subst hz
      have p13 := p1.trans p3
      have er3 := er1.mono sr1 p3.pre p3.ext
      cases z with
      | false =>
        rw [if_neg Bool.false_ne_true] at e4 ⊢
        cases e4
        cases h1
        exact kk μ3 H3 σ1 p13 sr3 er3
      | true =>
        rw [if_pos rfl] at e4 ⊢
        refine ⟨fun σ4 H4 => ∃ μ4 env4 st4, StR X.K μ4 H4 st4 ∧ EnvR X.K μ4 H4 env4 σ4 ∧ Post Tb μ H μ4 H4 ∧ iterW (fun env st => bnd (mb env st) fun z st1 => if z = true then k env st1 else some (.brk, env, st1)) n1 env4 st4 = some (fl, env', st'), fun σ4 H4 ⟨μ4, env4, st4, a1, a2, a3, a4⟩ => ⟨n1, Nat.lt_succ_self _, μ4, env4, st4, a1, a2, a3, a4⟩, ?_⟩
        refine ⟨μ3, env1, st3, fl2, env2, st2, sr3, p3.tab, er3, e4, ?_⟩
        cases fl2 with
        | next => exact fun μ4 H4 σ4 p4 sr4 er4 => ⟨μ4, env2, st2, sr4, er4, p13.trans p4, h1⟩
        | cnt => exact fun μ4 H4 σ4 p4 sr4 er4 => ⟨μ4, env2, st2, sr4, er4, p13.trans p4, h1⟩
        | brk => cases h1; exact fun μ4 H4 σ4 p4 sr4 er4 => kk μ4 H4 σ4 (p13.trans p4) sr4 er4
        | ret d => cases h1; exact fun μ4 H4 v p4 sr4 rv => kk μ4 H4 v (p13.trans p4) sr4 rv
theorem ds_for {top : Bool} {t : T} {tg iter : Expr} {mw : Env → Store → Option (Walk × Store)} (ok : XOk X Tb N sc top g) (hx : X.xe = fun _ _ => False) (hi : PI X tg iter (tW X.K Tb mw)) (ht : chkT N sc top t tg = true) (hb : PSs X body (tSt X.K Tb k)) (hs : notSet iter = true) :
    PS X (.For tg iter body [] pos) (tSt X.K Tb fun env st => bnd (mw env st) fun w st1 => forW w.ok t k w.items env st1) := by
  refine (ps_for (by rw [hx]; exact PassesOwn.never) ok.calm hi (dg ok t tg ht) hb (fun _ => set_ok hs)).imp fun E σ H q => ?_
  obtain ⟨μ, env, st, fl, env', st', sr, tb, er, ee, kk⟩ := q
  obtain ⟨w, st1, e1, e2⟩ := bnd_eq ee
  refine ⟨μ, env, st, w, st1, sr, tb, er, e1, fun μ1 H1 J p1 sr1 wr => ?_⟩
  refine ⟨fun i n σ2 H2 => n = w.items.length - i ∧ i ≤ w.items.length ∧ ∃ μ2 env2 st2, StR X.K μ2 H2 st2 ∧ EnvR X.K μ2 H2 env2 σ2 ∧ Post Tb μ1 H1 μ2 H2 ∧ forW w.ok t k (w.items.drop i) env2 st2 = some (fl, env', st'), ⟨_, rfl, Nat.zero_le _, μ1, env, st1, sr1, er.mono sr p1.pre p1.ext, .refl p1.tab, by rw [List.drop_zero]; exact e2⟩, ?_⟩
  rintro i n σ2 H2 ⟨rfl, hi2, μ2, env2, st2, sr2, er2, p2, ef⟩
  by_cases hlt : i < w.items.length
  · rw [List.drop_eq_getElem_cons hlt] at ef
    unfold forW at ef
    split at ef
    · rename_i hok
      obtain ⟨hw1, _⟩ := wr i μ2 st2 H2 sr2 p2.tab p2 hok
      obtain ⟨hgo, hy⟩ := hw1 _ (List.getElem?_eq_getElem hlt)
      refine .inr ⟨hgo, fun σ4 H4 => ∃ μ4 env4 st4, StR X.K μ4 H4 st4 ∧ EnvR X.K μ4 H4 env4 σ4 ∧ Post Tb μ1 H1 μ4 H4 ∧ forW w.ok t k (w.items.drop (i + 1)) env4 st4 = some (fl, env', st'), fun σ4 H4 ⟨μ4, env4, st4, a1, a2, a3, a4⟩ => ⟨w.items.length - (i + 1), by omega, rfl, hlt, μ4, env4, st4, a1, a2, a3, a4⟩, fun x H3 yy => ?_⟩
      obtain ⟨p3, sr3, rx⟩ := hy x H3 yy
      split at ef
      · rename_i env1 hasg
        refine ⟨μ2, env2, st2, _, env1, sr3, er2.mono sr2 p3.pre p3.ext, rx, hasg, fun σ5 er5 _ => ?_⟩
        cases eb : k env1 st2 with
        | none => rw [eb] at ef; cases ef
        | some p =>
          obtain ⟨fl6, env6, st6⟩ := p
          rw [eb] at ef
          refine ⟨μ2, env1, st2, fl6, env6, st6, sr3, p3.tab, er5, eb, ?_⟩
          have p123 := p1.trans (p2.trans p3)
          cases fl6 with
          | next => exact fun μ7 H7 σ7 p7 sr7 er7 => ⟨μ7, env6, st6, sr7, er7, (p2.trans p3).trans p7, ef⟩
          | cnt => exact fun μ7 H7 σ7 p7 sr7 er7 => ⟨μ7, env6, st6, sr7, er7, (p2.trans p3).trans p7, ef⟩
          | brk => cases ef; exact fun μ7 H7 σ7 p7 sr7 er7 => kk μ7 H7 σ7 (p123.trans p7) sr7 er7
          | ret d => cases ef; exact fun μ7 H7 v p7 sr7 rv => kk μ7 H7 v (p123.trans p7) sr7 rv
      · cases ef
    · cases ef
  · have hie : i = w.items.length := by omega
    subst hie
    rw [List.drop_length] at ef
    unfold forW at ef
    split at ef
    · rename_i hok
      cases ef
      obtain ⟨_, hw2⟩ := wr _ μ2 _ H2 sr2 p2.tab p2 hok
      exact .inl ⟨hw2 (Nat.le_refl _), kk μ2 H2 σ2 (p1.trans p2) sr2 er2⟩
    · cases ef
end
end Calc
end
section
set_option Elab.async false
set_option linter.all false
set_option maxRecDepth 100000
set_option autoImplicit false
/-! generator expressions: what is handed out next; the generator's own frame -/
namespace Calc
open PySem PySem.Spec PyProof.Rows L2

/-- the next item that passes -/
def nextG (ok : Store → Bool) (t : T) (env : Env) (test : Env → Store → Option (Bool × Store)) (elt : Env → Store → Option (D × Store)) : List D → Store → Option (Option (D × List D) × Store)
  | [], st => if ok st then some (none, st) else none
  | x :: xs, st => if ok st then (match asg t x env with
    | some env1 => bnd (test env1 st) fun b st1 => if b = true then bnd (elt env1 st1) fun y st2 => some (some (y, xs), st2) else nextG ok t env test elt xs st1
    | none => none) else none
section
variable {ok : Store → Bool} {t : T} {env : Env} {test : Env → Store → Option (Bool × Store)} {elt : Env → Store → Option (D × Store)}
theorem nextG_len : ∀ {xs : List D} {st : Store} {y : D} {ys : List D} {st' : Store}, nextG ok t env test elt xs st = some (some (y, ys), st') → ys.length < xs.length
  | [], st, y, ys, st', h => by
    unfold nextG at h
    split at h
    · cases h
    · cases h
  | x :: xs, st, y, ys, st', h => by
    unfold nextG at h
    split at h
    · split at h
      · obtain ⟨b, st1, h1, h2⟩ := bnd_eq h
        split at h2
        · obtain ⟨z, st2, h3, h4⟩ := bnd_eq h2
          cases h4
          exact Nat.lt_succ_self _
        · exact Nat.lt_succ_of_lt (nextG_len h2)
      · cases h
    · cases h
theorem compW_next : ∀ {xs : List D} {acc : List D} {st : Store} {r : List D × Store}, compW ok t env test elt xs acc st = some r →
    ∃ o st1, nextG ok t env test elt xs st = some (o, st1) ∧ (match o with
      | none => r = (acc, st1)
      | some (y, ys) => acc.length < SZ ∧ compW ok t env test elt ys (acc ++ [y]) st1 = some r)
  | [], acc, st, r, h => by
    unfold compW at h
    unfold nextG
    split at h
    · rename_i hk
      rw [if_pos hk]
      cases h
      exact ⟨none, st, rfl, rfl⟩
    · cases h
  | x :: xs, acc, st, r, h => by
    unfold compW at h
    unfold nextG
    split at h
    · rename_i hk
      rw [if_pos hk]
      split at h
      · rename_i env1 ha
        try rw [ha]
        obtain ⟨b, st1, h1, h2⟩ := bnd_eq h
        simp only [h1, bnd]
        split at h2
        · rename_i hb
          obtain ⟨z, st2, h3, h4⟩ := bnd_eq h2
          rw [if_pos hb]
          simp only [h3]
          split at h4
          · rename_i hz
            exact ⟨some (z, xs), st2, rfl, hz, h4⟩
          · cases h4
        · rename_i hb
          rw [if_neg hb]
          exact compW_next h2
      · cases h
    · cases h
theorem quantW_next {w : Bool} : ∀ {xs : List D} {st : Store} {r : Bool × Store}, quantW w ok t env test elt xs st = some r →
    ∃ o st1, nextG ok t env test elt xs st = some (o, st1) ∧ (match o with
      | none => r = (!w, st1)
      | some (y, ys) => ∃ c, y = .bl c ∧ (if c = w then r = (w, st1) else quantW w ok t env test elt ys st1 = some r))
  | [], st, r, h => by
    unfold quantW at h
    unfold nextG
    split at h
    · rename_i hk
      rw [if_pos hk]
      cases h
      exact ⟨none, st, rfl, rfl⟩
    · cases h
  | x :: xs, st, r, h => by
    unfold quantW at h
    unfold nextG
    split at h
    · rename_i hk
      rw [if_pos hk]
      split at h
      · rename_i env1 ha
        try rw [ha]
        obtain ⟨b, st1, h1, h2⟩ := bnd_eq h
        simp only [h1, bnd]
        split at h2
        · rename_i hb
          obtain ⟨z, st2, h3, h4⟩ := bnd_eq h2
          rw [if_pos hb]
          simp only [h3]
          split at h4
          · rename_i c
            refine ⟨some (_, xs), st2, rfl, c, rfl, ?_⟩
            split at h4
            · rename_i hw
              rw [if_pos hw]
              cases h4; rfl
            · rename_i hw
              rw [if_neg hw]
              exact h4
          · cases h4
        · rename_i hb
          rw [if_neg hb]
          exact quantW_next h2
      · cases h
    · cases h
end

/-- the context of a generator expression's own frame -/
abbrev Cx.gn (X : Cx) (s : Shared) (H : Hp) (cenv : PySem.Env) (A : Around) (fp : List Addr) : Cx :=
  { X with s_0 := s, H_0 := H, env := cenv, A := A, outer := X.stack, stack := cenv :: X.stack, ex := fp, fn := fun _ => false, calm := true, pn := [], xe := fun _ _ => False }

section
variable {X : Cx} {pins : List (Addr × Obj)} {σ : L2.St} {H : Hp} {s : Shared}
theorem gen_start {scope : Scope} {own : List (Str × Nat)} {fp : List Addr} {cenv : PySem.Env} {A : Around} {s5 : Shared} {m : Str → Option Value} (I : Inv X pins σ H s) (ok : BlkOk X.N X.env.scope scope own) (hnc : ∀ y ∈ scope.names, y.2 ≠ .cell) (hN : X.N.Nodup)
    (hfp : ∀ b ∈ fp, FpOk X pins H b ∧ b < s.heap.objs.size)
    (hsc : cenv.scope = scope) (hL : cenv.locals = s.heap.objs.size) (hcl : cenv.cells = cloFrom X.env.cells scope.names []) (hg : cenv.globals = mainGlobals) (hbt : cenv.builtins = builtinsNs) (hfr : cenv.frame = some cenv.locals)
    (hA : A.frames = some (cenv :: X.stack)) (hAh : A.handled = none)
    (kp : ∀ b o, s.heap.get? b = some o → s5.heap.get? b = some o) (hns : s5.heap.Ns s.heap.objs.size m) (hos : s5.os = s.os) (hb : AllBare s5.gens) :
    Inv (Cx.gn X s H cenv A fp) [] (L2.wipe σ (own.map (·.2))) H s5 := by
  have hfree : ∀ y ∈ scope.names, y.2 = .free → ∃ c, X.env.cells.lookup y.1 = some c := fun y hy e => by
    rcases ok.free y hy e with k | k
    · exact I.ok.has _ (.inl k)
    · exact I.ok.has _ (.inr k)
  have cm : ∀ {y c}, (y, c) ∈ cloFrom X.env.cells scope.names [] → X.env.cells.lookup y = some c ∧ c < s.heap.objs.size := fun {y c} hm => by
    rcases cloFrom_mem hm with hm | ⟨h1, rfl⟩
    · cases hm
    · obtain ⟨c, hc⟩ := hfree _ h1 rfl
      rw [hc]
      obtain ⟨w, z⟩ := I.cell _ _ hc
      exact ⟨rfl, z.lt⟩
  have mem : ∀ {y c}, cenv.cells.lookup y = some c → X.env.cells.lookup y = some c ∧ c < s.heap.objs.size := fun {y c} e => by
    rw [hcl] at e
    exact cm (PySem.mem_of_lookup e)
  have look : ∀ {y}, scope.names.lookup y = some .free → ∃ c, cenv.cells.lookup y = some c ∧ X.env.cells.lookup y = some c := fun {y} hl => by
    have hy : (y, NameKind.free) ∈ scope.names := PySem.mem_of_lookup hl
    obtain ⟨c', e'⟩ := mem_lookup (cloFrom_has (cells := X.env.cells) (acc := []) hy)
    rw [← hcl] at e'
    exact ⟨c', e', (mem e').1⟩
  have okB : (Cx.gn X s H cenv A fp).Ok := by
    refine ⟨I.ok.mod, by show cenv.scope.kind = _; rw [hsc]; exact ok.kind, hg, hbt, by show s.heap.objs.size ≤ cenv.locals; rw [hL]; exact Nat.le_refl _,
      fun y z c e1 e2 => ?_, fun y hy => ?_, fun y c z e => ?_, fun _ => hAh, hA, .inr ⟨rfl, hfr⟩, fun b hb => ⟨?_, fun y c e z => ?_⟩, I.bs, Nat.le_trans I.ok.bsz I.sz, fun b o e hb => ?_, fun b hb z => ?_, I.stack, I.stkFree⟩
    · exact I.ok.inj y z c (mem e1).1 (mem e2).1
    · show ∃ c, cenv.cells.lookup y = some c
      have e : cenv.kindOf y = scope.names.lookup y := by unfold Env.kindOf; rw [hsc]
      rcases hy with hy | hy
      · have hy : cenv.kindOf y = some .cell := hy
        rw [e] at hy
        exact absurd rfl (hnc _ (PySem.mem_of_lookup hy))
      · have hy : cenv.kindOf y = some .free := hy
        rw [e] at hy
        obtain ⟨c, h1, _⟩ := look hy
        exact ⟨c, h1⟩
    · cases z
    · show b ≠ cenv.locals
      rw [hL]; exact Nat.ne_of_lt (hfp b hb).2
    · exact (hfp b hb).1.2.2.2.2.1 y c (mem e).1 z
    · rcases (hfp b hb).1.2.2.2.1 with z | z
      · exact I.ok.noex b o e z
      · exact absurd (Nat.lt_of_lt_of_le (Heap.lt_size e) (Nat.le_trans I.ok.bsz z)) (Nat.lt_irrefl _)
    · rcases List.mem_cons.mp (I.stkSub b z) with z | z
      · exact (hfp b hb).1.2.1 z
      · exact (hfp b hb).1.2.2.1 z
  refine ⟨okB, hos, hb, Un.kept kp, ⟨m, ?_, fun i y av e1 e2 e3 => ?_⟩, fun y c e => ?_, ?_, fun y c e => ?_, fun p hp => ?_, I.hok.kept kp, by rw [L2.wipe_length]; exact I.len⟩
  · show Heap.Ns _ cenv.locals _
    rw [hL]
    exact hns
  · obtain ⟨e2, hne⟩ := wipe_some e2
    have hfr : scope.names.lookup y = some .free := by
      have key : ∀ k, cenv.scope.names.lookup y = some k → k = .local ∨ k = .cell ∨ k = .free → scope.names.lookup y = some .free := fun k hk hk' => by
        rw [hsc] at hk
        have no : ¬ (k = .local ∨ k = .cell) := fun hh => by
          rcases ok.own _ (PySem.mem_of_lookup hk) hh with e' | e'
          · obtain ⟨p, hp, hpy⟩ := List.mem_map.mp e'
            have e3 := ok.ix p hp
            have : p.1 = y := hpy
            rw [this] at e3
            exact hne (List.mem_map.mpr ⟨p, hp, nodup_ix hN e3 e1⟩)
          · exact e' (List.mem_of_getElem? e1)
        rcases hk' with rfl | rfl | rfl
        · exact absurd (.inl rfl) no
        · exact absurd (.inr rfl) no
        · exact hk
      have e3 : Vis cenv.scope y := e3
      rcases e3 with e3 | e3 | e3
      · exact key _ e3 (.inl rfl)
      · exact key _ e3 (.inr (.inl rfl))
      · exact key _ e3 (.inr (.inr rfl))
    obtain ⟨m, hn, hl⟩ := I.loc
    have hvis : Vis X.env.scope y := (ok.free _ (PySem.mem_of_lookup hfr) rfl).elim (fun k => .inr (.inl k)) (fun k => .inr (.inr k))
    obtain ⟨w, r, q⟩ := hl i y av e1 e2 hvis
    refine ⟨w, r, .inr ⟨.inr (by show cenv.kindOf y = _; unfold Env.kindOf; rw [hsc]; exact hfr), ?_⟩⟩
    obtain ⟨c, h1, h2⟩ := look hfr
    rcases q with ⟨k, _⟩ | ⟨_, c', e', z⟩
    · have k : X.env.scope.names.lookup y = some .local := k
      rcases ok.free _ (PySem.mem_of_lookup hfr) rfl with k' | k' <;> rw [show X.env.scope.names.lookup y = _ from k'] at k <;> cases k
    · rw [h2] at e'; cases e'
      exact ⟨c, h1, z.keeps kp⟩
  · obtain ⟨w, z⟩ := I.cell y c (mem e).1
    exact ⟨w, z.keeps kp⟩
  · show H cenv.locals = none
    rw [hL]; exact I.hok.fresh (Nat.le_refl _)
  · exact I.freeC y c (mem e).1
  · exact absurd (show p ∈ ([] : List (Addr × Obj)) ++ [] from hp) (by simp)
end
end Calc
end
section
set_option Elab.async false
set_option linter.all false
set_option maxRecDepth 100000
set_option autoImplicit false
/-! generator expressions: the turns -/
namespace Calc
open PySem PySem.Spec PyProof.Rows L2 GenW

/-- where it stands behind k items -/
def trG (ok : Store → Bool) (t : T) (env : Env) (test : Env → Store → Option (Bool × Store)) (elt : Env → Store → Option (D × Store)) (items : List D) (st0 : Store) : Nat → Option (List D × Store)
  | 0 => some (items, st0)
  | k + 1 => match trG ok t env test elt items st0 k with
    | some (rest, st) => (match nextG ok t env test elt rest st with
      | some (some (_, rest'), st') => some (rest', st')
      | _ => none)
    | none => none

section
variable {X : Cx} {pins : List (Addr × Obj)} {σ : L2.St} {H : Hp} {s : Shared}
/-- it has slept: what is at Ss may have changed -/
theorem inv_slept {s' : Shared} {Ss : List Addr} (I : Inv X pins σ H s) (hn : ∀ b ∈ Ss, H b = none) (hL : ∀ b ∈ Ss, b ≠ X.env.locals) (h1 : ∀ b ∈ Ss, b ∈ X.ex ∨ X.s_0.heap.objs.size ≤ b) (h2 : ∀ b ∈ Ss, ∀ x c, X.env.cells.lookup x = some c → c ≠ b) (h3 : ∀ b ∈ Ss, ∀ p ∈ X.pn ++ pins, p.1 ≠ b)
    (os : s'.os = s.os) (hb : AllBare s'.gens) (k : ∀ b o, b ∉ Ss → s.heap.get? b = some o → s'.heap.get? b = some o) : Inv X pins σ H s' := by
  have nS : ∀ b u, H b = some u → b ∉ Ss := fun b u e z => by rw [hn b z] at e; cases e
  refine I.call' (ch := Ss) os ⟨fun b o e _ _ hx => k b o hx e, fun b o e _ _ hx => ⟨o.slots, k b o hx e⟩, fun b o _ n _ => n, fun b o e hx => ⟨o, k b o hx e⟩, fun _ _ e => e, fun _ _ _ e => e, fun b ps e => ⟨#[], by rw [e]; simp⟩⟩ (fun b u e => ?_) hb
    fun b hm => ⟨h1 b hm, hL b hm, h2 b hm, h3 b hm⟩
  refine (I.hok b u e).stay (fun c v hc q => k c v ?_ q) (fun _ q => q) fun _ _ q => q
  rcases hc with z | z
  · rw [z]; exact nS b u e
  · exact nS c _ z
end

theorem over_gen {A : Around} {elt : Expr} {gs : List Comprehension} {scope : Scope} {pos : Pos} {it acc : Value} {cenv : PySem.Env} : A.over (.compLoop (.GeneratorExp elt gs scope pos) 0 it acc cenv) [] = A.deeper cenv := by
  first
    | rfl
    | (obtain ⟨hd, d, fr, gs, u⟩ := A; simp [Around.over, Around.deeper, marksOver, frameCount, unitsOf, envsOf, guardsOf, pushEnvs, pushGuards, Code.envs, Code.env?, Code.isFrame, Code.guards, Code.isGuard, Code.weight, Code.frames, Code.isCreation, Code.isCaller, Code.cUnits])
theorem over_gen0 {A : Around} {elt : Expr} {gs : List Comprehension} {scope : Scope} {pos : Pos} {it acc : Value} {cenv : PySem.Env} : A.over (.compStart (.GeneratorExp elt gs scope pos) 0 it acc cenv) [] = A.deeper cenv := by
  first
    | rfl
    | (obtain ⟨hd, d, fr, gs, u⟩ := A; simp [Around.over, Around.deeper, marksOver, frameCount, unitsOf, envsOf, guardsOf, pushEnvs, pushGuards, Code.envs, Code.env?, Code.isFrame, Code.guards, Code.isGuard, Code.weight, Code.frames, Code.isCreation, Code.isCaller, Code.cUnits])

/-- a generator expression at rest: the next items are rest, the store is st -/
structure AtG (X' : Cx) (Tb : List Addr) (fp Ss : List Addr) (tn : Nat → Heap → Prop) (σw : L2.St) (items : List D) (μ4 : List Addr) (H4 : Hp) (rest : List D) (st : Store) (μ : List Addr) (H : Hp) (s : Shared) : Prop where
  inv : Inv X' [] σw H s
  tn_ : ∃ i, i ≤ items.length ∧ rest = items.drop i ∧ tn i s.heap
  fp_ : ∀ b ∈ fp, H b = none
  ss : ∀ b ∈ Ss, H b = none
  sr : StR X'.K μ H st
  post : Post Tb μ4 H4 μ H
/-- these objects are no cells -/
def Solid (Ss : List Addr) (h : Heap) : Prop := ∀ b ∈ Ss, ∃ o, h.get? b = some o ∧ ∀ v, o.data ≠ .cell v

section
variable (X' : Cx) (Tb : List Addr) (fp Ss : List Addr) (tn : Nat → Heap → Prop) (σw : L2.St) (w : Walk) (t : T) (env0 : Env) (mt : Env → Store → Option (Bool × Store)) (me : Env → Store → Option (D × Store)) (μ4 : List Addr) (H4 : Hp) (st4 : Store) (N : Nat) (Φ : Nat → List Addr → Hp → Heap → Prop)
/-- an item is handed out -/
def Yg : Protocol := fun m s₀ v s₁ kap => ∃ k rest st y rest' st' μ H x, m + 1 + k = N ∧ trG w.ok t env0 mt me w.items st4 k = some (rest, st) ∧ nextG w.ok t env0 mt me rest st = some (some (y, rest'), st') ∧
  AtG X' Tb fp Ss tn σw w.items μ4 H4 rest' st' μ H s₁ ∧ RelD X'.K μ H y x ∧ RelV x v ∧ (∀ b ∈ Ss, ∀ o, s₀.heap.get? b = some o → s₁.heap.get? b = some o) ∧ Φ k μ H s₁.heap ∧
  ∀ s'', (nextG w.ok t env0 mt me rest' st').isSome = true → AtG X' Tb fp Ss tn σw w.items μ4 H4 rest' st' μ H s'' → Solid Ss s''.heap → Φ (k + 1) μ H s''.heap → kap (.send .none) s''
/-- all is handed out -/
def Pg : Nat → Shared → Shared → Prop := fun n s₀ s₁ => ∃ k rest st st' μ H, n + k = N ∧ trG w.ok t env0 mt me w.items st4 k = some (rest, st) ∧ nextG w.ok t env0 mt me rest st = some (none, st') ∧
  Inv X' [] σw H s₁ ∧ StR X'.K μ H st' ∧ Post Tb μ4 H4 μ H ∧ (∀ b ∈ fp, H b = none) ∧ (∀ b ∈ Ss, H b = none) ∧ (∀ b ∈ Ss, ∀ o, s₀.heap.get? b = some o → s₁.heap.get? b = some o) ∧ Φ k μ H s₁.heap
def Rg : GenEnd := fun n s₀ r s₁ => r = .ok .next ∧ Pg X' Tb fp Ss σw w t env0 mt me μ4 H4 st4 N Φ n s₀ s₁
end

section
variable {X : Cx} {Tb : List Addr} {s4 : Shared} {H4 : Hp} {cenv : PySem.Env} {A : Around} {fp Ss : List Addr} {tn : Nat → Heap → Prop} {σw : L2.St} {w : Walk} {t : T} {env0 : Env} {mt : Env → Store → Option (Bool × Store)} {me : Env → Store → Option (D × Store)} {μ4 : List Addr} {st4 : Store} {N : Nat} {Φ : Nat → List Addr → Hp → Heap → Prop}
  {it : Addr} {J : It} {tg iter elt : Expr} {ifs : List Expr} {scope : Scope} {pos : Pos} {own : List Nat}
/-- stable under what a turn may do -/
def Stable (K : PySem.W.Frag) (Tb Ss : List Addr) (Φ : Nat → List Addr → Hp → Heap → Prop) : Prop := ∀ k μ H st h μ' H' h', Φ k μ H h → StR K μ H st → Post Tb μ H μ' H' → (∀ b ∈ Ss, ∀ o, h.get? b = some o → h'.get? b = some o) → Φ k μ' H' h'
theorem seg_turns (hΦ : Stable X.K Tb Ss Φ) (hA : A.handled = none) (hco : cenv.scope.isCoroutine = false) (hw : L2.wipe σw own = σw) (hown : ∀ i ∈ tSlots t, i ∈ own) (T : Turn X.prog X.w X.K tg J fp it tn) (wr : WalkR X.K Tb w μ4 H4 J) (sr4 : StR X.K μ4 H4 st4) (er4 : EnvR X.K μ4 H4 env0 σw)
    (hfp : ∀ b ∈ fp, b ≠ cenv.locals ∧ b ∉ frs X.stack ∧ (∀ x c, cenv.cells.lookup x = some c → c ≠ b) ∧ b ∉ Ss) (hSs : ∀ b ∈ Ss, b ≠ cenv.locals ∧ b ∉ frs X.stack)
    (pg : PG (Cx.gn X s4 H4 cenv (A.deeper cenv) fp) tg (tTg X.K t)) (pt : PTs (Cx.gn X s4 H4 cenv (A.deeper cenv) fp) ifs (tB X.K Tb mt)) (pe : PE (Cx.gn X s4 H4 cenv (A.deeper cenv) fp) elt (tE X.K Tb me)) :
    ∀ (m : Nat) (rest : List D) (i : Nat) (st : Store) (μ : List Addr) (H : Hp) (s s₀ : Shared) (n k : Nat) (rest0 : List D) (st0 : Store) (r : Option (D × List D) × Store), rest.length = m → rest = w.items.drop i → i ≤ w.items.length → n + k = N → rest.length ≤ n →
      trG w.ok t env0 mt me w.items st4 k = some (rest0, st0) → nextG w.ok t env0 mt me rest0 st0 = some r → nextG w.ok t env0 mt me rest st = some r →
      Inv (Cx.gn X s4 H4 cenv (A.deeper cenv) fp) (pinsAt Ss s₀.heap) σw H s → tn i s.heap → (∀ b ∈ fp, H b = none) → StR X.K μ H st → Post Tb μ4 H4 μ H → Solid Ss s₀.heap → Φ k μ H s₀.heap →
      Seg (model X.prog X.w) A (Rg (Cx.gn X s4 H4 cenv (A.deeper cenv) fp) Tb fp Ss σw w t env0 mt me μ4 H4 st4 N Φ) (Yg (Cx.gn X s4 H4 cenv (A.deeper cenv) fp) Tb fp Ss tn σw w t env0 mt me μ4 H4 st4 N Φ) n s₀
        (.compLoop (.GeneratorExp elt [⟨tg, iter, ifs, 0⟩] scope pos) 0 (.ref it) .none cenv)
        ((model X.prog X.w).den (.compLoop (.GeneratorExp elt [⟨tg, iter, ifs, 0⟩] scope pos) 0 (.ref it) .none cenv)) [] s := by
  intro m
  induction m using Nat.strongRecOn with
  | _ m ih =>
  intro rest i st μ H s s₀ n k rest0 st0 r hm hrest hi hn hle htr hnx0 hnx I hst hfn sr p hsol hphi
  have stat : ∀ {pins : List (Addr × Obj)} {H' : Hp}, (∀ p ∈ pins, p.1 ∈ Ss) → (∀ b ∈ fp, H' b = none) → ∀ b ∈ fp, FpOk (Cx.gn X s4 H4 cenv (A.deeper cenv) fp) pins H' b := fun {pins H'} hp hn b hb =>
    ⟨hn b hb, (hfp b hb).1, (hfp b hb).2.1, .inl hb, (hfp b hb).2.2.1, fun p hpp z => (hfp b hb).2.2.2 (by rw [← z]; exact hp p (by simpa using hpp))⟩
  have hpS : ∀ p ∈ pinsAt Ss s₀.heap, p.1 ∈ Ss := fun p hp => (of_pinsAt hp).1
  have ssN : ∀ {pl : List (Addr × Obj)} {σ' : L2.St} {H' : Hp} {s' : Shared}, Inv (Cx.gn X s4 H4 cenv (A.deeper cenv) fp) (pinsAt Ss s₀.heap ++ pl) σ' H' s' → (∀ b ∈ Ss, H' b = none) ∧ (∀ b ∈ Ss, ∀ o, s₀.heap.get? b = some o → s'.heap.get? b = some o) := fun {pl σ' H' s'} I' => by
    refine ⟨fun b hb => ?_, fun b hb o e => ?_⟩
    · obtain ⟨o, e, _⟩ := hsol b hb
      exact (I'.pin (b, o) (List.mem_append_right _ (List.mem_append_left _ (mem_pinsAt hb e)))).2.1
    · exact (I'.pin (b, o) (List.mem_append_right _ (List.mem_append_left _ (mem_pinsAt hb e)))).1
  have I : Inv (Cx.gn X s4 H4 cenv (A.deeper cenv) fp) (pinsAt Ss s₀.heap ++ []) σw H s := by rw [List.append_nil]; exact I
  have hov : (A.over (.compLoop (.GeneratorExp elt [⟨tg, iter, ifs, 0⟩] scope pos) 0 (.ref it) .none cenv) []) = A.deeper cenv := over_gen
  show Seg _ A _ _ _ s₀ _ ((compTurn (.GeneratorExp elt [⟨tg, iter, ifs, 0⟩] scope pos) 0 (.ref it) .none cenv).onRaise (leaving cenv)) [] s
  rw [compTurn_gen, Sem.onRaise_eq_wrap]
  refine seg_bind_wrap (wpAny_standAt ?_)
  have htot : rest.length = w.items.length - i := by rw [hrest, List.length_drop]
  cases hr : rest with
  | nil =>
    rw [hr] at hnx
    have hie : i = w.items.length := by rw [hr] at htot; simp at htot; omega
    unfold nextG at hnx
    split at hnx
    · rename_i hok
      cases hnx
      obtain ⟨_, w2⟩ := wr i μ st H sr p.tab p hok
      refine seg_bind_wrap ?_
      rw [hov]
      refine thnF (T.done (Cx.gn X s4 H4 cenv (A.deeper cenv) fp) rfl rfl rfl rfl i _ s _ H (fun _ _ => False) I (stat (fun p hp => hpS p (by simpa using hp)) hfn) hst (w2 (by omega))) fun r s6 ⟨hr, I6⟩ => ?_
      subst hr
      obtain ⟨q1, q2⟩ := ssN I6
      exact seg_end (.ok .next) ⟨rfl, k, rest0, st0, _, μ, H, hn, htr, hnx0, (by rw [List.append_nil] at I6; exact Inv.unpinned (pins := []) I6), sr, p, hfn, q1, q2, hΦ _ _ _ _ _ _ _ _ hphi sr (.refl p.tab) q2⟩
    · cases hnx
  | cons d ds =>
    have hlt : i < w.items.length := by rw [hr] at htot; simp at htot; omega
    have hd : w.items[i]? = some d ∧ w.items.drop (i + 1) = ds := by
      rw [List.drop_eq_getElem_cons hlt] at hrest
      rw [hr] at hrest
      injection hrest with h1 h2
      exact ⟨by rw [List.getElem?_eq_getElem hlt, h1], h2.symm⟩
    rw [hr] at hnx
    unfold nextG at hnx
    split at hnx
    · rename_i hok
      obtain ⟨w1, _⟩ := wr i μ st H sr p.tab p hok
      obtain ⟨hgo, hy⟩ := w1 d hd.1
      split at hnx
      · rename_i env1 hasg
        obtain ⟨b, st5, e5, e6⟩ := bnd_eq hnx
        refine seg_bind_wrap ?_
        rw [hov]
        refine thnF (T.item (Cx.gn X s4 H4 cenv (A.deeper cenv) fp) rfl rfl rfl rfl i _ s _ H (fun _ _ => False) I (stat (fun p hp => hpS p (by simpa using hp)) hfn) hst hgo) fun r1 s6 ⟨u, hr1, h6⟩ => ?_
        subst hr1
        refine seg_bind_wrap ?_
        rw [hov]
        refine thnF h6 fun _ s7 ⟨x, H7, I7, r7, y7, st7, n7⟩ => ?_
        obtain ⟨p7, sr7, rx7⟩ := hy x H7 y7
        rw [List.append_nil] at I7
        have I7' := I7.pinned (stat hpS n7) (T.obj _ _ st7)
        have er7 := er4.mono sr4 (p.trans p7).pre (p.trans p7).ext
        refine seg_bind_wrap ?_
        rw [hov]
        refine thnF (pg.run _ s7 _ H7 x u (fun σ' H' => H' = H7 ∧ EnvR X.K μ H7 env1 σ' ∧ But (tSlots t) σw σ') I7' r7 ⟨μ, env0, st, d, env1, sr7, er7, rx7, hasg, fun σ' er' b' => ⟨rfl, er', b'⟩⟩) fun _ s8 ⟨σ8, H8, I8, q8⟩ => ?_
        obtain ⟨rfl, er8, b8⟩ := q8
        refine seg_bind_wrap ?_
        rw [hov]
        refine thnF (pt.run _ s8 σ8 H8 (fun b' H' => b' = b ∧ ∃ μ', Post Tb μ H8 μ' H' ∧ StR X.K μ' H' st5) I8 ⟨μ, env1, st, b, st5, sr7, p7.tab, er8, e5, fun μ' H' b' p' sr' hb => ⟨hb.symm, μ', p', sr'⟩⟩) fun b' s9 ⟨H9, I9, hb9, μ9, p9, sr9⟩ => ?_
        subst hb9
        have hwipe : L2.wipe σ8 own = σw := by
          have hz : But (tSlots t) (L2.wipe σw own) σ8 := by rw [hw]; exact b8
          exact (wipe_but hz hown).trans hw
        -- the turn's end
        have pinF : ∀ {s' : Shared} {H' : Hp}, Inv (Cx.gn X s4 H4 cenv (A.deeper cenv) fp) (pinsAt Ss s₀.heap ++ pinsAt fp s7.heap) σ8 H' s' → Inv (Cx.gn X s4 H4 cenv (A.deeper cenv) fp) (pinsAt Ss s₀.heap) σw H' s' ∧ tn (i + 1) s'.heap ∧ (∀ b ∈ fp, H' b = none) := fun {s' H'} I' => by
          have pin' : ∀ b ∈ fp, ∀ o, s7.heap.get? b = some o → s'.heap.get? b = some o ∧ H' b = none := fun b hb o e =>
            let z := I'.pin (b, o) (List.mem_append_right _ (List.mem_append_right _ (mem_pinsAt hb e)))
            ⟨z.1, z.2.1⟩
          refine ⟨(I'.unpinned).weak (by rw [← hwipe, L2.wipe_length]) (fun j v e => ?_), T.keep _ _ _ st7 fun b hb o e => (pin' b hb o e).1, fun b hb => ?_⟩
          · rw [← hwipe] at e
            exact (wipe_some e).1
          · obtain ⟨o, e, _⟩ := T.obj _ _ st7 b hb
            exact (pin' b hb o e).2
        have p49 := (p.trans p7).trans p9
        cases b' with
        | false =>
          rw [if_neg Bool.false_ne_true] at e6
          simp only [Bool.false_eq_true, if_false]
          obtain ⟨J1, J2, J3⟩ := pinF I9
          have hdl : ds.length < m := by rw [← hm, hr]; exact Nat.lt_succ_self _
          exact seg_again rfl (ih ds.length hdl ds (i + 1) st5 μ9 H9 s9 s₀ n k rest0 st0 r rfl hd.2.symm hlt hn (by rw [hr] at hle; simp at hle; omega) htr hnx0 e6 J1 J2 J3 sr9 p49 hsol (hΦ _ _ _ _ _ _ _ _ hphi sr (p7.trans p9) fun _ _ _ e => e))
        | true =>
          rw [if_pos rfl] at e6
          obtain ⟨y, st6, e7, e8⟩ := bnd_eq e6
          cases e8
          simp only [if_true]
          have hyo : ∀ v, yieldOut cenv v = yieldValue v := fun v => by simp only [yieldOut, hco, Bool.false_eq_true, if_false]
          simp only [hyo]
          rw [Sem.bind_eq_wrap', Sem.bind_eq_wrap', Sem.wrap_wrap, Sem.wrap_wrap]
          refine seg_wrap ?_
          rw [hov]
          refine thnF (pe.run _ s9 σ8 H9 (fun v H' => ∃ μ', Post Tb μ9 H9 μ' H' ∧ StR X.K μ' H' st6 ∧ RelD X.K μ' H' y v) I9 ⟨μ9, env1, st5, y, st6, sr9, p9.tab, er8.mono sr7 p9.pre p9.ext, e7, fun μ' H' v p' sr' rv => ⟨μ', p', sr', rv⟩⟩) fun v s10 ⟨x10, H10, I10, r10, μ10, p10, sr10, rd10⟩ => ?_
          obtain ⟨J1, J2, J3⟩ := pinF I10
          obtain ⟨q1, q2⟩ := ssN I10
          obtain ⟨n, rfl⟩ : ∃ m, n = m + 1 := ⟨n - 1, by rw [hr] at hle; simp at hle; omega⟩
          have p410 := p49.trans p10
          have htr' : trG w.ok t env0 mt me w.items st4 (k + 1) = some (ds, st6) := by
            show (match trG w.ok t env0 mt me w.items st4 k with
              | some (rest, st) => _
              | none => none) = _
            rw [htr]
            simp only
            rw [hnx0]
          refine seg_at (seg_yield rfl rfl rfl ⟨k, rest0, st0, y, ds, st6, μ10, H10, x10, by omega, htr, hnx0, ⟨Inv.unpinned (pins := []) J1, ⟨i + 1, hlt, hd.2.symm, J2⟩, J3, q1, sr10, p410⟩, rd10, r10, q2, hΦ _ _ _ _ _ _ _ _ hphi sr ((p7.trans p9).trans p10) q2, fun s'' hsome hat hso hphi' => ?_⟩)
          obtain ⟨r', hr'⟩ := Option.isSome_iff_exists.mp hsome
          have hdl : ds.length < m := by rw [← hm, hr]; exact Nat.lt_succ_self _
          obtain ⟨i', hi', hre', hti'⟩ := hat.tn_
          have I'' : Inv (Cx.gn X s4 H4 cenv (A.deeper cenv) fp) ([] ++ pinsAt Ss s''.heap) σw H10 s'' := hat.inv.pins_of fun pp hp => by
            obtain ⟨hb, e⟩ := of_pinsAt (by simpa using hp)
            obtain ⟨o, e', nd⟩ := hso pp.1 hb
            rw [e] at e'; cases e'
            exact ⟨e, hat.ss _ hb, (hSs _ hb).1, (hSs _ hb).2, nd⟩
          exact seg_again rfl (ih ds.length hdl ds i' st6 μ10 H10 s'' s'' n (k + 1) ds st6 r' rfl hre' hi' (by omega) (by rw [hr] at hle; simp at hle; omega) htr' hr' hr' I'' hti' hat.fp_ hat.sr hat.post hso hphi')
      · cases hnx
    · cases hnx
end
end Calc
end
section
set_option Elab.async false
set_option linter.all false
set_option maxRecDepth 100000
set_option autoImplicit false
/-! generator expressions: the wakes -/
namespace Calc
open PySem PySem.Spec PyProof.Rows L2 GenW

section
variable {X : Cx} {Tb : List Addr} {s4 : Shared} {H4 : Hp} {cenv : PySem.Env} {A : Around} {fp Ss : List Addr} {tn : Nat → Heap → Prop} {σw : L2.St} {w : Walk} {t : T} {env0 : Env} {mt : Env → Store → Option (Bool × Store)} {me : Env → Store → Option (D × Store)} {μ4 : List Addr} {st4 : Store} {N : Nat} {Φ : Nat → List Addr → Hp → Heap → Prop}
  {it : Addr} {J : It} {tg iter elt : Expr} {ifs : List Expr} {scope : Scope} {pos : Pos} {own : List Nat}
theorem AtG.slept {rest : List D} {st : Store} {μ : List Addr} {H : Hp} {s s' : Shared} (T : Turn X.prog X.w X.K tg J fp it tn) (hfS : ∀ b ∈ fp, b ∉ Ss) (hSs : ∀ b ∈ Ss, b ≠ cenv.locals ∧ b ∉ frs X.stack ∧ s4.heap.objs.size ≤ b ∧ ∀ x c, cenv.cells.lookup x = some c → c ≠ b)
    (a : AtG (Cx.gn X s4 H4 cenv A fp) Tb fp Ss tn σw w.items μ4 H4 rest st μ H s) (os : s'.os = s.os) (hb : AllBare s'.gens) (k : ∀ b o, b ∉ Ss → s.heap.get? b = some o → s'.heap.get? b = some o) :
    AtG (Cx.gn X s4 H4 cenv A fp) Tb fp Ss tn σw w.items μ4 H4 rest st μ H s' :=
  ⟨inv_slept a.inv a.ss (fun b hb => (hSs b hb).1) (fun b hb => .inr (hSs b hb).2.2.1) (fun b hb => (hSs b hb).2.2.2) (fun b hb p hp => absurd (show p ∈ ([] : List (Addr × Obj)) ++ [] from hp) (by simp)) os hb k,
    let ⟨i, h1, h2, h3⟩ := a.tn_; ⟨i, h1, h2, T.keep _ _ _ h3 fun b hb o e => k b o (hfS b hb) e⟩, a.fp_, a.ss, a.sr, a.post⟩

/-- ready to be woken -/
structure GRd (X : Cx) (Tb : List Addr) (s4 : Shared) (H4 : Hp) (cenv : PySem.Env) (A : Around) (fp Ss : List Addr) (tn : Nat → Heap → Prop) (σw : L2.St) (w : Walk) (t : T) (env0 : Env) (mt : Env → Store → Option (Bool × Store)) (me : Env → Store → Option (D × Store)) (μ4 : List Addr) (st4 : Store) (N : Nat) (Φ : Nat → List Addr → Hp → Heap → Prop)
    (a : Addr) (g k : Nat) (rest : List D) (st : Store) (μ : List Addr) (H : Hp) (s : Shared) : Prop where
  at_ : AtG (Cx.gn X s4 H4 cenv (A.in1.deeper cenv) fp) Tb fp Ss tn σw w.items μ4 H4 rest st μ H s
  tr : trG w.ok t env0 mt me w.items st4 k = some (rest, st)
  gen : s.heap.IsGen a g
  le : k + rest.length < N
  go : ∃ gs, s.gens[g]? = some gs ∧ ((nextG w.ok t env0 mt me rest st).isSome = true → Solid Ss s.heap → Φ k μ H s.heap → gs.Goes (model X.prog X.w) A.in1
    (Rg (Cx.gn X s4 H4 cenv (A.in1.deeper cenv) fp) Tb fp Ss σw w t env0 mt me μ4 H4 st4 N Φ) (Yg (Cx.gn X s4 H4 cenv (A.in1.deeper cenv) fp) Tb fp Ss tn σw w t env0 mt me μ4 H4 st4 N Φ) (N - k) (.send .none) (s.setGen g .running))

/-- what a step gives -/
def StepQ (X : Cx) (Tb : List Addr) (s4 : Shared) (H4 : Hp) (cenv : PySem.Env) (A : Around) (fp Ss : List Addr) (tn : Nat → Heap → Prop) (σw : L2.St) (w : Walk) (t : T) (env0 : Env) (mt : Env → Store → Option (Bool × Store)) (me : Env → Store → Option (D × Store)) (μ4 : List Addr) (st4 : Store) (N : Nat) (Φ : Nat → List Addr → Hp → Heap → Prop)
    (a : Addr) (g k : Nat) (s : Shared) (Q : Option Value → Shared → Prop) (st' : Store) : Option (D × List D) → Prop
  | none => ∀ s' μ' H', Inv (Cx.gn X s4 H4 cenv (A.in1.deeper cenv) fp) [] σw H' s' → StR X.K μ' H' st' → Post Tb μ4 H4 μ' H' → (∀ b ∈ Ss, H' b = none) → (∀ b ∈ Ss, ∀ o, s.heap.get? b = some o → s'.heap.get? b = some o) → Φ k μ' H' s'.heap → Q none s'
  | some (y, rest') => ∀ s' v x μ' H', AtG (Cx.gn X s4 H4 cenv (A.in1.deeper cenv) fp) Tb fp Ss tn σw w.items μ4 H4 rest' st' μ' H' s' → RelD X.K μ' H' y x → RelV x v → (∀ b ∈ Ss, ∀ o, s.heap.get? b = some o → s'.heap.get? b = some o) → Φ k μ' H' s'.heap →
      (∀ s3, s3.os = s'.os → s3.gens = s'.gens → (∀ b o, b ∉ Ss → s'.heap.get? b = some o → s3.heap.get? b = some o) → s3.heap.IsGen a g → GRd X Tb s4 H4 cenv A fp Ss tn σw w t env0 mt me μ4 st4 N Φ a g (k + 1) rest' st' μ' H' s3) → Q (some v) s'

theorem gen_step (hΦ : Stable X.K Tb Ss Φ) {a : Addr} {g k : Nat} {rest : List D} {st : Store} {μ : List Addr} {H : Hp} {s : Shared} {o : Option (D × List D)} {st' : Store} {Q : Option Value → Shared → Prop} {E : Value → Shared → Prop} (T : Turn X.prog X.w X.K tg J fp it tn) (hh : A.handled = none) (hroom : A.depth < recursionLimit)
    (hfS : ∀ b ∈ fp, b ∉ Ss) (hSs : ∀ b ∈ Ss, b ≠ cenv.locals ∧ b ∉ frs X.stack ∧ s4.heap.objs.size ≤ b ∧ ∀ x c, cenv.cells.lookup x = some c → c ≠ b) (ha : a ∈ Ss)
    (G : GRd X Tb s4 H4 cenv A fp Ss tn σw w t env0 mt me μ4 st4 N Φ a g k rest st μ H s) (hso : Solid Ss s.heap) (hphi : Φ k μ H s.heap) (hnx : nextG w.ok t env0 mt me rest st = some (o, st'))
    (hQ : StepQ X Tb s4 H4 cenv A fp Ss tn σw w t env0 mt me μ4 st4 N Φ a g k s Q st' o) : wpAny (model X.prog X.w) A (pyNext (.ref a)) Q E s := by
  obtain ⟨gs, hgs, hgo⟩ := G.go
  have hgl : g < s.gens.size := (Array.getElem?_eq_some_iff.mp hgs).1
  have hgo := hgo (by rw [hnx]; rfl) hso hphi
  refine wpAny_gsz (n := g + 1) hgl ?_
  refine wpAny_pyNext_genexpQ (P := Pg (Cx.gn X s4 H4 cenv (A.in1.deeper cenv) fp) Tb fp Ss σw w t env0 mt me μ4 H4 st4 N Φ) hh G.at_.inv.nolimit hroom G.gen hgs hgo (fun v s₁ gs' hb hv hsz => ?_) (fun s₁ hp h' hkk' hsz => ?_)
  · obtain ⟨k', rest1, st1, y, rest', st1', μ', H', x, hk, htr, hnx', hat, rd, rv, hkp, hphi', hkap⟩ := hv
    have hle := G.le
    cases hN : N - k with
    | zero => omega
    | succ n =>
      have hm : (N - k - 1 + 1 + k' = N) := hk
      have hkk : k' = k := by omega
      subst hkk
      rw [G.tr] at htr
      cases htr
      rw [hnx] at hnx'
      cases hnx'
      have hbs : AllBare (s₁.setGen g gs').gens := allBare_setGen hat.inv.bare hb
      have hat' := AtG.slept (s' := s₁.setGen g gs') T hfS hSs hat rfl hbs (fun b o _ e => e)
      refine hQ _ v x μ' H' hat' rd rv hkp hphi' fun s3 os gens kp hg3 => ?_
      have hat3 := AtG.slept (s' := s3) T hfS hSs hat' os (by rw [gens]; exact hbs) kp
      have htr2 : trG w.ok t env0 mt me w.items st4 (k' + 1) = some (rest', st') := by
        show (match trG w.ok t env0 mt me w.items st4 k' with
          | some (rest, st) => _
          | none => none) = _
        rw [G.tr]; simp only; rw [hnx]
      refine ⟨hat3, htr2, hg3, by have := nextG_len hnx; omega, gs', ?_, fun hs hsol hphi3 => ?_⟩
      · rw [gens]
        have hsz1 : g < s₁.gens.size := by
          have q : (s₁.setGen g gs').gens.size = s₁.gens.size := setGen_size _ _ _
          have hsz' : g + 1 ≤ (s₁.setGen g gs').gens.size := hsz
          omega
        exact setGen_at hsz1
      · have e1 : N - (k' + 1) = n := by omega
        rw [e1]
        simp only [hN] at hkap
        exact hkap (s3.setGen g .running) hs (AtG.slept (s' := s3.setGen g .running) T hfS hSs hat3 rfl (allBare_setGen (by rw [gens]; exact hbs) rfl) fun b o _ e => e) hsol hphi3
  · obtain ⟨k', rest1, st1, st1', μ', H', hk, htr, hnx', I1, sr, p, hf, hs, hkp, hphi'⟩ := hp
    have hle := G.le
    have hkk : k' = k := by have : (N - k + k' = N) := hk; omega
    subst hkk
    rw [G.tr] at htr
    cases htr
    rw [hnx] at hnx'
    cases hnx'
    refine hQ _ μ' H' (inv_slept (Ss := []) I1 (by simp) (by simp) (by simp) (by simp) (by simp) rfl (allBare_setGen I1.bare rfl) fun b o _ e => hkk' b o e) sr p hs (fun b hb o e => hkk' b o (hkp b hb o e)) (hΦ _ _ _ _ _ _ _ _ hphi' sr (.refl p.tab) fun b hb o e => hkk' b o e)
end
end Calc
end
section
set_option Elab.async false
set_option linter.all false
set_option maxRecDepth 100000
set_option autoImplicit false
/-! generator expressions: they are made -/
namespace Calc
open PySem PySem.Spec PyProof.Rows L2 GenW

theorem seg_gen0 {X : Cx} {A : Around} {R : GenEnd} {Y : Protocol} {n : Nat} {s₀ s : Shared} {tg iter elt : Expr} {ifs : List Expr} {scope : Scope} {pos : Pos} {it : Addr} {cenv : PySem.Env} {J : It} {fp : List Addr} {tn : Nat → Heap → Prop} {i : Nat}
    (T : Turn X.prog X.w X.K tg J fp it tn) (hst : tn i s.heap)
    (loop : Seg (model X.prog X.w) A R Y n s₀ (.compLoop (.GeneratorExp elt [⟨tg, iter, ifs, 0⟩] scope pos) 0 (.ref it) .none cenv)
        ((model X.prog X.w).den (.compLoop (.GeneratorExp elt [⟨tg, iter, ifs, 0⟩] scope pos) 0 (.ref it) .none cenv)) [] s) :
    Seg (model X.prog X.w) A R Y n s₀ (.compStart (.GeneratorExp elt [⟨tg, iter, ifs, 0⟩] scope pos) 0 (.ref it) .none cenv)
        ((model X.prog X.w).den (.compStart (.GeneratorExp elt [⟨tg, iter, ifs, 0⟩] scope pos) 0 (.ref it) .none cenv)) [] s := by
  show Seg _ A _ _ _ s₀ _ ((compStart (.GeneratorExp elt [⟨tg, iter, ifs, 0⟩] scope pos) 0 (.ref it) .none cenv).onRaise (leaving cenv)) [] s
  unfold compStart
  rw [Sem.onRaise_eq_wrap]
  show Seg _ A _ _ _ s₀ _ ((ask >>= _).wrap _ _ _ _) [] s
  refine seg_bind_wrap (wpAny_askSetting ?_)
  split
  · exact seg_again rfl loop
  · first
      | exact seg_bind_wrap (wpAny_rule (seg_bind_wrap (wpAny_standAt (seg_bind_wrap (T.self _ i s _ _ hst (seg_again rfl loop))))))
      | (refine seg_bind_wrap (wpAny_rule ?_); show Seg _ A _ _ _ s₀ _ ((standAt iter.pos >>= _).wrap _ _ _ _) [] s; exact seg_bind_wrap (wpAny_standAt (seg_bind_wrap (T.self _ i s _ _ hst (seg_again rfl loop)))))

section
variable {K : PySem.W.Frag} {Tb μ : List Addr} {H : Hp} {st : Store}
/-- a table has grown -/
theorem tab_ext {P : Addr} {ps qs : Array Value} (hP : H P = some (.tbl ps)) : ∀ b o, H b = some o → noTbl o → upd H P (.tbl qs) b = some o := fun b o e n => by
  by_cases hb : b = P
  · rw [hb, hP] at e; cases e; exact absurd rfl (n _)
  · rw [upd_ne hb]; exact e
theorem Post.tabbed {P : Addr} {ps qs : Array Value} (tb : TabsR Tb H) (hP : H P = some (.tbl ps)) (hq : TriplesOk qs.toList) : Post Tb μ H μ (upd H P (.tbl qs)) where
  pre := List.prefix_refl _
  ext := fun b o e _ n => tab_ext hP b o e n
  new := fun _ h => .inl h
  tab := fun P' hP' => by
    by_cases e : P' = P
    · rw [e]; exact ⟨qs, upd_same, hq⟩
    · obtain ⟨ps', e', z⟩ := tb P' hP'
      exact ⟨ps', by rw [upd_ne e]; exact e', z⟩
  there := fun b e => by
    by_cases q : b = P
    · rw [q, upd_same] at e; cases e
    · rw [upd_ne q] at e; exact e
theorem StR.tabbed (s : StR K μ H st) {P : Addr} {ps qs : Array Value} (hP : H P = some (.tbl ps)) : StR K μ (upd H P (.tbl qs)) st :=
  ⟨s.len, s.nd, fun l c e => by
    obtain ⟨a, o, h1, h2, h3⟩ := s.at_ l c e
    refine ⟨a, o, h1, ?_, h3.mono s (List.prefix_refl _) fun b u e _ n => tab_ext hP b u e n⟩
    obtain ⟨xs, hx⟩ := s.mem (List.mem_of_getElem? h1)
    rw [h2] at hx; cases hx
    exact tab_ext hP a _ h2 fun _ z => by cases z⟩
theorem WalkR.later {w : Walk} {μ0 μ1 : List Addr} {H0 H1 : Hp} {J : It} (h : WalkR K Tb w μ0 H0 J) (p : Post Tb μ0 H0 μ1 H1) : WalkR K Tb w μ1 H1 J := fun i μ st H sr tb p' ok => h i μ st H sr tb (p.trans p') ok
end

/-- a generator has been made: what it walks, its frame, and that it can be woken -/
structure GMd (X : Cx) (Tb : List Addr) (lv : Nat) (pins : List (Addr × Obj)) (σ : L2.St) (w : Walk) (t : T) (env0 : Env) (mt : Env → Store → Option (Bool × Store)) (me : Env → Store → Option (D × Store)) (μ0 : List Addr) (H0 : Hp) (st4 : Store)
    (a g : Addr) (s4 : Shared) (H4 : Hp) (μ4 : List Addr) (cenv : PySem.Env) (fp : List Addr) (tn : Nat → Heap → Prop) (σw : L2.St) (s5 : Shared) : Prop where
  I4 : Inv X pins σ H4 s4
  post : Post Tb μ0 H0 μ4 H4
  sr : StR X.K μ4 H4 st4
  turn : ∃ tg J it, Turn X.prog X.w X.K tg J fp it tn
  fp_ : ∀ b ∈ fp, FpOk X pins H4 b ∧ b < s4.heap.objs.size
  loc : cenv.locals = s4.heap.objs.size
  cel : ∀ x c, cenv.cells.lookup x = some c → c < s4.heap.objs.size
  kp : ∀ b o, s4.heap.get? b = some o → s5.heap.get? b = some o
  os : s5.os = s4.os
  gen : s5.heap.IsGen a g
  a1 : s4.heap.objs.size < a
  a2 : a < s5.heap.objs.size
  bare : AllBare s5.gens
  ready : ∀ (A : Around) (extra : List Addr) (s6 : Shared), Room (lv + 2) A → A.frames = some X.stack → (∀ b ∈ extra, s5.heap.objs.size ≤ b) → s6.os = s5.os → s6.gens = s5.gens → (∀ b o, s5.heap.get? b = some o → s6.heap.get? b = some o) → ∀ Φ, Stable X.K Tb (a :: extra) Φ →
    GRd X Tb s4 H4 cenv A fp (a :: extra) tn σw w t env0 mt me μ4 st4 (w.items.length + 1) Φ a g 0 w.items st4 μ4 H4 s6

theorem gen_make {X : Cx} {Tb : List Addr} {lv : Nat} {pins : List (Addr × Obj)} {σ : L2.St} {H : Hp} {s : Shared} {c P : Addr} {tg iter elt : Expr} {ifs : List Expr} {scope : Scope} {gpos : Pos} {t : T} {own : List Nat} {ownN : List (Str × Nat)} {msrc : Env → Store → Option (Walk × Store)} {mt : Env → Store → Option (Bool × Store)} {me : Env → Store → Option (D × Store)} {Q' : Value → Shared → Prop}
    {μ : List Addr} {env : Env} {st st4 : Store} {w : Walk}
    (hr : Room (lv + 5) X.A) (TB : GxR.TabB X.base X.mg c P) (hcode : X.env.code = .ref c) (hPT : P ∈ Tb) (hN : X.N.Nodup) (ok : BlkOk X.N X.env.scope scope ownN) (hon : ownN.map (·.2) = own) (hco : scope.isCoroutine = false) (hcell : ∀ y ∈ scope.names, y.2 ≠ .cell) (hdot : scope.names.lookup (".0" : Str) = some NameKind.local)
    (hown : ∀ i ∈ tSlots t, i ∈ own) (hi : PI X tg iter (tW X.K Tb msrc)) (hs : ∀ v, genFold iter X.env v = pure v)
    (hg : ∀ (s : Shared) (H : Hp) (cenv : PySem.Env) (A : Around) (fp : List Addr), cenv.scope = scope → Room lv A → PG (Cx.gn X s H cenv A fp) tg (tTg X.K t))
    (ht : ∀ (s : Shared) (H : Hp) (cenv : PySem.Env) (A : Around) (fp : List Addr), cenv.scope = scope → Room lv A → PTs (Cx.gn X s H cenv A fp) ifs (tB X.K Tb mt))
    (he : ∀ (s : Shared) (H : Hp) (cenv : PySem.Env) (A : Around) (fp : List Addr), cenv.scope = scope → Room lv A → PE (Cx.gn X s H cenv A fp) elt (tE X.K Tb me))
    (I : Inv X pins σ H s) (sr : StR X.K μ H st) (tb : TabsR Tb H) (er : EnvR X.K μ H env σ) (hsrc : msrc env st = some (w, st4))
    (hQ : ∀ a g s4 H4 μ4 cenv fp tn s5, GMd X Tb lv pins σ w t (Calc.wipe env own) mt me μ H st4 a g s4 H4 μ4 cenv fp tn (L2.wipe σ own) s5 → Q' (.ref a) s5) :
    wpAny (model X.prog X.w) X.A (eval (.GeneratorExp elt [⟨tg, iter, ifs, 0⟩] scope gpos) X.env) Q' X.xe s := by
  have hfree : ∀ y ∈ scope.names, y.2 = .free → ∃ c, X.env.cells.lookup y.1 = some c := fun y hy e => by
    rcases ok.free y hy e with k | k
    · exact I.ok.has _ (.inl k)
    · exact I.ok.has _ (.inr k)
  refine wpAny_GeneratorExp_make hco (closure_ok hfree) hcell hdot ok.kind (by have := hr.dp; omega) ?_ hs
  refine thn (hi.run pins s σ H (fun J H' => ∃ μ', Post Tb μ H μ' H' ∧ StR X.K μ' H' st4 ∧ WalkR X.K Tb w μ' H' J) I ⟨μ, env, st, w, st4, sr, tb, er, hsrc, fun μ' H' J p' sr' wr => ⟨μ', p', sr', wr⟩⟩) fun xv s1 h1 => ?_
  refine thn h1 fun itv s2 h2 => ?_
  obtain ⟨it, fp, tn, J, H2, e, I2, T, st2, f2, μ2, p2, sr2, wr⟩ := h2
  subst e
  refine ⟨I2.nolimit, ?_⟩
  obtain ⟨ps, hP, htr⟩ := p2.tab P hPT
  have hPs : s2.heap.get? P = some { cls := .none, data := .fields ps } := I2.hok P _ hP
  have cd : PySem.W.CodeHd s2.heap c P := TB.code.keeps fun b u e => I2.bk b u e
  have er2 := er.mono sr p2.pre p2.ext
  -- behind the code object
  have cont : ∀ (code : Value) (h3 : Heap) (tk : Nat) (ps' : Array Value), Heap.ExtBut P s2.heap h3 → h3.get? P = some { cls := .none, data := .fields ps' } → (∃ more, ps' = ps ++ more) → TriplesOk ps'.toList →
      wpAny (model X.prog X.w) X.A (builtinsFor X.env.globals X.env.builtins) (fun bi s₄ => ∀ h', h'.Ns s₄.heap.objs.size (fun y => if y = ".0" then some (.ref it) else none) → Heap.SameBut s₄.heap.objs.size (s₄.heap.push { cls := .type "frame", data := .dict #[] }) h' →
          Q' (.ref h'.objs.size) { s₄ with
            gens := s₄.gens.push (.fresh (.compStart (.GeneratorExp elt [⟨tg, iter, ifs, 0⟩] scope gpos) 0 (.ref it) .none (genEnv scope (cloFrom X.env.cells scope.names []) s₄.heap.objs.size code bi X.env))),
            toks := s₄.toks + 1 + 1 + 1,
            heap := h'.push { cls := .type "generator", data := .fields #[.int s₄.gens.size 0, .str "<genexpr>" (s₄.toks + 1), .str (X.env.qual ++ "<genexpr>") (s₄.toks + 1 + 1)] } }) X.xe { s2 with heap := h3, toks := tk } := by
    intro code h3 tk ps' hx hP3 hmore ht3
    obtain ⟨bm, ob, e1, e2, e3, e4, e5, e6, e7, e8⟩ := TB.bm
    refine wpAny_builtinsFor (m := X.mg) (by rw [I2.ok.glob]; exact ((I2.mod.glob.keeps I2.bk)).extBut hx TB.gP) e1 e2 (hx _ _ e4 (I2.bk _ _ e5)) e6 e7 e8 ?_
    obtain ⟨more, em⟩ := hmore
    subst em
    have J4 : Inv X pins σ (upd H2 P (.tbl (ps ++ more))) { s2 with heap := h3, toks := tk } := GxR.inv_tab (more := more) (h' := h3) (g' := s2.gens) (d' := s2.drawn) (t' := tk) I2 hP (fun b u hb e => hx b u hb e) hP3 I2.bare
    generalize hH4 : upd H2 P (.tbl (ps ++ more)) = H4 at J4
    have p24 : Post Tb μ2 H2 μ2 H4 := by rw [← hH4]; exact Post.tabbed p2.tab hP ht3
    have sr4 : StR X.K μ2 H4 st4 := by rw [← hH4]; exact sr2.tabbed hP
    have wr4 := wr.later p24
    have er4 := er2.mono sr2 p24.pre p24.ext
    have nP : ∀ b, H2 b = none → b ≠ P := fun b e z => by rw [z, hP] at e; cases e
    have tn4 : tn 0 h3 := T.keep _ _ _ st2 fun b hb o e => hx b o (nP b (f2 b hb).1) e
    generalize hs4 : ({ s2 with heap := h3, toks := tk } : Shared) = s4 at J4
    have hh4 : s4.heap = h3 := by rw [← hs4]
    have f4 : ∀ b ∈ fp, FpOk X pins H4 b ∧ b < s4.heap.objs.size := fun b hb => by
      refine ⟨⟨?_, (f2 b hb).2⟩, ?_⟩
      · rw [← hH4, upd_ne (nP b (f2 b hb).1)]; exact (f2 b hb).1
      · obtain ⟨o, e, _⟩ := T.obj _ _ tn4 b hb
        rw [hh4]; exact Heap.lt_size e
    intro h' hn' hs'
    have hsz : h'.objs.size = s4.heap.objs.size + 1 := by rw [hs'.1, Heap.size_push]
    have keep' : ∀ b o, s4.heap.get? b = some o → h'.get? b = some o := fun b o e => hs'.extBut b o (Nat.ne_of_lt (Heap.lt_size e)) (Heap.get?_push_of_some _ e)
    generalize hcv : genEnv scope (cloFrom X.env.cells scope.names []) s4.heap.objs.size code builtinsNs X.env = cenv
    generalize hgo : ({ cls := .type "generator", data := .fields #[.int s4.gens.size 0, .str "<genexpr>" (s4.toks + 1), .str (X.env.qual ++ "<genexpr>") (s4.toks + 1 + 1)] } : Obj) = go
    have hgd : ∀ v, go.data ≠ .cell v := fun v q => by rw [← hgo] at q; cases q
    have keep5 : ∀ b o, s4.heap.get? b = some o → (h'.push go).get? b = some o := fun b o e => Heap.get?_push_of_some _ (keep' b o e)
    have hgen : (h'.push go).IsGen h'.objs.size s4.gens.size := by
      rw [← hgo]
      exact ⟨_, _, _, Heap.get?_push_size _ rfl, rfl, rfl, rfl⟩
    have hpushed : (h'.push go).get? h'.objs.size = some go := Heap.get?_push_size _ (by rw [← hgo]; rfl)
    have cL : cenv.locals = s4.heap.objs.size := by rw [← hcv]; rfl
    have cS : cenv.scope = scope := by rw [← hcv]; rfl
    have cC : cenv.cells = cloFrom X.env.cells scope.names [] := by rw [← hcv]; rfl
    have cel : ∀ x c, cenv.cells.lookup x = some c → c < s4.heap.objs.size := fun x c e => by
      rw [cC] at e
      rcases cloFrom_mem (PySem.mem_of_lookup e) with hm | ⟨h1, rfl⟩
      · cases hm
      · obtain ⟨c, hc⟩ := hfree _ h1 rfl
        rw [hc]
        obtain ⟨w, z⟩ := J4.cell _ _ hc
        exact z.lt
    have hb5 : AllBare (s4.gens.push (GenState.fresh (.compStart (.GeneratorExp elt [⟨tg, iter, ifs, 0⟩] scope gpos) 0 (.ref it) .none cenv))) := AllBare.push J4.bare rfl
    refine hQ h'.objs.size s4.gens.size s4 H4 μ2 cenv fp tn _ ⟨J4, p2.trans p24, sr4, ⟨tg, J, it, T⟩, f4, cL, cel, keep5, rfl, hgen, by omega, by show _ < (h'.push go).objs.size; rw [Heap.size_push]; exact Nat.lt_succ_self _, hb5, ?_⟩
    intro A extra s6 hA hfr hex os6 gens6 kp6 Φ hΦ
    have hAd : (A.in1.deeper cenv).frames = some (cenv :: X.stack) := Around.frames_deeper hfr
    have hns5 : (h'.push go).Ns s4.heap.objs.size (fun y => if y = ".0" then some (.ref it) else none) := hn'.push _
    have I5 : Inv (Cx.gn X s4 H4 cenv (A.in1.deeper cenv) fp) [] (L2.wipe σ own) H4 s6 := by
      rw [← hon]
      exact gen_start (m := fun y => if y = ".0" then some (.ref it) else none) J4 ok hcell hN f4 cS cL cC (by rw [← hcv]; exact J4.ok.glob) (by rw [← hcv]; rfl) (by rw [← hcv]; rfl) hAd hA.hd (fun b o e => kp6 b o (keep5 b o e)) (hns5.keeps kp6) os6 (by rw [gens6]; exact hb5)
    have young : ∀ b, s4.heap.objs.size < b → H4 b = none ∧ b ≠ cenv.locals ∧ b ∉ frs X.stack ∧ s4.heap.objs.size ≤ b ∧ ∀ x c, cenv.cells.lookup x = some c → c ≠ b := fun b hb => by
      refine ⟨J4.hok.fresh (Nat.le_of_lt hb), by rw [cL]; exact Nat.ne_of_gt hb, fun z => ?_, Nat.le_of_lt hb, fun x c e z => ?_⟩
      · rcases List.mem_cons.mp (J4.stkSub b z) with z | z
        · have := J4.lt
          rw [← z] at this
          exact absurd (Nat.lt_trans hb this) (Nat.lt_irrefl _)
        · exact J4.nofs (Nat.le_of_lt hb) z
      · have := cel x c e
        rw [z] at this
        exact absurd (Nat.lt_trans hb this) (Nat.lt_irrefl _)
    have hSb : ∀ b ∈ h'.objs.size :: extra, s4.heap.objs.size < b := fun b hb => by
      rcases List.mem_cons.mp hb with z | z
      · rw [z]; omega
      · have h1 := hex b z
        have h2 : (h'.push go).objs.size ≤ b := h1
        rw [Heap.size_push] at h2
        omega
    have hSs : ∀ b ∈ h'.objs.size :: extra, b ≠ cenv.locals ∧ b ∉ frs X.stack := fun b hb => ⟨(young b (hSb b hb)).2.1, (young b (hSb b hb)).2.2.1⟩
    have hfS : ∀ b ∈ fp, b ≠ cenv.locals ∧ b ∉ frs X.stack ∧ (∀ x c, cenv.cells.lookup x = some c → c ≠ b) ∧ b ∉ h'.objs.size :: extra := fun b hb => by
      obtain ⟨⟨q0, q1, q2, q3, q4, q5⟩, q6⟩ := f4 b hb
      refine ⟨by rw [cL]; exact Nat.ne_of_lt q6, fun z => ?_, fun x c e => ?_, fun z => ?_⟩
      · rcases List.mem_cons.mp (J4.stkSub b z) with z | z
        · exact q1 z
        · exact q2 z
      · rw [cC] at e
        rcases cloFrom_mem (PySem.mem_of_lookup e) with hm | ⟨h1, rfl⟩
        · cases hm
        · obtain ⟨c', hc⟩ := hfree _ h1 rfl
          rw [hc]
          exact q4 _ _ hc
      · exact absurd (Nat.lt_trans q6 (hSb b z)) (Nat.lt_irrefl _)
    have atg : ∀ {s7 : Shared}, Inv (Cx.gn X s4 H4 cenv (A.in1.deeper cenv) fp) [] (L2.wipe σ own) H4 s7 → tn 0 s7.heap → AtG (Cx.gn X s4 H4 cenv (A.in1.deeper cenv) fp) Tb fp (h'.objs.size :: extra) tn (L2.wipe σ own) w.items μ2 H4 w.items st4 μ2 H4 s7 := fun {s7} I7 t7 =>
      ⟨I7, ⟨0, Nat.zero_le _, by rw [List.drop_zero], t7⟩, fun b hb => (f4 b hb).1.1, fun b hb => (young b (hSb b hb)).1, sr4, .refl p24.tab⟩
    have tn6 : tn 0 s6.heap := T.keep _ _ _ tn4 fun b _ o e => kp6 b o (keep5 b o (by rw [hh4]; exact e))
    refine ⟨atg I5 tn6, rfl, hgen.keeps kp6, (by omega), .fresh (.compStart (.GeneratorExp elt [⟨tg, iter, ifs, 0⟩] scope gpos) 0 (.ref it) .none cenv), (by rw [gens6]; exact Array.getElem?_push_size), fun hsome hsol hphi => And.intro rfl ?_⟩
    obtain ⟨r, hr'⟩ := Option.isSome_iff_exists.mp hsome
    have rm : Room lv (A.in1.deeper cenv) := (Room.in1 (k := lv + 1) hA).deeper cenv
    have I6 : Inv (Cx.gn X s4 H4 cenv (A.in1.deeper cenv) fp) [] (L2.wipe σ own) H4 (s6.setGen s4.gens.size .running) :=
      inv_slept (Ss := []) I5 (by simp) (by simp) (by simp) (by simp) (by simp) rfl (allBare_setGen (by rw [gens6]; exact hb5) rfl) fun b o _ e => e
    have I6p : Inv (Cx.gn X s4 H4 cenv (A.in1.deeper cenv) fp) (pinsAt (h'.objs.size :: extra) s6.heap) (L2.wipe σ own) H4 (s6.setGen s4.gens.size .running) := I6.pins_of fun pp hp => by
      obtain ⟨hb, e⟩ := of_pinsAt hp
      obtain ⟨o, e', nd⟩ := hsol pp.1 hb
      rw [e] at e'; cases e'
      exact ⟨e, (young _ (hSb _ hb)).1, (hSs _ hb).1, (hSs _ hb).2, nd⟩
    refine seg_gen0 (X := X) (A := A.in1) (i := 0) T tn6 (seg_turns hΦ (A := A.in1) (N := w.items.length + 1) (own := own) (scope := scope) hA.hd (by rw [cS]; exact hco) ?_ hown T wr4 sr4 (er4.wipe own) hfS hSs (hg s4 H4 cenv _ fp cS rm) (ht s4 H4 cenv _ fp cS rm) (he s4 H4 cenv _ fp cS rm)
      w.items.length w.items 0 st4 μ2 H4 _ _ (w.items.length + 1) 0 w.items st4 r rfl (by rw [List.drop_zero]) (Nat.zero_le _) (by omega) (by omega) rfl hr' hr' I6p tn6 (fun b hb => (f4 b hb).1.1) sr4 (.refl p24.tab) hsol hphi)
    refine List.ext_getElem? fun j => ?_
    rw [wipe_at, wipe_at, L2.wipe_length]
    by_cases hm : j ∈ own
    · rw [if_pos hm, if_pos hm]
    · rw [if_neg hm, if_neg hm]
  cases hf : codeAmong gpos ps.toList with
  | none =>
    refine wpAny_genexprCodeX hcode (cd.code hPs htr) (cd.tab hPs) hf fun c' h' tk hx hge hlt hco' _ htab' _ => ?_
    obtain ⟨o1, vs, f1, tf, fl, tg', inF, tx, tt, op, _, _, _, _, _, _, _, _, _, htr', _⟩ := hco'
    exact cont _ h' tk _ hx htab'.2 ⟨_, rfl⟩ htr'
  | some cv =>
    refine wpAny_genexprCode_hit hcode (cd.code hPs htr) hf ?_
    exact cont cv s2.heap s2.toks ps (Heap.ExtBut.refl _ _) hPs ⟨#[], by simp⟩ htr
end Calc
end
section
set_option Elab.async false
set_option linter.all false
set_option maxRecDepth 100000
set_option autoImplicit false
/-! generator expressions: all, any, tuple -/
namespace Calc
open PySem PySem.Spec PyProof.Rows L2 GenW

section
variable {X : Cx} {Tb : List Addr} {lv : Nat} {pins : List (Addr × Obj)} {σ σw : L2.St} {w : Walk} {t : T} {env0 : Env} {mt : Env → Store → Option (Bool × Store)} {me : Env → Store → Option (D × Store)} {μ0 μ4 : List Addr} {H0 H4 : Hp} {st4 : Store}
  {a : Addr} {g : Nat} {s4 s5 : Shared} {cenv : PySem.Env} {fp : List Addr} {tn : Nat → Heap → Prop} {A A' : Around}
/-- back in the context around -/
theorem GMd.out (G : GMd X Tb lv pins σ w t env0 mt me μ0 H0 st4 a g s4 H4 μ4 cenv fp tn σw s5) {H' : Hp} {s' : Shared} (I : Inv (Cx.gn X s4 H4 cenv A fp) [] σw H' s') : Inv X pins σ H' s' :=
  G.I4.call' (ch := fp) I.os I.base I.hok I.bare fun b hb => ⟨(G.fp_ b hb).1.2.2.2.1, (G.fp_ b hb).1.2.1, (G.fp_ b hb).1.2.2.2.2.1, (G.fp_ b hb).1.2.2.2.2.2⟩
theorem GMd.apart (G : GMd X Tb lv pins σ w t env0 mt me μ0 H0 st4 a g s4 H4 μ4 cenv fp tn σw s5) {extra : List Addr} (hex : ∀ b ∈ extra, s5.heap.objs.size ≤ b) :
    (∀ b ∈ fp, b ∉ a :: extra) ∧ ∀ b ∈ a :: extra, b ≠ cenv.locals ∧ b ∉ frs X.stack ∧ s4.heap.objs.size ≤ b ∧ ∀ x c, cenv.cells.lookup x = some c → c ≠ b := by
  have hSb : ∀ b ∈ a :: extra, s4.heap.objs.size < b := fun b hb => by
    rcases List.mem_cons.mp hb with z | z
    · rw [z]; exact G.a1
    · exact Nat.lt_trans G.a1 (Nat.lt_of_lt_of_le G.a2 (hex b z))
  refine ⟨fun b hb z => absurd (Nat.lt_trans (G.fp_ b hb).2 (hSb b z)) (Nat.lt_irrefl _), fun b hb => ?_⟩
  have h1 := hSb b hb
  refine ⟨by rw [G.loc]; exact Nat.ne_of_gt h1, fun z => ?_, Nat.le_of_lt h1, fun x c e z => ?_⟩
  · rcases List.mem_cons.mp (G.I4.stkSub b z) with z | z
    · have := G.I4.lt
      rw [← z] at this
      exact absurd (Nat.lt_trans h1 this) (Nat.lt_irrefl _)
    · exact G.I4.nofs (Nat.le_of_lt h1) z
  · have := G.cel x c e
    rw [z] at this
    exact absurd (Nat.lt_trans h1 this) (Nat.lt_irrefl _)
theorem isGen_solid {h : Heap} (q : h.IsGen a g) : ∃ o, h.get? a = some o ∧ ∀ v, o.data ≠ .cell v := by
  obtain ⟨o, nm, qn, ho, hc, hd, hsl⟩ := q
  exact ⟨o, ho, fun v z => by rw [hd] at z; cases z⟩
theorem isGen_at {h h' : Heap} (q : h.IsGen a g) (k : ∀ o, h.get? a = some o → h'.get? a = some o) : h'.IsGen a g := by
  obtain ⟨o, nm, qn, ho, r⟩ := q
  exact ⟨o, nm, qn, k o ho, r⟩
theorem stable_true {K : PySem.W.Frag} {Ss : List Addr} : Stable K Tb Ss fun _ _ _ _ => True := fun _ _ _ _ _ _ _ _ _ _ _ _ => trivial

/-! ### all, any -/
theorem all_loop (G : GMd X Tb lv pins σ w t env0 mt me μ0 H0 st4 a g s4 H4 μ4 cenv fp tn σw s5) {N : Nat} (hh : A.handled = none) (hroom : A.depth < recursionLimit) {R : Result → Shared → Prop} {r : Bool × Store} :
    ∀ (m : Nat) (rest : List D) (st : Store) (μ : List Addr) (H : Hp) (s : Shared) (k : Nat), rest.length = m → GRd X Tb s4 H4 cenv A.in1 fp [a] tn σw w t env0 mt me μ4 st4 N (fun _ _ _ _ => True) a g k rest st μ H s → quantW false w.ok t env0 mt me rest st = some r →
    (∀ s' μ' H', Inv X pins σ H' s' → StR X.K μ' H' r.2 → Post Tb μ4 H4 μ' H' → R (.ok (.ret (.bool r.1))) s') → codeAny (model X.prog X.w) A (.builtin "all.loop" ⟨[.ref a], []⟩) R s := by
  obtain ⟨tg, J, it, T⟩ := G.turn
  obtain ⟨q1, q2⟩ := G.apart (extra := []) (by simp)
  intro m
  induction m using Nat.strongRecOn with
  | _ m ih =>
  intro rest st μ H s k hm rd hq hR
  obtain ⟨o, st1, hn, ho⟩ := quantW_next hq
  refine codeAny_builtin F.entry_all_loop ?_
  rw [Around.under_plainId F.plain_all_loop _]
  show wpAny _ A.in1 (pyNext (.ref a) >>= _) _ _ s
  refine wpAny_bind (gen_step stable_true T (A := A.in1) hh hroom q1 q2 List.mem_cons_self rd (fun b hb => by rw [List.mem_singleton.mp hb]; exact isGen_solid rd.gen) trivial hn ?_)
  cases o with
  | none =>
    have ho : r = (!false, st1) := ho
    subst ho
    intro s' μ' H' I' sr' p' hs hk _
    refine wpAny_bind (wpAny_rule (wpAny_pure ?_))
    exact hR s' μ' H' (G.out I') sr' p'
  | some yy =>
    obtain ⟨y, ys⟩ := yy
    obtain ⟨c, rfl, hc⟩ := ho
    intro s' v x μ' H' hat rdv rv hk _ hnext
    cases rdv
    have rv' : v = Value.bool c := rv
    subst rv'
    refine wpAny_bind (wpAny_holding (wpAny_truthy_bool ?_))
    refine wpAny_bind (wpAny_letGo ?_)
    cases c with
    | true =>
      rw [if_neg (by decide)] at hc
      simp only [if_true]
      refine wpAny_pure ⟨plainId_quiet F.plain_all_loop _, ih ys.length (by rw [← hm]; exact nextG_len hn) ys st1 μ' H' s' (k + 1) rfl (hnext s' rfl rfl (fun b o _ e => e) (isGen_at rd.gen fun o e => hk a List.mem_cons_self o e)) hc hR⟩
    | false =>
      rw [if_pos rfl] at hc
      subst hc
      simp only [Bool.false_eq_true, if_false]
      refine wpAny_bind (wpAny_rule (wpAny_pure ?_))
      exact hR s' μ' H' (G.out hat.inv) hat.sr hat.post
theorem any_loop (G : GMd X Tb lv pins σ w t env0 mt me μ0 H0 st4 a g s4 H4 μ4 cenv fp tn σw s5) {N : Nat} (hh : A.handled = none) (hroom : A.depth < recursionLimit) {R : Result → Shared → Prop} {r : Bool × Store} :
    ∀ (m : Nat) (rest : List D) (st : Store) (μ : List Addr) (H : Hp) (s : Shared) (k : Nat), rest.length = m → GRd X Tb s4 H4 cenv A.in1 fp [a] tn σw w t env0 mt me μ4 st4 N (fun _ _ _ _ => True) a g k rest st μ H s → quantW true w.ok t env0 mt me rest st = some r →
    (∀ s' μ' H', Inv X pins σ H' s' → StR X.K μ' H' r.2 → Post Tb μ4 H4 μ' H' → R (.ok (.ret (.bool r.1))) s') → codeAny (model X.prog X.w) A (.builtin "any.loop" ⟨[.ref a], []⟩) R s := by
  obtain ⟨tg, J, it, T⟩ := G.turn
  obtain ⟨q1, q2⟩ := G.apart (extra := []) (by simp)
  intro m
  induction m using Nat.strongRecOn with
  | _ m ih =>
  intro rest st μ H s k hm rd hq hR
  obtain ⟨o, st1, hn, ho⟩ := quantW_next hq
  refine codeAny_builtin F.entry_any_loop ?_
  rw [Around.under_plainId F.plain_any_loop _]
  show wpAny _ A.in1 (pyNext (.ref a) >>= _) _ _ s
  refine wpAny_bind (gen_step stable_true T (A := A.in1) hh hroom q1 q2 List.mem_cons_self rd (fun b hb => by rw [List.mem_singleton.mp hb]; exact isGen_solid rd.gen) trivial hn ?_)
  cases o with
  | none =>
    have ho : r = (!true, st1) := ho
    subst ho
    intro s' μ' H' I' sr' p' hs hk _
    refine wpAny_bind (wpAny_rule (wpAny_pure ?_))
    exact hR s' μ' H' (G.out I') sr' p'
  | some yy =>
    obtain ⟨y, ys⟩ := yy
    obtain ⟨c, rfl, hc⟩ := ho
    intro s' v x μ' H' hat rdv rv hk _ hnext
    cases rdv
    have rv' : v = Value.bool c := rv
    subst rv'
    refine wpAny_bind (wpAny_holding (wpAny_truthy_bool ?_))
    refine wpAny_bind (wpAny_letGo ?_)
    cases c with
    | false =>
      rw [if_neg (by decide)] at hc
      simp only [Bool.false_eq_true, if_false]
      refine wpAny_pure ⟨plainId_quiet F.plain_any_loop _, ih ys.length (by rw [← hm]; exact nextG_len hn) ys st1 μ' H' s' (k + 1) rfl (hnext s' rfl rfl (fun b o _ e => e) (isGen_at rd.gen fun o e => hk a List.mem_cons_self o e)) hc hR⟩
    | true =>
      rw [if_pos rfl] at hc
      subst hc
      simp only [if_true]
      refine wpAny_bind (wpAny_rule (wpAny_pure ?_))
      exact hR s' μ' H' (G.out hat.inv) hat.sr hat.post
theorem call_quant (G : GMd X Tb lv pins σ w t env0 mt me μ0 H0 st4 a g s4 H4 μ4 cenv fp tn σw s5) (hr : Room (lv + 5) A) (hfr : A.frames = some X.stack) {b : Bool} {r : Bool × Store} {Q : Value → Shared → Prop} {E : Value → Shared → Prop} (hq : quantW b w.ok t env0 mt me w.items st4 = some r)
    (hR : ∀ s' μ' H', Inv X pins σ H' s' → StR X.K μ' H' r.2 → Post Tb μ4 H4 μ' H' → Q (.bool r.1) s') : wpAny (model X.prog X.w) A (call (.builtin (if b = true then "any" else "all")) [.ref a]) Q E s5 := by
  have rd := G.ready A.in1 [] s5 (Room.mono (Room.in1 (k := lv + 4) hr) (by omega)) hfr (by simp) rfl rfl (fun _ _ e => e) (fun _ _ _ _ => True) stable_true
  cases b with
  | false =>
    rw [if_neg Bool.false_ne_true]
    refine call_function_tree F.kind_all F.plain_all F.entry_all (F.args_all1 _) ?_
    unfold Builtin.«all»
    refine wpAny_bind (m := oneArg "all" _) (wpAny_pure ?_)
    refine wpAny_bind (wpAny_pyIter_gen G.gen ?_)
    exact wpAny_pure ⟨plainId_quiet F.plain_all_loop _, all_loop G hr.hd (by have := hr.dp; omega) _ w.items st4 μ4 H4 s5 0 rfl rd hq hR⟩
  | true =>
    rw [if_pos rfl]
    refine call_function_tree F.kind_any F.plain_any F.entry_any (F.args_any1 _) ?_
    unfold Builtin.«any»
    refine wpAny_bind (m := oneArg "any" _) (wpAny_pure ?_)
    refine wpAny_bind (wpAny_pyIter_gen G.gen ?_)
    exact wpAny_pure ⟨plainId_quiet F.plain_any_loop _, any_loop G hr.hd (by have := hr.dp; omega) _ w.items st4 μ4 H4 s5 0 rfl rd hq hR⟩

/-! ### tuple -/
/-- what stands in the list S -/
def InS (K : PySem.W.Frag) (w : Walk) (t : T) (env0 : Env) (mt : Env → Store → Option (Bool × Store)) (me : Env → Store → Option (D × Store)) (st4 : Store) (S : Addr) (r : List D × Store) : Nat → List Addr → Hp → Heap → Prop := fun k μ H h =>
  ∃ (acc : Array Value) (c : Nat) (vs : List V) (ds : List D) (rest : List D) (st : Store), h.get? S = some (lstObj acc c) ∧ Vals vs acc.toList ∧ RelDs K μ H ds vs ∧ trG w.ok t env0 mt me w.items st4 k = some (rest, st) ∧ compW w.ok t env0 mt me rest ds st = some r ∧ ds.length ≤ SZ
theorem InS.stable {K : PySem.W.Frag} {Ss : List Addr} {S : Addr} {r : List D × Store} (hS : S ∈ Ss) : Stable K Tb Ss (InS K w t env0 mt me st4 S r) := fun k μ H st h μ' H' h' q sr p kp => by
  obtain ⟨acc, c, vs, ds, rest, st1, q1, q2, q3, q4, q5, q6⟩ := q
  exact ⟨acc, c, vs, ds, rest, st1, kp S hS _ q1, q2, q3.mono sr p.pre p.ext, q4, q5, q6⟩
theorem ext_loop (G : GMd X Tb lv pins σ w t env0 mt me μ0 H0 st4 a g s4 H4 μ4 cenv fp tn σw s5) {N : Nat} {S : Addr} {res : Value} (hS : s5.heap.objs.size ≤ S) (hh : A.handled = none) (hroom : A.depth < recursionLimit) {R : Result → Shared → Prop} {r : List D × Store} :
    ∀ (m : Nat) (rest : List D) (st : Store) (μ : List Addr) (H : Hp) (s : Shared) (k : Nat), rest.length = m → GRd X Tb s4 H4 cenv A.in1 fp [a, S] tn σw w t env0 mt me μ4 st4 N (InS X.K w t env0 mt me st4 S r) a g k rest st μ H s → InS X.K w t env0 mt me st4 S r k μ H s.heap →
    (∀ s' μ' H' acc c vs, Inv X pins σ H' s' → StR X.K μ' H' r.2 → Post Tb μ4 H4 μ' H' → s'.heap.get? S = some (lstObj acc c) → Vals vs acc.toList → RelDs X.K μ' H' r.1 vs → acc.size ≤ sizeLine → R (.ok (.ret res)) s') → codeAny (model X.prog X.w) A (.builtin "list.extend.loop" ⟨[.ref S, .ref a, res], []⟩) R s := by
  obtain ⟨tg, J, it, T⟩ := G.turn
  obtain ⟨q1, q2⟩ := G.apart (extra := [S]) (by simpa using hS)
  have haS : a ≠ S := Nat.ne_of_lt (Nat.lt_of_lt_of_le G.a2 hS)
  have hst : Stable X.K Tb [a, S] (InS X.K w t env0 mt me st4 S r) := InS.stable (by simp)
  intro m
  induction m using Nat.strongRecOn with
  | _ m ih =>
  intro rest st μ H s k hm rd hin hR
  obtain ⟨acc, c, vs, ds, rest1, st1, hg, hv, hd, htr, hcw, hls⟩ := id hin
  rw [rd.tr] at htr
  cases htr
  obtain ⟨o, st2, hn, ho⟩ := compW_next hcw
  refine codeAny_builtin F.entry_extend_loop ?_
  rw [Around.under_plainId F.plain_extend_loop _]
  show wpAny _ A.in1 (pyNext (.ref a) >>= _) _ _ s
  have hsol : ∀ {s : Shared} {acc : Array Value} {c : Nat}, s.heap.IsGen a g → s.heap.get? S = some (lstObj acc c) → Solid [a, S] s.heap := fun {s acc c} h1 h2 b hb => by
    rcases List.mem_cons.mp hb with z | z
    · rw [z]; exact isGen_solid h1
    · rw [List.mem_singleton.mp z]; exact ⟨_, h2, fun v z => by cases z⟩
  refine wpAny_bind (gen_step hst T (A := A.in1) hh hroom q1 q2 List.mem_cons_self rd (hsol rd.gen hg) hin hn ?_)
  cases o with
  | none =>
    have ho : r = (ds, st2) := ho
    subst ho
    intro s' μ' H' I' sr' p' hs hk hin'
    have hg' := hk S (by simp) _ hg
    obtain ⟨acc', c', vs', ds', rest', st', hg2, hv', hd', htr', hcw', hls'⟩ := hin'
    rw [hg'] at hg2
    cases hg2
    rw [rd.tr] at htr'
    cases htr'
    obtain ⟨o', st3, hn', ho'⟩ := compW_next hcw'
    rw [hn] at hn'
    cases hn'
    have ho' : (ds, st2) = (ds', st2) := ho'
    cases ho'
    refine wpAny_pure (hR s' μ' H' acc c vs' (G.out I') sr' p' hg' hv' hd' ?_)
    have h1 := hv'.length
    have h2 := hd'.length
    have h3 : acc.toList.length = acc.size := by simp
    rw [← sz_eq]; omega
  | some yy =>
    obtain ⟨y, ys⟩ := yy
    intro s' v x μ' H' hat rdv rv hk hin' hnext
    have hg' := hk S (by simp) _ hg
    obtain ⟨acc', c', vs', ds', rest', st', hg2, hv', hd', htr', hcw', hls'⟩ := hin'
    rw [hg'] at hg2
    cases hg2
    rw [rd.tr] at htr'
    cases htr'
    obtain ⟨o', st3, hn', hlw⟩ := compW_next hcw'
    rw [hn] at hn'
    cases hn'
    obtain ⟨hlt, hcw2⟩ := (show ds'.length < SZ ∧ compW w.ok t env0 mt me ys (ds' ++ [y]) st2 = some r from hlw)
    have hsz : acc.size < sizeLine := by
      have h1 := hv'.length
      have h2 := hd'.length
      have h3 : acc.toList.length = acc.size := by simp
      rw [← sz_eq]; omega
    show wpAny _ A.in1 (updateSeq S (·.push v) >>= _) _ _ _
    refine wpAny_bind (wpAny_updateSeq hg' rfl (wpAny_pure ⟨plainId_quiet F.plain_extend_loop _, ?_⟩) (Nat.le_of_lt hsz) (by show (acc.push v).size ≤ sizeLine + 1; rw [Array.size_push]; omega))
    have keep3 : ∀ b o, b ≠ S → s'.heap.get? b = some o → (s'.heap.update S (Obj.mapSeq (·.push v))).get? b = some o := fun b o hbS e => (Heap.get?_update_other _ _ (Ne.symm hbS)).trans e
    have hgen3 : (s'.heap.update S (Obj.mapSeq (·.push v))).IsGen a g := isGen_at rd.gen fun o e => keep3 a o haS (hk a List.mem_cons_self o e)
    have hg3 : ∃ c', (s'.heap.update S (Obj.mapSeq (·.push v))).get? S = some (lstObj (acc.push v) c') := ⟨_, Heap.get?_update_self _ hg' rfl⟩
    obtain ⟨c3, hg3⟩ := hg3
    have rd3 := hnext { s' with heap := s'.heap.update S (Obj.mapSeq (·.push v)) } rfl rfl (fun b o hb e => keep3 b o (fun z => hb (by rw [z]; simp)) e) hgen3
    refine ih ys.length (by rw [← hm]; exact nextG_len hn) ys st2 μ' H' _ (k + 1) rfl rd3 ⟨acc.push v, c3, vs' ++ [x], ds' ++ [y], ys, st2, hg3, ?_, hd'.append (.cons rdv .nil), rd3.tr, hcw2, by rw [List.length_append]; exact hlt⟩ hR
    rw [Array.toList_push]
    exact hv'.append (.cons rv .nil)
end
end Calc
end
section
set_option Elab.async false
set_option linter.all false
set_option maxRecDepth 100000
set_option autoImplicit false
/-! generator expressions: tuple(..), and the rules -/
namespace Calc
open PySem PySem.Spec PyProof.Rows L2 GenW

section
variable {X : Cx} {Tb : List Addr} {lv : Nat} {pins : List (Addr × Obj)} {σ σw : L2.St} {w : Walk} {t : T} {env0 : Env} {mt : Env → Store → Option (Bool × Store)} {me : Env → Store → Option (D × Store)} {μ0 μ4 : List Addr} {H0 H4 : Hp} {st4 : Store}
  {a : Addr} {g : Nat} {s4 s5 : Shared} {cenv : PySem.Env} {fp : List Addr} {tn : Nat → Heap → Prop} {A A' : Around}
theorem collect_gen (G : GMd X Tb lv pins σ w t env0 mt me μ0 H0 st4 a g s4 H4 μ4 cenv fp tn σw s5) (hr : Room (lv + 3) A) (hfr : A.frames = some X.stack) {r : List D × Store} {Q : List Value → Shared → Prop} {E : Value → Shared → Prop} (hc : compW w.ok t env0 mt me w.items [] st4 = some r)
    (hR : ∀ s' μ' H' (acc : Array Value) vs, Inv X pins σ H' s' → StR X.K μ' H' r.2 → Post Tb μ4 H4 μ' H' → Vals vs acc.toList → RelDs X.K μ' H' r.1 vs → acc.size ≤ sizeLine → Q acc.toList s') : wpAny (model X.prog X.w) A (collect (.ref a)) Q E s5 := by
  have haS : a ≠ s5.heap.objs.size := Nat.ne_of_lt G.a2
  have hSa : s5.heap.objs.size ≠ a := Ne.symm haS
  have gty : ∀ {h : Heap}, (∀ b o, s5.heap.get? b = some o → h.get? b = some o) → h.IsGen a g := fun {h} q => G.gen.keeps q
  unfold collect
  refine wpAny_bind (wpAny_runValue (codeAny_builtin F.entry_proto_collect ?_))
  rw [Around.under_plainId F.plain_proto_collect _]
  show wpAny _ A.in1 (newList [] >>= fun l => again (.builtin "list.__iadd__" ⟨[l, .ref a], []⟩)) _ _ s5
  refine wpAny_bind (wpAny_newObj_type ?_)
  refine wpAny_pure ⟨plainId_quiet F.plain_list_iadd _, codeAny_builtin F.entry_list_iadd ?_⟩
  rw [Around.under_plainId F.plain_list_iadd _]
  have k1 : ∀ b o, s5.heap.get? b = some o → (s5.heap.push { cls := .type "list", data := .seq ([] : List Value).toArray }).get? b = some o := fun b o e => Heap.get?_push_of_some _ e
  show wpAny _ A.in1 (Builtin.List.listExtendWith (.ref s5.heap.objs.size) (.ref a) (.ref s5.heap.objs.size)) _ _ _
  unfold Builtin.List.listExtendWith
  refine wpAny_bind (wpAny_typeOf (Heap.IsGen.typeIs (s := { s5 with heap := _ }) (gty k1)) ?_)
  have h1 : Builtin.List.listSameRef (.ref s5.heap.objs.size) (.ref a) = false := by simp [Builtin.List.listSameRef, hSa]
  have h2 : (Value.type "generator" == Value.type "list") = false := by decide
  have h3 : (Value.type "generator" == Value.type "tuple") = false := by decide
  simp only [h1, h2, h3, Bool.or_false, Bool.false_eq_true, if_false]
  refine wpAny_bind (wpAny_pyIter_gen (s := { s5 with heap := _ }) (gty k1) ?_)
  refine wpAny_bind (wpAny_holding ?_)
  unfold Builtin.List.listLengthHint
  refine wpAny_bind (wpAny_specialOf (Heap.IsGen.typeIs (s := { s5 with heap := _ }) (gty k1)) F.gen_no_len ?_)
  show wpAny _ A.in1 (specialOf (Value.ref a) (Str.ofString "__length_hint__") >>= _) _ _ _
  refine wpAny_bind (wpAny_specialOf (Heap.IsGen.typeIs (s := { s5 with heap := _ }) (gty k1)) F.gen_no_hint ?_)
  refine wpAny_pure ?_
  show wpAny _ A.in1 (rule "list.extend.makes-room" >>= fun _ => Builtin.List.listTouch (.ref s5.heap.objs.size) >>= fun _ =>
    again (.builtin "list.extend.loop" ⟨[.ref s5.heap.objs.size, .ref a, .ref s5.heap.objs.size], []⟩)) _ _ _
  refine wpAny_bind (wpAny_rule ?_)
  have hS₁ : (s5.heap.push { cls := .type "list", data := .seq ([] : List Value).toArray }).get? s5.heap.objs.size = some { cls := .type "list", data := .seq ([] : List Value).toArray } := Heap.get?_push_size _ rfl
  refine wpAny_bind ?_
  show wpAny _ A.in1 (updateSeq s5.heap.objs.size (·.push .none) >>= fun _ => updateSeq s5.heap.objs.size (·.pop)) _ _ _
  refine wpAny_bind (wpAny_updateSeq hS₁ rfl ?_)
  have hS₂ := Heap.get?_update_self (Obj.mapSeq (·.push Value.none)) hS₁ rfl
  refine wpAny_updateSeq hS₂ rfl ?_
  have hS₃ := Heap.get?_update_self (Obj.mapSeq (·.pop)) hS₂ rfl
  have oth : ∀ b o, s5.heap.get? b = some o →
      (((s5.heap.push { cls := .type "list", data := .seq ([] : List Value).toArray }).update s5.heap.objs.size (Obj.mapSeq (·.push Value.none))).update s5.heap.objs.size (Obj.mapSeq (·.pop))).get? b = some o :=
    fun b o e => (Heap.get?_update_other _ _ (Ne.symm (Nat.ne_of_lt (Heap.lt_size e)))).trans ((Heap.get?_update_other _ _ (Ne.symm (Nat.ne_of_lt (Heap.lt_size e)))).trans (k1 b o e))
  have hST : Stable X.K Tb [a, s5.heap.objs.size] (InS X.K w t env0 mt me st4 s5.heap.objs.size r) := InS.stable (by simp)
  have rd := G.ready A.in1 [s5.heap.objs.size] { s5 with heap := ((s5.heap.push { cls := .type "list", data := .seq ([] : List Value).toArray }).update s5.heap.objs.size (Obj.mapSeq (·.push Value.none))).update s5.heap.objs.size (Obj.mapSeq (·.pop)) } (Room.in1 (k := lv + 2) hr) hfr (by simp) rfl rfl oth _ hST
  refine wpAny_pure ⟨plainId_quiet F.plain_extend_loop _, ext_loop G (Nat.le_refl _) hr.hd (by have := hr.dp; show A.depth < _; omega) _ w.items st4 μ4 H4 _ 0 rfl rd ⟨_, _, [], [], w.items, st4, hS₃, .nil, .nil, rfl, hc, Nat.zero_le _⟩ fun s' μ' H' acc c vs I' sr' p' hS' hv hd hsz => ?_⟩
  show wpAny _ A (load s5.heap.objs.size >>= _) _ _ s'
  refine wpAny_bind (wpAny_load hS' ?_)
  exact wpAny_pure (hR s' μ' H' acc vs I' sr' p' hv hd hsz)

theorem tuple_new_gen (G : GMd X Tb lv pins σ w t env0 mt me μ0 H0 st4 a g s4 H4 μ4 cenv fp tn σw s5) (hr : Room (lv + 4) A) (hfr : A.frames = some X.stack) {r : List D × Store} {Q₁ : Value → Shared → Prop} {E : Value → Shared → Prop} (hc : compW w.ok t env0 mt me w.items [] st4 = some r)
    (hR : ∀ s' μ' H' (acc : Array Value) vs, Inv X pins σ H' s' → StR X.K μ' H' r.2 → Post Tb μ4 H4 μ' H' → Vals vs acc.toList → RelDs X.K μ' H' r.1 vs → acc.size ≤ sizeLine → Q₁ (.ref s'.heap.objs.size) { s' with heap := s'.heap.push { cls := .type "tuple", data := .seq acc } }) :
    codeAny (model X.prog X.w) A (.call (.builtin "tuple.__new__") ⟨[.type "tuple", .ref a], []⟩) (wants Q₁ E) s5 := by
  refine codeAny_of_tree ?_
  show wpAny _ A.in1 (do checkBuiltinCall "tuple.__new__" ⟨[.type "tuple", .ref a], []⟩; again (.builtin "tuple.__new__" ⟨[.type "tuple", .ref a], []⟩)) _ _ s5
  refine wpAny_bind (wpAny_of_eq (F.newCall_tuple_1 _) (wpAny_pure ⟨plainId_quiet F.plain_tuple_new _, codeAny_builtin F.entry_tuple_new ?_⟩))
  rw [Around.under_plainId F.plain_tuple_new _]
  have hsub := sub_tuple_self
  have hinit := init_tuple_lookup
  have hmh := madeHere_tuple
  have hTI : s5.TypeIs (.ref a) "generator" := Heap.IsGen.typeIs (s := s5) G.gen
  wp_walk using wpAny_typeOf hTI, collect_gen G (Room.in1 (k := lv + 3) hr) hfr hc
  intro s' μ' H' acc vs I' sr' p' hv hd hsz
  show wpAny _ _ (Builtin.Tuple.tupleExact acc.toList.toArray >>= fun v => ret v) _ _ _
  unfold Builtin.Tuple.tupleExact
  refine wpAny_bind (wpAny_newObj_type ?_ (by show acc.toList.toArray.size ≤ sizeLine; simp only [Array.toArray_toList]; exact hsz))
  refine wpAny_pure ?_
  have e : acc.toList.toArray = acc := by simp
  rw [e]
  exact hR s' μ' H' acc vs I' sr' p' hv hd hsz
theorem call_tuple (G : GMd X Tb lv pins σ w t env0 mt me μ0 H0 st4 a g s4 H4 μ4 cenv fp tn σw s5) (hr : Room (lv + 5) A) (hfr : A.frames = some X.stack) {r : List D × Store} {Q : Value → Shared → Prop} {E : Value → Shared → Prop} (hc : compW w.ok t env0 mt me w.items [] st4 = some r)
    (hR : ∀ s' μ' H' v, Inv X pins σ H' s' → StR X.K μ' H' r.2 → Post Tb μ4 H4 μ' H' → RelD X.K μ' H' (.tup r.1) v → ∀ u, RelV v u → Q u s') : wpAny (model X.prog X.w) A (call (.type "tuple") [.ref a]) Q E s5 := by
  refine callType_codes (Q₁ := fun obj s₁ => s₁.TypeIs obj "tuple" ∧ Q obj s₁) F.called_tuple (F.typeCall_tuple_1 _) F.entry_object_init
    (tuple_new_gen G (Room.in1 (k := lv + 4) hr) hfr hc fun s' μ' H' acc vs I' sr' p' hv hd hsz => ⟨⟨_, Heap.get?_push_size _ rfl, rfl⟩, ?_⟩) fun obj s₁ h₁ => ?_
  · have hp : H' s'.heap.objs.size = none := I'.hok.fresh (Nat.le_refl _)
    have hlen : vs.length ≤ sizeLine := by
      have h1 := hv.length
      have h3 : acc.toList.length = acc.size := by simp
      omega
    refine hR _ μ' (upd H' s'.heap.objs.size (.tup vs)) (.ref s'.heap.objs.size) (I'.laid (t' := s'.toks) (fun b o e => Heap.get?_push_of_some _ e) (Nat.le_refl _) ⟨hlen, acc.toList, hv, ?_⟩) (sr'.made hp) (p'.trans (.made p'.tab hp))
      (.tup (.inl (.inl upd_same)) (hd.mono sr' (List.prefix_refl _) (Post.made (Tb := Tb) (μ := μ') p'.tab hp).ext)) _ rfl
    exact ⟨_, Heap.get?_push_size _ rfl, rfl, _, by simp; rfl⟩
  · exact ⟨h₁.1, F.args_object_init_2 obj _, object_init_meets F.called_tuple.init.lookup F.called_tuple.made (by decide) X.prog X.w A.in1 _ s₁ ⟨h₁.1, rfl, h₁.2⟩⟩
end
end Calc
end
section
set_option Elab.async false
set_option linter.all false
set_option maxRecDepth 100000
set_option autoImplicit false
/-! generator expressions: the rules -/
namespace Calc
open PySem PySem.Spec PyProof.Rows L2 GenW

theorem fold_ok {e : Expr} {env : PySem.Env} (h1 : notSet e = true) (h2 : notList e = true) : ∀ x, genFold e env x = pure x := fun x => by
  cases e <;> first | rfl | exact absurd h1 Bool.false_ne_true | exact absurd h2 Bool.false_ne_true

/-- what a generator expression has to be -/
structure GenH (X : Cx) (Tb : List Addr) (lv : Nat) (tg iter elt : Expr) (ifs : List Expr) (scope : Scope) (t : T) (own : List Nat) (msrc : Env → Store → Option (Walk × Store)) (mt : Env → Store → Option (Bool × Store)) (me : Env → Store → Option (D × Store)) : Prop where
  hr : Room (lv + 5) X.A
  tab : ∃ c P, X.env.code = .ref c ∧ GxR.TabB X.base X.mg c P ∧ P ∈ Tb
  hN : X.N.Nodup
  ok : BlkOk X.N X.env.scope scope (ownP X.N own)
  co : scope.isCoroutine = false
  cell : ∀ y ∈ scope.names, y.2 ≠ .cell
  dot : scope.names.lookup (".0" : Str) = some NameKind.local
  own_ : ∀ i ∈ tSlots t, i ∈ own
  hi : PI X tg iter (tW X.K Tb msrc)
  hs : ∀ v, genFold iter X.env v = pure v
  hg : ∀ (s : Shared) (H : Hp) (cenv : PySem.Env) (A : Around) (fp : List Addr), cenv.scope = scope → Room lv A → PG (Cx.gn X s H cenv A fp) tg (tTg X.K t)
  ht : ∀ (s : Shared) (H : Hp) (cenv : PySem.Env) (A : Around) (fp : List Addr), cenv.scope = scope → Room lv A → PTs (Cx.gn X s H cenv A fp) ifs (tB X.K Tb mt)
  he : ∀ (s : Shared) (H : Hp) (cenv : PySem.Env) (A : Around) (fp : List Addr), cenv.scope = scope → Room lv A → PE (Cx.gn X s H cenv A fp) elt (tE X.K Tb me)
section
variable {X : Cx} {Tb : List Addr} {lv : Nat} {tg iter elt : Expr} {ifs : List Expr} {scope : Scope} {t : T} {own : List Nat} {msrc : Env → Store → Option (Walk × Store)} {mt : Env → Store → Option (Bool × Store)} {me : Env → Store → Option (D × Store)} {p pos gpos : Pos}
theorem ownP_map (N : List Str) (own : List Nat) : (ownP N own).map (·.2) = own := by
  unfold ownP
  rw [List.map_map]
  have : ((fun x : Str × Nat => x.2) ∘ fun i => (N.getD i ⟨#[]⟩, i)) = id := rfl
  rw [this, List.map_id]
theorem GenH.run {pins : List (Addr × Obj)} {σ : L2.St} {H : Hp} {s : Shared} {μ : List Addr} {env : Env} {st st4 : Store} {w : Walk} {Q' : Value → Shared → Prop} (h : GenH X Tb lv tg iter elt ifs scope t own msrc mt me)
    (I : Inv X pins σ H s) (sr : StR X.K μ H st) (tb : TabsR Tb H) (er : EnvR X.K μ H env σ) (hsrc : msrc env st = some (w, st4))
    (hQ : ∀ a g s4 H4 μ4 cenv fp tn s5, GMd X Tb lv pins σ w t (Calc.wipe env own) mt me μ H st4 a g s4 H4 μ4 cenv fp tn (L2.wipe σ own) s5 → Q' (.ref a) s5) :
    wpAny (model X.prog X.w) X.A (eval (.GeneratorExp elt [⟨tg, iter, ifs, 0⟩] scope gpos) X.env) Q' X.xe s := by
  obtain ⟨c, P, hc, TB, hP⟩ := h.tab
  exact gen_make h.hr TB hc hP h.hN h.ok (ownP_map _ _) h.co h.cell h.dot h.own_ h.hi h.hs h.hg h.ht h.he I sr tb er hsrc hQ
theorem de_genT (h : GenH X Tb lv tg iter elt ifs scope t own msrc mt me) (hg : isGl X.env.scope "tuple" = true) (hm : X.mg "tuple" = none) :
    PE X (.Call (.Name "tuple" p) [.GeneratorExp elt [⟨tg, iter, ifs, 0⟩] scope gpos] [] pos) (tE X.K Tb fun env st => bnd (msrc env st) fun w st1 => bnd (compW w.ok t (Calc.wipe env own) mt me w.items [] st1) fun xs st3 => some (.tup xs, st3)) := by
  obtain ⟨g1, g2⟩ := gl_of hg rfl
  obtain ⟨_, _, _, b4, _⟩ := boots
  refine ⟨fun pins s σ H Q I q => ?_⟩
  obtain ⟨μ, env, st, d, st', sr, tb, er, ee, kk⟩ := q
  obtain ⟨w, st1, e1, e2⟩ := bnd_eq ee
  obtain ⟨xs, st3, e3, e4⟩ := bnd_eq e2
  cases e4
  refine wpAny_Call_Name_kw (ld_blt I g1 hm b4 ?_ (by decide) g2)
  refine PyProof.Rows.callWith_type1 ?_ rfl rfl
  show wpAny _ _ (spliced ((false, eval (.GeneratorExp elt [⟨tg, iter, ifs, 0⟩] scope gpos) X.env) :: backTo pos (starEach [] X.env))) _ _ s
  refine Calls.spliced_cons (h.run I sr tb er e1 fun a g s4 H4 μ4 cenv fp tn s5 G => ?_)
  refine Calls.spliced_nil ?_
  exact call_tuple G h.hr I.ok.frames e3 fun s' μ' H' v I' sr' p' rd u ru => ⟨v, H', I', ru, kk μ' H' v (G.post.trans p') sr' rd⟩
theorem de_genQ {b : Bool} (h : GenH X Tb lv tg iter elt ifs scope t own msrc mt me) (hg : isGl X.env.scope (if b = true then "any" else "all") = true) (hm : X.mg (if b = true then "any" else "all") = none) :
    PE X (.Call (.Name (if b = true then "any" else "all") p) [.GeneratorExp elt [⟨tg, iter, ifs, 0⟩] scope gpos] [] pos) (tE X.K Tb fun env st => bnd (msrc env st) fun w st1 => toBl (quantW b w.ok t (Calc.wipe env own) mt me w.items st1)) := by
  obtain ⟨g1, g2⟩ := gl_of hg (by cases b <;> rfl)
  obtain ⟨_, _, _, _, _, _, _, _, b9, b10, _⟩ := boots
  refine ⟨fun pins s σ H Q I q => ?_⟩
  obtain ⟨μ, env, st, d, st', sr, tb, er, ee, kk⟩ := q
  obtain ⟨w, st1, e1, e2⟩ := bnd_eq ee
  obtain ⟨c, st3, e3, e4⟩ := bnd_eq e2
  cases e4
  have hboot : bootBuiltins (if b = true then "any" else "all") = some (.builtin (if b = true then "any" else "all")) := by cases b <;> assumption
  refine wpAny_Call_Name_kw (ld_blt I g1 hm hboot ?_ (by cases b <;> decide) g2)
  refine PyProof.Rows.callWith_builtin1 ?_ rfl rfl
  show wpAny _ _ (spliced ((false, eval (.GeneratorExp elt [⟨tg, iter, ifs, 0⟩] scope gpos) X.env) :: backTo pos (starEach [] X.env))) _ _ s
  refine Calls.spliced_cons (h.run I sr tb er e1 fun a g s4 H4 μ4 cenv fp tn s5 G => ?_)
  refine Calls.spliced_nil ?_
  exact call_quant G h.hr I.ok.frames e3 fun s' μ' H' I' sr' p' => ⟨.bl c, H', I', rfl, kk μ' H' _ (G.post.trans p') sr' (.bl c)⟩
end
end Calc
end
section
set_option Elab.async false
set_option linter.all false
set_option maxRecDepth 100000
set_option autoImplicit false
set_option maxHeartbeats 4000000
/-! soundness of expressions -/
namespace Calc
open PySem PySem.Spec PyProof.Rows L2

structure Fx where
  G : Str → Fn → Prop
  GK : Str → Fn → Nat → List Str → List Nat → Prop
  V : Str → D → Prop
def esLen : Es → Nat
  | .nil => 0
  | .cons _ es => esLen es + 1
mutual
def calE (f : Fx) : E → Prop
  | .lit _ => True
  | .var _ => True
  | .glb x d => f.V x d
  | .tup es => calEs f es
  | .lst es => calEs f es
  | .bin _ a b => calE f a ∧ calE f b
  | .neg a => calE f a
  | .cmp _ a b => calE f a ∧ calE f b
  | .chain _ _ a b c => calE f a ∧ calE f b ∧ calE f c
  | .not a => calE f a
  | .and a b => calE f a ∧ calE f b
  | .or a b => calE f a ∧ calE f b
  | .ite c a b => calE f c ∧ calE f a ∧ calE f b
  | .idx a i => calE f a ∧ calE f i
  | .slc a lo hi => calE f a ∧ calO f lo ∧ calO f hi
  | .call x F es => f.G x F ∧ calEs f es
  | .callK x F ks perm es kes => f.GK x F (esLen es) ks perm ∧ calEs f es ∧ calEs f kes
  | .bl _ es => calEs f es
  | .isi _ a => calE f a
  | .meth _ o es => calE f o ∧ calEs f es
  | .lc elt _ s test _ => calE f elt ∧ calSrc f s ∧ calO f test
  | .gen _ elt _ s test _ => calE f elt ∧ calSrc f s ∧ calO f test
def calEs (f : Fx) : Es → Prop
  | .nil => True
  | .cons e es => calE f e ∧ calEs f es
def calO (f : Fx) : Oe → Prop
  | .none => True
  | .some e => calE f e
def calSrc (f : Fx) : Src → Prop
  | .seq e => calE f e
  | .rng es => calEs f es
  | .enm e => calE f e
  | .zip a b => calE f a ∧ calE f b
end

/-- built-in names that no module name covers -/
def bNames : List Str := ["len", "abs", "int", "tuple", "list", "isinstance", "bool", "str", "range", "enumerate", "zip", "all", "any"]
structure SOk (X : Cx) (Tb : List Addr) (N : List Str) (sc : Scope) (top g : Bool) (lv : Nat) : Prop where
  ok : XOk X Tb N sc top g
  hr : Room lv X.A
  hg : g = true → Room (lv + 5) X.A
  hB : ∀ x ∈ bNames, X.mg x = none
def fxOf (X : Cx) (Tb : List Addr) (lv : Nat) : Fx := ⟨fun x F => GF X Tb lv x F, fun x F n ks perm => GK X Tb lv x F n ks perm, fun x d => GV X x d⟩

theorem PT.no {X : Cx} {Tb : List Addr} {e : Expr} {m : Env → Store → Option (Bool × Store)} (h : ∀ env st, m env st = none) : PT X e (tB X.K Tb m) := ⟨fun pins s σ H Q I q => by
  obtain ⟨μ, env, st, c, st', sr, tb, er, ee, kk⟩ := q
  rw [h] at ee
  cases ee⟩
theorem tE_ext {X : Cx} {Tb : List Addr} {e : Expr} {m m' : Env → Store → Option (D × Store)} (h : PE X e (tE X.K Tb m)) (w : ∀ env st, m' env st = m env st) : PE X e (tE X.K Tb m') := by
  have e1 : m' = m := funext fun env => funext fun st => w env st
  rw [e1]; exact h
theorem tB_ext {X : Cx} {Tb : List Addr} {e : Expr} {m m' : Env → Store → Option (Bool × Store)} (h : PT X e (tB X.K Tb m)) (w : ∀ env st, m' env st = m env st) : PT X e (tB X.K Tb m') := by
  have e1 : m' = m := funext fun env => funext fun st => w env st
  rw [e1]; exact h
theorem asTr_toBl (m : Option (Bool × Store)) : asTr (toBl m) = m := by
  cases m with
  | none => rfl
  | some p => rfl
theorem denEs_len : ∀ {es : Es} {env : Env} {st : Store} {xs : List D} {st' : Store}, denEs es env st = some (xs, st') → xs.length = esLen es
  | .nil, env, st, xs, st', h => by
    simp only [denEs] at h; cases h; rfl
  | .cons e es, env, st, xs, st', h => by
    simp only [denEs] at h
    obtain ⟨x, st1, h1, h2⟩ := bnd_eq h
    obtain ⟨ys, st2, h3, h4⟩ := bnd_eq h2
    cases h4
    show ys.length + 1 = esLen es + 1
    rw [denEs_len h3]
theorem chkEs_len {N : List Str} {sc : Scope} {g : Bool} : ∀ {es : Es} {xs : List Expr}, chkEs N sc g es xs = true → esLen es = xs.length ∧ xs.all notStar = true
  | .nil, xs, h => by
    simp only [chkEs, List.isEmpty_iff] at h
    subst h; exact ⟨rfl, rfl⟩
  | .cons e es, xs, h => by
    simp only [chkEs] at h
    split at h
    · simp only [Bool.and_eq_true] at h
      obtain ⟨h1, h2⟩ := chkEs_len h.2
      exact ⟨by show esLen es + 1 = _; rw [h1]; rfl, by rw [List.all_cons, h.1.1, h2]; rfl⟩
    · cases h
theorem kws_eta : ∀ {kws : List Keyword} {ks : List Str}, kws.map (·.arg) = ks.map some → True := fun _ => trivial

section
variable {X : Cx} {Tb : List Addr} {N : List Str} {sc : Scope} {top g : Bool} {lv : Nat}
theorem SOk.b (k : SOk X Tb N sc top g lv) {x : Str} (h : x ∈ bNames) : X.mg x = none := k.hB x h
theorem SOk.glob (k : SOk X Tb N sc top g lv) {x : Str} (h : isGl sc x = true) : isGl X.env.scope x = true := by rw [k.ok.eS]; exact h
/-- in a comprehension's block -/
theorem SOk.blk (k : SOk X Tb N sc top g lv) (s : Shared) (H : Hp) (scope : Scope) (C : Addr) (cl : List (Str × Addr)) (fp : List Addr) : SOk (X.blk s H scope (compEnvC scope cl C X.env) fp) Tb N (relS scope sc) false g lv :=
  ⟨⟨k.ok.eN, by show relS scope X.env.scope = _; rw [k.ok.eS], k.ok.nd, k.ok.calm, (fun h => nomatch h), fun h => k.ok.tabs h⟩, k.hr, k.hg, k.hB⟩
/-- in a generator's frame -/
theorem SOk.gn (k : SOk X Tb N sc top g lv) {s : Shared} {H : Hp} {scope : Scope} {cenv : PySem.Env} {A : Around} {fp : List Addr} (hs : cenv.scope = scope) (hr : Room lv A) : SOk (Cx.gn X s H cenv A fp) Tb N scope false false lv :=
  ⟨⟨k.ok.eN, hs, k.ok.nd, rfl, (fun h => nomatch h), (fun h => nomatch h)⟩, hr, (fun h => nomatch h), k.hB⟩
end

theorem genC_of {N : List Str} {sc scope : Scope} {own : List (Str × Nat)} (h : genC N sc scope own = true) : BlkOk N sc scope own ∧ scope.isCoroutine = false ∧ scope.names.lookup (".0" : Str) = some NameKind.local ∧ ∀ y ∈ scope.names, y.2 ≠ .cell := by
  unfold genC at h
  simp only [Bool.and_eq_true, Bool.not_eq_true', List.all_eq_true, decide_eq_true_eq] at h
  obtain ⟨⟨⟨⟨h1, h2⟩, h3⟩, h4⟩, h5⟩ := h
  exact ⟨blkOk_by h1, h2, h3, h4⟩
theorem own_of {t : T} {own : List Nat} (h : (tSlots t).all (fun i => own.contains i) = true) : ∀ i ∈ tSlots t, i ∈ own := fun i hi => by
  have := List.all_eq_true.mp h i hi
  simpa using this
theorem empty_of {α : Type} {l : List α} (h : l.isEmpty = true) : l = [] := by simpa using h
theorem plain_of {e : E} {x : Expr} {N : List Str} {sc : Scope} {g : Bool} (h : chkE N sc g e x = true) (hp : (match e with
    | .lit _ => true | .var _ => true | .idx _ _ => true | .call _ _ _ => true | .callK .. => true | .bl _ _ => true | .isi _ _ => true | .bin _ _ _ => true | .gen .. => true
    | _ => false) = true) : plainTest x = true := by
  cases e <;> first | (cases hp; done) | (cases x <;> first | rfl | (simp [chkE] at h; done))

def pkOf {X : Cx} {Tb : List Addr} : ∀ (kws : List Keyword) {ms : Env → Store → Option (List D × Store)}, True := fun _ _ => trivial

def Snd (X : Cx) (Tb : List Addr) (e : E) (x : Expr) : Prop := PE X x (tE X.K Tb (denE e)) ∧ PT X x (tB X.K Tb (denT e)) ∧ ((∃ op xs pos, x = .BoolOp op xs pos) → PW X x (tB X.K Tb (denT e)))
theorem tW_ext {X : Cx} {Tb : List Addr} {e : Expr} {m m' : Env → Store → Option (Bool × Store)} (h : PW X e (tB X.K Tb m)) (w : ∀ env st, m' env st = m env st) : PW X e (tB X.K Tb m') := by
  have e1 : m' = m := funext fun env => funext fun st => w env st
  rw [e1]; exact h
def notBool : Expr → Bool | .BoolOp _ _ _ => false | _ => true
section
variable {X : Cx} {Tb : List Addr} {e : E} {x : Expr}
theorem Snd.tru (h : PE X x (tE X.K Tb (denE e))) (hp : plainTest x = true) (w : ∀ env st, denT e env st = asTr (denE e env st)) : Snd X Tb e x :=
  ⟨h, tB_ext (dt_tru h hp) w, fun ⟨_, _, _, z⟩ => by subst z; cases hp⟩
theorem Snd.no (h : PE X x (tE X.K Tb (denE e))) (w : ∀ env st, denT e env st = none) : Snd X Tb e x :=
  ⟨h, PT.no w, fun _ => ⟨fun whole pins s σ H Q I q => by
    obtain ⟨μ, env, st, c, st', sr, tb, er, ee, kk⟩ := q
    rw [w] at ee
    cases ee⟩⟩
theorem Snd.test (h : PE X x (tE X.K Tb (denE e))) (t : PT X x (tB X.K Tb (denT e))) (hb : notBool x = true) : Snd X Tb e x := ⟨h, t, fun ⟨_, _, _, z⟩ => by subst z; cases hb⟩
theorem Snd.pw (h : PE X x (tE X.K Tb (denE e))) (t : PW X x (tB X.K Tb (denT e))) : Snd X Tb e x := ⟨h, t.pt, fun _ => t⟩
end

mutual
theorem sE {X : Cx} {Tb : List Addr} {N : List Str} {sc : Scope} {top g : Bool} {lv : Nat} (k : SOk X Tb N sc top g lv) : ∀ (e : E) (x : Expr), calE (fxOf X Tb lv) e → chkE N sc g e x = true → Snd X Tb e x
  | .lit d, x, hc, h => by
    have h0 := h
    simp only [chkE] at h
    split at h
    · exact Snd.tru (tE_ext (de_lit h) fun _ _ => by first | (simp only [denE]; done) | (simp only [denE]; rfl)) (plain_of h0 rfl) fun _ _ => by first | (simp only [denT, denE]; done) | (simp only [denT, denE]; rfl)
    · cases h
  | .var i, x, hc, h => by
    have h0 := h
    simp only [chkE] at h
    split at h
    · simp only [Bool.and_eq_true, decide_eq_true_eq] at h
      exact Snd.tru (tE_ext (de_var (by rw [k.ok.eN]; exact h.1) (by rw [k.ok.eS]; exact h.2)) fun _ _ => by first | (simp only [denE]; done) | (simp only [denE]; rfl)) (plain_of h0 rfl) fun _ _ => by first | (simp only [denT, denE]; done) | (simp only [denT, denE]; rfl)
    · cases h
  | .glb y d, x, hc, h => by
    have h0 := h
    simp only [chkE] at h
    split at h
    · simp only [Bool.and_eq_true, decide_eq_true_eq] at h
      obtain ⟨rfl, h2⟩ := h
      exact Snd.no (tE_ext (de_glb (k.glob h2) hc) fun _ _ => by first | (simp only [denE]; done) | (simp only [denE]; rfl)) fun _ _ => by first | (simp only [denT]; done) | (simp only [denT]; rfl)
    · cases h
  | .tup es, x, hc, h => by
    have h0 := h
    simp only [chkE] at h
    split at h
    · exact Snd.no (tE_ext (de_tup (sEs k es _ hc h)) fun _ _ => by first | (simp only [denE]; done) | (simp only [denE]; rfl)) fun _ _ => by first | (simp only [denT]; done) | (simp only [denT]; rfl)
    · cases h
  | .lst es, x, hc, h => by
    have h0 := h
    simp only [chkE] at h
    split at h
    · exact Snd.no (tE_ext (de_lst (sEs k es _ hc h)) fun _ _ => by first | (simp only [denE]; done) | (simp only [denE]; rfl)) fun _ _ => by first | (simp only [denT]; done) | (simp only [denT]; rfl)
    · cases h
  | .bin op a b, x, hc, h => by
    have h0 := h
    simp only [chkE] at h
    split at h
    · simp only [Bool.and_eq_true] at h
      exact Snd.tru (tE_ext (de_bin h.1.1 (sE k a _ hc.1 h.1.2).1 (sE k b _ hc.2 h.2).1) fun _ _ => by first | (simp only [denE]; done) | (simp only [denE]; rfl)) (plain_of h0 rfl) fun _ _ => by first | (simp only [denT, denE]; done) | (simp only [denT, denE]; rfl)
    · cases h
  | .neg a, x, hc, h => by
    have h0 := h
    simp only [chkE] at h
    split at h
    · exact Snd.no (tE_ext (de_neg (sE k a _ hc h).1) fun _ _ => by first | (simp only [denE]; done) | (simp only [denE]; rfl)) fun _ _ => by first | (simp only [denT]; done) | (simp only [denT]; rfl)
    · cases h
  | .cmp op a b, x, hc, h => by
    have h0 := h
    simp only [chkE] at h
    split at h
    · simp only [Bool.and_eq_true] at h
      exact Snd.test (tE_ext (de_cmp h.1.1.1 k.hr.units (sE k a _ hc.1 h.1.1.2).1 (sE k b _ hc.2 h.1.2).1 h.2) fun _ _ => by first | (simp only [denE]; done) | (simp only [denE]; rfl)) (tB_ext (dt_cmp h.1.1.1 k.hr.units (sE k a _ hc.1 h.1.1.2).1 (sE k b _ hc.2 h.1.2).1 h.2) fun _ _ => by first | (simp only [denT]; done) | (simp only [denT]; rfl)) rfl
    · cases h
  | .chain o1 o2 a b c, x, hc, h => by
    have h0 := h
    simp only [chkE] at h
    split at h
    · simp only [Bool.and_eq_true] at h
      exact Snd.test (tE_ext (de_chain h.1.1.1.1.1 h.1.1.1.1.2 k.hr.units (sE k a _ hc.1 h.1.1.1.2).1 (sE k b _ hc.2.1 h.1.1.2).1 (sE k c _ hc.2.2 h.1.2).1 h.2) fun _ _ => by first | (simp only [denE]; done) | (simp only [denE]; rfl)) (tB_ext (dt_chain h.1.1.1.1.1 h.1.1.1.1.2 k.hr.units (sE k a _ hc.1 h.1.1.1.2).1 (sE k b _ hc.2.1 h.1.1.2).1 (sE k c _ hc.2.2 h.1.2).1 h.2) fun _ _ => by first | (simp only [denT]; done) | (simp only [denT]; rfl)) rfl
    · cases h
  | .not a, x, hc, h => by
    have h0 := h
    simp only [chkE] at h
    split at h
    · exact Snd.test (tE_ext (de_not (sE k a _ hc h).1) fun _ _ => by first | (simp only [denE]; done) | (simp only [denE]; rfl)) (tB_ext (dt_not (sE k a _ hc h).2.1) fun _ _ => by first | (simp only [denT]; done) | (simp only [denT]; rfl)) rfl
    · cases h
  | .and a b, x, hc, h => by
    have h0 := h
    simp only [chkE] at h
    split at h
    · simp only [Bool.and_eq_true] at h
      obtain ⟨h1, h2⟩ := h
      split at h2
      · exact Snd.pw (tE_ext (de_and (sE k a _ hc.1 h1).1 (pe_one (sE k b _ hc.2 h2).1)) fun _ _ => by first | (simp only [denE]; done) | (simp only [denE]; rfl)) (tW_ext (dt_and (sE k a _ hc.1 h1).2.1 (pw_and1 (sE k b _ hc.2 h2).2.1)) fun _ _ => by first | (simp only [denT]; done) | (simp only [denT]; rfl))
      · exact Snd.pw (tE_ext (de_and (sE k a _ hc.1 h1).1 (sE k b _ hc.2 h2).1) fun _ _ => by first | (simp only [denE]; done) | (simp only [denE]; rfl)) (tW_ext (dt_and (sE k a _ hc.1 h1).2.1 ((sE k b _ hc.2 h2).2.2 ⟨_, _, _, rfl⟩)) fun _ _ => by first | (simp only [denT]; done) | (simp only [denT]; rfl))
    · cases h
  | .or a b, x, hc, h => by
    have h0 := h
    simp only [chkE] at h
    split at h
    · simp only [Bool.and_eq_true] at h
      obtain ⟨h1, h2⟩ := h
      split at h2
      · exact Snd.pw (tE_ext (de_or (sE k a _ hc.1 h1).1 (pe_one (sE k b _ hc.2 h2).1)) fun _ _ => by first | (simp only [denE]; done) | (simp only [denE]; rfl)) (tW_ext (dt_or (sE k a _ hc.1 h1).2.1 (pw_or1 (sE k b _ hc.2 h2).2.1)) fun _ _ => by first | (simp only [denT]; done) | (simp only [denT]; rfl))
      · exact Snd.pw (tE_ext (de_or (sE k a _ hc.1 h1).1 (sE k b _ hc.2 h2).1) fun _ _ => by first | (simp only [denE]; done) | (simp only [denE]; rfl)) (tW_ext (dt_or (sE k a _ hc.1 h1).2.1 ((sE k b _ hc.2 h2).2.2 ⟨_, _, _, rfl⟩)) fun _ _ => by first | (simp only [denT]; done) | (simp only [denT]; rfl))
    · cases h
  | .ite c a b, x, hc, h => by
    have h0 := h
    simp only [chkE] at h
    split at h
    · simp only [Bool.and_eq_true] at h
      exact Snd.no (tE_ext (de_ite (sE k c _ hc.1 h.1.1).2.1 (sE k a _ hc.2.1 h.1.2).1 (sE k b _ hc.2.2 h.2).1) fun _ _ => by first | (simp only [denE]; done) | (simp only [denE]; rfl)) fun _ _ => by first | (simp only [denT]; done) | (simp only [denT]; rfl)
    · cases h
  | .idx a i, x, hc, h => by
    have h0 := h
    simp only [chkE] at h
    split at h
    · simp only [Bool.and_eq_true] at h
      exact Snd.tru (tE_ext (de_idx (sE k a _ hc.1 h.1.2).1 (sE k i _ hc.2 h.2).1 h.1.1) fun _ _ => by first | (simp only [denE]; done) | (simp only [denE]; rfl)) (plain_of h0 rfl) fun _ _ => by first | (simp only [denT, denE]; done) | (simp only [denT, denE]; rfl)
    · cases h
  | .slc a lo hi, x, hc, h => by
    have h0 := h
    simp only [chkE] at h
    split at h
    · simp only [Bool.and_eq_true] at h
      exact Snd.no (tE_ext (de_slc (sE k a _ hc.1 h.1.1).1 (sO k lo _ hc.2.1 h.1.2) (sO k hi _ hc.2.2 h.2)) fun _ _ => by first | (simp only [denE]; done) | (simp only [denE]; rfl)) fun _ _ => by first | (simp only [denT]; done) | (simp only [denT]; rfl)
    · cases h
  | .call f F es, x, hc, h => by
    have h0 := h
    simp only [chkE] at h
    split at h
    · simp only [Bool.and_eq_true, decide_eq_true_eq, Bool.not_eq_true'] at h
      obtain ⟨⟨⟨⟨rfl, h2⟩, h3⟩, h4⟩, h5⟩ := h
      have e := empty_of h3
      subst e
      exact Snd.tru (tE_ext (de_call k.hr (k.glob h2) hc.1 (sEs k es _ hc.2 h5) (chkEs_len h5).2 (by intro z; rw [z] at h4; cases h4)) fun _ _ => by first | (simp only [denE]; done) | (simp only [denE]; rfl)) (plain_of h0 rfl) fun _ _ => by first | (simp only [denT, denE]; done) | (simp only [denT, denE]; rfl)
    · cases h
  | .callK f F ks perm es kes, x, hc, h => by
    have h0 := h
    simp only [chkE] at h
    split at h
    · simp only [Bool.and_eq_true, decide_eq_true_eq] at h
      obtain ⟨⟨⟨⟨rfl, h2⟩, h3⟩, h4⟩, h5⟩ := h
      obtain ⟨l1, l2⟩ := chkEs_len h3
      obtain ⟨l3, _⟩ := chkEs_len h5
      have hG := hc.1
      rw [l1] at hG
      refine Snd.tru (tE_ext (de_callK k.hr (k.glob h2) hG (sEs k es _ hc.2.1 h3) (sKs k kes _ hc.2.2 h5) l2 h4 (fun z env st => ?_) (fun env st xs st' e => by rw [denEs_len e, l1]) fun env st xs st' e => by rw [denEs_len e, l3, List.length_map]) fun _ _ => by first | (simp only [denE]; done) | (simp only [denE]; rfl)) (plain_of h0 rfl) fun _ _ => by first | (simp only [denT, denE]; done) | (simp only [denT, denE]; rfl)
      cases es with
      | nil => simp only [denEs]
      | cons _ _ => rw [z] at l1; cases l1
    · cases h
  | .bl f es, x, hc, h => by
    have h0 := h
    simp only [chkE] at h
    split at h
    · simp only [Bool.and_eq_true, decide_eq_true_eq, Bool.not_eq_true'] at h
      obtain ⟨⟨⟨⟨⟨rfl, h2⟩, h3⟩, h6⟩, h4⟩, h5⟩ := h
      have e := empty_of h3
      subst e
      have hs := (chkEs_len h5).2
      have hne : ∀ {l : List Expr}, l.isEmpty = false → l ≠ [] := fun {l} q z => by rw [z] at q; cases q
      have ha := sEs k es _ hc h5
      obtain ⟨b1, b2, b3, b4, b5, _⟩ := boots
      cases f <;> first | (cases h6; done) | skip
      · exact Snd.tru (tE_ext (de_blB bl_len b1 (k.b (by decide)) (by decide) (k.glob h2) ha hs (hne h4)) fun _ _ => by first | (simp only [denE]; done) | (simp only [denE]; rfl)) (plain_of h0 rfl) fun _ _ => by first | (simp only [denT, denE]; done) | (simp only [denT, denE]; rfl)
      · exact Snd.tru (tE_ext (de_blB bl_abs b2 (k.b (by decide)) (by decide) (k.glob h2) ha hs (hne h4)) fun _ _ => by first | (simp only [denE]; done) | (simp only [denE]; rfl)) (plain_of h0 rfl) fun _ _ => by first | (simp only [denT, denE]; done) | (simp only [denT, denE]; rfl)
      · exact Snd.tru (tE_ext (de_blT bl_int b3 (k.b (by decide)) (by decide) (k.glob h2) ha hs (hne h4)) fun _ _ => by first | (simp only [denE]; done) | (simp only [denE]; rfl)) (plain_of h0 rfl) fun _ _ => by first | (simp only [denT, denE]; done) | (simp only [denT, denE]; rfl)
      · exact Snd.tru (tE_ext (de_blT bl_tuple b4 (k.b (by decide)) (by decide) (k.glob h2) ha hs (hne h4)) fun _ _ => by first | (simp only [denE]; done) | (simp only [denE]; rfl)) (plain_of h0 rfl) fun _ _ => by first | (simp only [denT, denE]; done) | (simp only [denT, denE]; rfl)
      · exact Snd.tru (tE_ext (de_blT bl_list b5 (k.b (by decide)) (by decide) (k.glob h2) ha hs (hne h4)) fun _ _ => by first | (simp only [denE]; done) | (simp only [denE]; rfl)) (plain_of h0 rfl) fun _ _ => by first | (simp only [denT, denE]; done) | (simp only [denT, denE]; rfl)
    · cases h
  | .isi f a, x, hc, h => by
    have h0 := h
    simp only [chkE] at h
    split at h
    · simp only [Bool.and_eq_true, decide_eq_true_eq] at h
      obtain ⟨⟨⟨⟨⟨rfl, h2⟩, h3⟩, h4⟩, h5⟩, h6⟩ := h
      have e := empty_of h3
      subst e
      split at h4
      · rename_i T hT
        simp only [Bool.and_eq_true, decide_eq_true_eq] at h4
        obtain ⟨rfl, h7⟩ := h4
        refine Snd.tru (tE_ext (de_isi hT (k.b (by decide)) (k.b ?_) (k.glob h2) (k.glob h7) (sE k a _ hc h6).1 h5) fun _ _ => by first | (simp only [denE]; done) | (simp only [denE]; rfl)) (plain_of h0 rfl) fun _ _ => by first | (simp only [denT, denE]; done) | (simp only [denT, denE]; rfl)
        cases f <;> cases hT <;> decide
      · cases h4
    · cases h
  | .meth m o es, x, hc, h => by
    have h0 := h
    simp only [chkE] at h
    split at h
    · simp only [Bool.and_eq_true, decide_eq_true_eq] at h
      obtain ⟨⟨⟨⟨⟨⟨⟨rfl, h2⟩, h3⟩, h4⟩, h5⟩, h6⟩, h7⟩, h8⟩ := h
      have e := empty_of h2
      subst e
      obtain ⟨l1, hs⟩ := chkEs_len h7
      have ho := (sE k o _ hc.1 h6).1
      have ha := sEs k es _ hc.2 h7
      have hms : ∀ {l : List Expr}, l.isEmpty = true → chkEs N sc g es l = true → ∀ env st, denEs es env st = some ([], st) := fun {l} z q env st => by
        have z' := empty_of z
        subst z'
        cases es with
        | nil => simp only [denEs]
        | cons _ _ => simp [chkEs] at q
      cases m with
      | append =>
        exact Snd.no (tE_ext (de_mt PySem.F.slot_list_append PySem.F.type_list_append mt_rel_append ho ha h3 h4 hs h5 (by simpa using h8)) fun _ _ => by first | (simp only [denE]; done) | (simp only [denE]; rfl)) fun _ _ => by first | (simp only [denT]; done) | (simp only [denT]; rfl)
      | pop =>
        have e2 := empty_of h8
        subst e2
        exact Snd.no (tE_ext (de_mt0 PySem.F.slot_list_pop PySem.F.type_list_pop mt_rel_pop ho (hms rfl h7) h3 h4) fun _ _ => by first | (simp only [denE]; done) | (simp only [denE]; rfl)) fun _ _ => by first | (simp only [denT]; done) | (simp only [denT]; rfl)
      | popAt => cases h8
      | reverse =>
        have e2 := empty_of h8
        subst e2
        exact Snd.no (tE_ext (de_mt0 PySem.F.slot_list_reverse PySem.F.type_list_reverse mt_rel_reverse ho (hms rfl h7) h3 h4) fun _ _ => by first | (simp only [denE]; done) | (simp only [denE]; rfl)) fun _ _ => by first | (simp only [denT]; done) | (simp only [denT]; rfl)
    · cases h
  | .lc elt t s test own, x, hc, h => by
    have h0 := h
    simp only [chkE] at h
    split at h
    · rename_i scope _
      simp only [Bool.and_eq_true] at h
      obtain ⟨⟨⟨⟨⟨⟨h1, h2⟩, h3⟩, h4⟩, h5⟩, h6⟩, h7⟩ := h
      have ok3 : BlkOk X.N X.env.scope scope (ownP N own) := by rw [k.ok.eN, k.ok.eS]; exact blkOk_by h3
      refine Snd.no (tE_ext ((pe_lc (own := ownP N own) (wi := tW X.K Tb (denSrc s)) (g := tTg X.K t) (tt := tB X.K Tb fun env st => denTs test env st) (te := tE X.K Tb (denE elt)) k.ok.calm (by rw [k.ok.eN]; exact k.ok.nd) (sSrc k s _ _ hc.2.1 h1) ok3 (fun s' H C cl fp => dg (k.blk s' H scope C cl fp).ok t _ h4) (fun s' H C cl fp => sI (k.blk s' H scope C cl fp) test _ hc.2.2 h6) (fun s' H C cl fp => (sE (k.blk s' H scope C cl fp) elt _ hc.1 h7).1) fun _ => set_ok h2).imp fun σ H Q q => ?_) fun _ _ => by first | (simp only [denE]; done) | (simp only [denE]; rfl)) fun _ _ => by first | (simp only [denT]; done) | (simp only [denT]; rfl)
      rw [ownP_map]
      exact lc_read (own_of h5) q
    · cases h
  | .gen kk elt t s test own, x, hc, h => by
    have h0 := h
    simp only [chkE] at h
    split at h
    · simp only [Bool.and_eq_true, decide_eq_true_eq] at h
      obtain ⟨⟨⟨⟨⟨⟨⟨⟨⟨⟨⟨⟨hgt, rfl⟩, h1⟩, h2⟩, h12⟩, h3⟩, h4⟩, h5⟩, h6⟩, h7⟩, h8⟩, h9⟩, h10⟩ := h
      have e := empty_of h2
      subst e
      subst hgt
      obtain ⟨g1, g2, g3, g4⟩ := genC_of h6
      have hG : GenH X Tb lv _ _ _ _ _ t own (denSrc s) (fun env1 st2 => denTs test env1 st2) (fun env1 st2 => denE elt env1 st2) :=
        ⟨k.hg rfl, (by obtain ⟨c, P, q1, q2, q3⟩ := k.ok.tabs rfl; exact ⟨c, P, q1, q2, q3⟩), by rw [k.ok.eN]; exact k.ok.nd, by rw [k.ok.eN, k.ok.eS]; exact g1, g2, g4, g3, own_of h8, sSrc k s _ _ hc.2.1 h3, fold_ok h4 h5,
          fun s' H cenv A fp hs hr => dg (k.gn hs hr).ok t _ h7, fun s' H cenv A fp hs hr => sI (k.gn hs hr) test _ hc.2.2 h9, fun s' H cenv A fp hs hr => (sE (k.gn hs hr) elt _ hc.1 h10).1⟩
      cases kk with
      | tuple => exact Snd.no (tE_ext (de_genT hG (k.glob h1) (k.b (by decide))) fun _ _ => by first | (simp only [denE]; done) | (simp only [denE]; rfl)) fun env st => by simp only [denT]; cases denSrc s env st <;> rfl
      | all =>
        refine Snd.tru (tE_ext (de_genQ (b := false) hG (k.glob h1) (k.b (by decide))) fun _ _ => by first | (simp only [denE]; done) | (simp only [denE]; rfl)) rfl fun env st => ?_
        simp only [denT, denE]
        cases denSrc s env st with
        | none => rfl
        | some p => exact (asTr_toBl _).symm
      | any =>
        refine Snd.tru (tE_ext (de_genQ (b := true) hG (k.glob h1) (k.b (by decide))) fun _ _ => by first | (simp only [denE]; done) | (simp only [denE]; rfl)) rfl fun env st => ?_
        simp only [denT, denE]
        cases denSrc s env st with
        | none => rfl
        | some p => exact (asTr_toBl _).symm
      | sum => cases h12
    · cases h
theorem sEs {X : Cx} {Tb : List Addr} {N : List Str} {sc : Scope} {top g : Bool} {lv : Nat} (k : SOk X Tb N sc top g lv) : ∀ (es : Es) (xs : List Expr), calEs (fxOf X Tb lv) es → chkEs N sc g es xs = true → PA X xs (tEs X.K Tb (denEs es))
  | .nil, xs, hc, h => by
    have hd : denEs .nil = fun _ st => some ([], st) := funext fun _ => funext fun _ => by first | (simp only [denEs]; done) | (simp only [denEs]; rfl)
    simp only [chkEs] at h
    have e := empty_of h
    subst e
    rw [hd]
    exact da_nil
  | .cons e es, xs, hc, h => by
    have hd : denEs (.cons e es) = fun env st => bnd (denE e env st) fun x st1 => bnd (denEs es env st1) fun xs st2 => some (x :: xs, st2) := funext fun _ => funext fun _ => by first | (simp only [denEs]; done) | (simp only [denEs]; rfl)
    simp only [chkEs] at h
    split at h
    · simp only [Bool.and_eq_true] at h
      rw [hd]
      exact da_cons (sE k e _ hc.1 h.1.2).1 (sEs k es _ hc.2 h.2) h.1.1
    · cases h
theorem sKs {X : Cx} {Tb : List Addr} {N : List Str} {sc : Scope} {top g : Bool} {lv : Nat} (k : SOk X Tb N sc top g lv) : ∀ (es : Es) (kws : List Keyword), calEs (fxOf X Tb lv) es → chkEs N sc g es (kws.map (·.value)) = true → PK X kws (tEs X.K Tb (denEs es))
  | .nil, kws, hc, h => by
    have hd : denEs .nil = fun _ st => some ([], st) := funext fun _ => funext fun _ => by first | (simp only [denEs]; done) | (simp only [denEs]; rfl)
    simp only [chkEs, List.isEmpty_map] at h
    have e := empty_of h
    subst e
    rw [hd]
    exact dk_nil
  | .cons e es, kws, hc, h => by
    have hd : denEs (.cons e es) = fun env st => bnd (denE e env st) fun x st1 => bnd (denEs es env st1) fun xs st2 => some (x :: xs, st2) := funext fun _ => funext fun _ => by first | (simp only [denEs]; done) | (simp only [denEs]; rfl)
    cases kws with
    | nil => simp [chkEs] at h
    | cons kw kws =>
      obtain ⟨nm, v, kp⟩ := kw
      simp only [chkEs, List.map_cons, Bool.and_eq_true] at h
      rw [hd]
      exact dk_cons (sE k e _ hc.1 h.1.2).1 (sKs k es kws hc.2 h.2)
theorem sO {X : Cx} {Tb : List Addr} {N : List Str} {sc : Scope} {top g : Bool} {lv : Nat} (k : SOk X Tb N sc top g lv) : ∀ (o : Oe) (x : Option Expr), calO (fxOf X Tb lv) o → chkO N sc g o x = true → PO X x (tOI X.K Tb (denO o))
  | .none, x, hc, h => by
    have hd : denO .none = fun _ st => some (none, st) := funext fun _ => funext fun _ => by first | (simp only [denO]; done) | (simp only [denO]; rfl)
    simp only [chkO, Option.isNone_iff_eq_none] at h
    subst h
    rw [hd]
    exact do_none
  | .some e, x, hc, h => by
    have hd : denO (.some e) = fun env st => bnd (denE e env st) fun x st1 => match x with
      | .int i => some (some i, st1)
      | _ => none := funext fun _ => funext fun _ => by first | (simp only [denO]; done) | (simp only [denO]; rfl)
    simp only [chkO] at h
    split at h
    · rw [hd]
      exact do_some (sE k e _ hc h).1
    · cases h
theorem sI {X : Cx} {Tb : List Addr} {N : List Str} {sc : Scope} {top g : Bool} {lv : Nat} (k : SOk X Tb N sc top g lv) : ∀ (o : Oe) (xs : List Expr), calO (fxOf X Tb lv) o → chkI N sc g o xs = true → PTs X xs (tB X.K Tb fun env st => denTs o env st)
  | .none, xs, hc, h => by
    simp only [chkI] at h
    have e := empty_of h
    subst e
    refine ⟨fun pins s σ H Q I q => pts_nil.run pins s σ H Q I ?_⟩
    obtain ⟨μ, env, st, c, st', sr, tb, er, ee, kk⟩ := q
    simp only [denTs] at ee
    cases ee
    exact kk μ H true (.refl tb) sr rfl
  | .some e, xs, hc, h => by
    simp only [chkI] at h
    split at h
    · have hd : (fun env st => denTs (.some e) env st) = denT e := funext fun _ => funext fun _ => by first | (simp only [denTs]; done) | (simp only [denTs]; rfl)
      rw [hd]
      exact pts_one (sE k e _ hc h).2.1
    · cases h
theorem sSrc {X : Cx} {Tb : List Addr} {N : List Str} {sc : Scope} {top g : Bool} {lv : Nat} (k : SOk X Tb N sc top g lv) : ∀ (s : Src) (tg x : Expr), calSrc (fxOf X Tb lv) s → chkSrc N sc g tg s x = true → PI X tg x (tW X.K Tb (denSrc s))
  | .seq e, tg, x, hc, h => by
    have hd : denSrc (.seq e) = fun env st => bnd (denE e env st) fun x st1 => match walkOf st1 x with
      | some w => some (w, st1)
      | none => none := funext fun _ => funext fun _ => by first | (simp only [denSrc]; done) | (simp only [denSrc]; rfl)
    rw [hd]
    simp only [chkSrc] at h
    exact dw_seq (sE k e _ hc h).1
  | .rng es, tg, x, hc, h => by
    have hd : denSrc (.rng es) = fun env st => bnd (denEs es env st) fun xs st1 => match rngOf xs with
      | some w => some (w, st1)
      | none => none := funext fun _ => funext fun _ => by first | (simp only [denSrc]; done) | (simp only [denSrc]; rfl)
    rw [hd]
    simp only [chkSrc] at h
    split at h
    · simp only [Bool.and_eq_true, decide_eq_true_eq, Bool.or_eq_true, beq_iff_eq] at h
      obtain ⟨⟨⟨⟨rfl, h2⟩, h3⟩, h4⟩, h5⟩ := h
      have e := empty_of h3
      subst e
      obtain ⟨l1, l2⟩ := chkEs_len h5
      exact dw_rng (k.glob h2) (k.b (by decide)) (sEs k es _ hc h5) l2 h4 fun env st xs st' e => by rw [denEs_len e, l1]
    · cases h
  | .enm e, tg, x, hc, h => by
    have hd : denSrc (.enm e) = fun env st => bnd (denE e env st) fun x st1 => if isT x = true then none else match walkOf st1 x with
      | some w => some (⟨enumFrom 0 w.items, w.still⟩, st1)
      | none => none := funext fun _ => funext fun _ => by first | (simp only [denSrc]; done) | (simp only [denSrc]; rfl)
    rw [hd]
    simp only [chkSrc] at h
    split at h
    · simp only [Bool.and_eq_true, decide_eq_true_eq] at h
      obtain ⟨⟨⟨⟨⟨rfl, h2⟩, h3⟩, h4⟩, h5⟩, h6⟩ := h
      have e := empty_of h3
      subst e
      cases tg <;> first | (cases h4; done) | exact dw_enm (k.glob h2) (k.b (by decide)) (sE k _ _ hc h6).1 h5
    · cases h
  | .zip a b, tg, x, hc, h => by
    have hd : denSrc (.zip a b) = fun env st => bnd (denE a env st) fun x st1 => bnd (denE b env st1) fun y st2 => if isT x ≠ isT y then none else match walkOf st2 x, walkOf st2 y with
      | some w, some u => some (⟨zipD w.items u.items, w.still ++ u.still⟩, st2)
      | _, _ => none := funext fun _ => funext fun _ => by first | (simp only [denSrc]; done) | (simp only [denSrc]; rfl)
    rw [hd]
    simp only [chkSrc] at h
    split at h
    · simp only [Bool.and_eq_true, decide_eq_true_eq] at h
      obtain ⟨⟨⟨⟨⟨⟨⟨rfl, h2⟩, h3⟩, h4⟩, h5⟩, h6⟩, h7⟩, h8⟩ := h
      have e := empty_of h3
      subst e
      cases tg <;> first | (cases h4; done) | exact dw_zip (k.glob h2) (k.b (by decide)) (sE k a _ hc.1 h7).1 (sE k b _ hc.2 h8).1 h5 h6
    · cases h
end
end Calc
end
section
set_option Elab.async false
set_option linter.all false
set_option maxRecDepth 100000
set_option autoImplicit false
set_option maxHeartbeats 4000000
/-! soundness of statements -/
namespace Calc
open PySem PySem.Spec PyProof.Rows L2

mutual
def calS (f : Fx) : S → Prop
  | .ex e => calE f e
  | .set _ e => calE f e
  | .par _ _ a b => calE f a ∧ calE f b
  | .unp _ e => calE f e
  | .sub o i e => calE f o ∧ calE f i ∧ calE f e
  | .aug _ _ e => calE f e
  | .ret e => calE f e
  | .ite c a b => calE f c ∧ calSs f a ∧ calSs f b
  | .whl c b => calE f c ∧ calSs f b
  | .for_ _ s b => calSrc f s ∧ calSs f b
  | _ => True
def calSs (f : Fx) : Ss → Prop
  | .nil => True
  | .cons s ss => calS f s ∧ calSs f ss
end
def isComp : Expr → Bool | .ListComp _ _ _ _ => true | _ => false
mutual
def chkS (N : List Str) (sc : Scope) (top g : Bool) : S → Stmt → Bool
  | .ex e, x => (match x with
    | .Expr y _ => notComp y && chkE N sc g e y
    | _ => false)
  | .set i e, x => (match x with
    | .Assign [.Name y _] v _ => decide (N[i]? = some y) && isLoc sc top y && (notComp v || isComp v) && chkE N sc g e v
    | _ => false)
  | .par i j a b, x => (match x with
    | .Assign [.Tuple [.Name y px, .Name z py] _ _] (.Tuple [e1, e2] _ _) _ => decide (N[i]? = some y) && decide (N[j]? = some z) && decide (sc.names.lookup y = some .local) && decide (sc.names.lookup z = some .local) && (match sc.kind with | .function => true | _ => false) && (py.line == px.line) && decide (y ≠ z) &&
        notStar e1 && notStar e2 && !([e1, e2].all (foldedForSure 8)) && !([e1, e2].all (constantsAlone 8)) && chkE N sc g a e1 && chkE N sc g b e2
    | _ => false)
  | .unp t e, x => (match x with
    | .Assign [tg] v _ => chkT N sc top t tg && notStar tg && notComp v && notTup v && chkE N sc g e v
    | _ => false)
  | .sub o i e, x => (match x with
    | .Assign [.Subscript y z _] v _ => notComp v && notSlice z && chkE N sc g o y && chkE N sc g i z && chkE N sc g e v
    | _ => false)
  | .aug i op e, x => (match x with
    | .AugAssign (.Name y _) o v _ => oprC op o && (match op with | .add => true | .sub => true | .mul => true | _ => false) && decide (N[i]? = some y) && isLoc sc top y && chkE N sc g e v
    | _ => false)
  | .ret e, x => (match x with
    | .Return (some v) _ => chkE N sc g e v
    | _ => false)
  | .ret0, x => (match x with
    | .Return none _ => true
    | _ => false)
  | .brk, x => (match x with
    | .Break _ => true
    | _ => false)
  | .cnt, x => (match x with
    | .Continue _ => true
    | _ => false)
  | .pass, x => (match x with
    | .Pass _ => true
    | _ => false)
  | .ite c a b, x => (match x with
    | .If t y z _ => chkE N sc g c t && chkSs N sc top g a y && chkSs N sc top g b z
    | _ => false)
  | .whl c b, x => (match x with
    | .While t y [] _ => chkE N sc g c t && chkSs N sc top g b y
    | _ => false)
  | .for_ t s b, x => (match x with
    | .For tg it y [] _ => notSet it && chkT N sc top t tg && chkSrc N sc g tg s it && chkSs N sc top g b y
    | _ => false)
  | .never, _ => true
def chkSs (N : List Str) (sc : Scope) (top g : Bool) : Ss → List Stmt → Bool
  | .nil, xs => xs.isEmpty
  | .cons s ss, xs => (match xs with
    | x :: xs => chkS N sc top g s x && chkSs N sc top g ss xs
    | [] => false)
end

theorem tS_ext {X : Cx} {Tb : List Addr} {e : Stmt} {m m' : Env → Store → R} (h : PS X e (tSt X.K Tb m)) (w : ∀ env st, m' env st = m env st) : PS X e (tSt X.K Tb m') := by
  have e1 : m' = m := funext fun env => funext fun st => w env st
  rw [e1]; exact h
theorem tSs_ext {X : Cx} {Tb : List Addr} {e : List Stmt} {m m' : Env → Store → R} (h : PSs X e (tSt X.K Tb m)) (w : ∀ env st, m' env st = m env st) : PSs X e (tSt X.K Tb m') := by
  have e1 : m' = m := funext fun env => funext fun st => w env st
  rw [e1]; exact h
/-- name = e of any form -/
theorem s_set {X : Cx} {Tb : List Addr} {N : List Str} {sc : Scope} {top g : Bool} {lv : Nat} (k : SOk X Tb N sc top g lv) {i : Nat} {e : E} {y : Str} {p pos : Pos} {v : Expr} (hc : calE (fxOf X Tb lv) e) (h1 : N[i]? = some y) (h2 : isLoc sc top y = true) (h3 : (notComp v || isComp v) = true) (h : chkE N sc g e v = true) :
    PS X (.Assign [.Name y p] v pos) (tSt X.K Tb fun env st => bnd (denE e env st) fun x st1 => if i < env.length then some (.next, env.set i (some x), st1) else none) := by
  by_cases hv : notComp v = true
  · exact ds_set k.ok h1 h2 (sE k e v hc h).1 (swap_ok hv)
  · have hv' : isComp v = true := by
      rcases Bool.or_eq_true_iff.mp h3 with z | z
      · exact absurd z hv
      · exact z
    cases v <;> first | (cases hv'; done) | skip
    rename_i elt gs scope p2
    have sw := swap_comp (elt := elt) (gs := gs) (scope := scope) (p := p2) (py := p) (y := y) (l := pos.line) (env := X.env)
    cases hb : (X.env.blockKind == .function && X.env.kindOf y == some .local && p.line == p2.line && !(scope.names.any fun (n, k) => n == y && (k == .local || k == .cell))) with
    | false =>
      rw [hb] at sw
      exact ds_set k.ok h1 h2 (sE k e _ hc h).1 sw
    | true =>
      rw [hb] at sw
      simp only [Bool.and_eq_true, beq_iff_eq] at hb
      have hyl : X.env.scope.names.lookup y = some .local := hb.1.1.2
      cases e <;> first | (simp [chkE] at h; done) | skip
      rename_i ee t s test own
      simp only [chkE] at h
      split at h
      · rename_i heq
        cases heq
        simp only [Bool.and_eq_true] at h
        obtain ⟨⟨⟨⟨⟨⟨q1, q2⟩, q3⟩, q4⟩, q5⟩, q6⟩, q7⟩ := h
        have ok3 : BlkOk X.N X.env.scope scope (ownP N own) := by rw [k.ok.eN, k.ok.eS]; exact blkOk_by q3
        refine (ps_setLc (i := i) (own := ownP N own) (wi := tW X.K Tb (denSrc s)) (g := tTg X.K t) (tt := tB X.K Tb fun env st => denTs test env st) (te := tE X.K Tb (denE ee)) k.ok.calm (by rw [k.ok.eN]; exact k.ok.nd) (by rw [k.ok.eN]; exact h1) hyl sw (sSrc k s _ _ hc.2.1 q1) ok3 (fun s' H C cl fp => dg (k.blk s' H scope C cl fp).ok t _ q4) (fun s' H C cl fp => sI (k.blk s' H scope C cl fp) test _ hc.2.2 q6) (fun s' H C cl fp => (sE (k.blk s' H scope C cl fp) ee _ hc.1 q7).1) fun _ => set_ok q2).imp fun E σ H q => ?_
        rw [ownP_map]
        have q' := set_read q
        refine lc_read (own_of q5) ?_
        have hd : denE (.lc ee t s test own) = fun env st => bnd (denSrc s env st) fun w st1 => bnd (compW w.ok t (Calc.wipe env own) (fun env1 st2 => denTs test env1 st2) (fun env1 st2 => denE ee env1 st2) w.items [] st1) fun xs st3 => some (.loc st3.length, st3 ++ [.lst xs]) := funext fun _ => funext fun _ => by simp only [denE]
        rw [hd] at q'
        exact q'
      · cases h
mutual
theorem sS {X : Cx} {Tb : List Addr} {N : List Str} {sc : Scope} {top g : Bool} {lv : Nat} (k : SOk X Tb N sc top g lv) (hx : X.xe = fun _ _ => False) : ∀ (s : S) (x : Stmt), calS (fxOf X Tb lv) s → chkS N sc top g s x = true → PS X x (tSt X.K Tb (denS s))
  | .ex e, x, hc, h => by
    simp only [chkS] at h
    split at h
    · simp only [Bool.and_eq_true] at h
      exact tS_ext (ds_ex (sE k e _ hc h.2).1 h.1) fun _ _ => by simp only [denS]
    · cases h
  | .set i e, x, hc, h => by
    simp only [chkS] at h
    split at h
    · simp only [Bool.and_eq_true, decide_eq_true_eq] at h
      exact tS_ext (s_set k hc h.1.1.1 h.1.1.2 h.1.2 h.2) fun _ _ => by simp only [denS]
    · cases h
  | .par i j a b, x, hc, h => by
    simp only [chkS] at h
    split at h
    · simp only [Bool.and_eq_true, decide_eq_true_eq, Bool.not_eq_true'] at h
      obtain ⟨⟨⟨⟨⟨⟨⟨⟨⟨⟨⟨⟨q1, q2⟩, q3⟩, q4⟩, q5⟩, q6⟩, q7⟩, q8⟩, q9⟩, q10⟩, q11⟩, q12⟩, q13⟩ := h
      have hk : sc.kind = .function := by
        split at q5
        · assumption
        · cases q5
      exact tS_ext (ds_par k.ok q1 q2 q3 q4 hk q6 q7 (sE k a _ hc.1 q12).1 (sE k b _ hc.2 q13).1 q8 q9 q10 q11) fun _ _ => by simp only [denS]
    · cases h
  | .unp t e, x, hc, h => by
    simp only [chkS] at h
    split at h
    · simp only [Bool.and_eq_true] at h
      obtain ⟨⟨⟨⟨q1, q2⟩, q3⟩, q4⟩, q5⟩ := h
      exact tS_ext (ds_unp k.ok q1 q2 (sE k e _ hc q5).1 q3 q4) fun _ _ => by first | (simp only [denS]; done) | (simp only [denS]; rfl)
    · cases h
  | .sub o i e, x, hc, h => by
    simp only [chkS] at h
    split at h
    · simp only [Bool.and_eq_true] at h
      obtain ⟨⟨⟨⟨q1, q2⟩, q3⟩, q4⟩, q5⟩ := h
      exact tS_ext (ds_sub (sE k e _ hc.2.2 q5).1 (sE k o _ hc.1 q3).1 (sE k i _ hc.2.1 q4).1 q1 q2) fun _ _ => by first | (simp only [denS]; done) | (simp only [denS]; rfl)
    · cases h
  | .aug i op e, x, hc, h => by
    simp only [chkS] at h
    split at h
    · simp only [Bool.and_eq_true, decide_eq_true_eq] at h
      obtain ⟨⟨⟨⟨q1, q2⟩, q3⟩, q4⟩, q5⟩ := h
      have ho : op = .add ∨ op = .sub ∨ op = .mul := by
        split at q2
        · exact .inl rfl
        · exact .inr (.inl rfl)
        · exact .inr (.inr rfl)
        · cases q2
      exact tS_ext (ds_aug k.ok q1 ho q3 q4 (sE k e _ hc q5).1) fun _ _ => by first | (simp only [denS]; done) | (simp only [denS]; rfl)
    · cases h
  | .ret e, x, hc, h => by
    simp only [chkS] at h
    split at h
    · exact tS_ext (ds_ret (sE k e _ hc h).1) fun _ _ => by simp only [denS]
    · cases h
  | .ret0, x, hc, h => by
    simp only [chkS] at h
    split at h
    · exact tS_ext ds_ret0 fun _ _ => by simp only [denS]
    · cases h
  | .brk, x, hc, h => by
    simp only [chkS] at h
    split at h
    · exact tS_ext ds_brk fun _ _ => by simp only [denS]
    · cases h
  | .cnt, x, hc, h => by
    simp only [chkS] at h
    split at h
    · exact tS_ext ds_cnt fun _ _ => by simp only [denS]
    · cases h
  | .pass, x, hc, h => by
    simp only [chkS] at h
    split at h
    · exact tS_ext ds_pass fun _ _ => by simp only [denS]
    · cases h
  | .ite c a b, x, hc, h => by
    simp only [chkS] at h
    split at h
    · simp only [Bool.and_eq_true] at h
      exact tS_ext (ds_ite (sE k c _ hc.1 h.1.1).2.1 (sSs k hx a _ hc.2.1 h.1.2) (sSs k hx b _ hc.2.2 h.2)) fun _ _ => by simp only [denS]
    · cases h
  | .whl c b, x, hc, h => by
    simp only [chkS] at h
    split at h
    · simp only [Bool.and_eq_true] at h
      exact tS_ext (ds_whl hx (sE k c _ hc.1 h.1).2.1 (sSs k hx b _ hc.2 h.2)) fun _ _ => by simp only [denS]
    · cases h
  | .for_ t s b, x, hc, h => by
    simp only [chkS] at h
    split at h
    · simp only [Bool.and_eq_true] at h
      obtain ⟨⟨⟨q1, q2⟩, q3⟩, q4⟩ := h
      exact tS_ext (ds_for k.ok hx (sSrc k s _ _ hc.1 q3) q2 (sSs k hx b _ hc.2 q4) q1) fun _ _ => by simp only [denS]
    · cases h
  | .never, x, hc, h => tS_ext ds_never fun _ _ => by simp only [denS]
theorem sSs {X : Cx} {Tb : List Addr} {N : List Str} {sc : Scope} {top g : Bool} {lv : Nat} (k : SOk X Tb N sc top g lv) (hx : X.xe = fun _ _ => False) : ∀ (ss : Ss) (xs : List Stmt), calSs (fxOf X Tb lv) ss → chkSs N sc top g ss xs = true → PSs X xs (tSt X.K Tb (denSs ss))
  | .nil, xs, hc, h => by
    simp only [chkSs] at h
    have e := empty_of h
    subst e
    exact tSs_ext ds_nil fun _ _ => by simp only [denSs]
  | .cons s ss, xs, hc, h => by
    simp only [chkSs] at h
    split at h
    · simp only [Bool.and_eq_true] at h
      exact tSs_ext (ds_cons (sS k hx s _ hc.1 h.1) (sSs k hx ss _ hc.2 h.2)) fun _ _ => by first | (simp only [denSs]; done) | (simp only [denSs]; rfl)
    · cases h
end
end Calc
end
section
set_option Elab.async false
set_option linter.all false
set_option maxRecDepth 100000
set_option autoImplicit false
set_option maxHeartbeats 4000000
/-! defs, and the end of a law -/
namespace Calc
open PySem PySem.Spec PyProof.Rows L2

/-- a def's function object, its code at cdv -/
structure FunV (K : PySem.W.Frag) (x qual : Str) (st : Stmt) (f : Addr) (fd : FuncData) (cdv : Value) : Prop where
  ex : ∃ (oc : Value) (od : Option Addr) (kV doc pm : Value) (an : Option Addr) (ct : Value) (osl : Array (Option Value)),
    fd = PySem.W.fnOf x qual (defArgs st) (defBody st) (defScope st) .none kV doc pm an cdv ct ∧ K.lookup f = some ⟨oc, od, .func fd, osl⟩ ∧ PySem.W.codeIn K cdv qual = true
  kp : PySem.W.keepIn K (.ref f) = true
theorem funV {K : PySem.W.Frag} {x qual : Str} {st : Stmt} {f : Addr} {oc : Value} {od an : Option Addr} {osl : Array (Option Value)} {kV doc pm cdv ct : Value} (l : K.lookup f = some ⟨oc, od, .func (PySem.W.fnOf x qual (defArgs st) (defBody st) (defScope st) .none kV doc pm an cdv ct), osl⟩)
    (c : PySem.W.codeIn K cdv qual = true) (k : PySem.W.keepIn K (.ref f) = true) : FunV K x qual st f (PySem.W.fnOf x qual (defArgs st) (defBody st) (defScope st) .none kV doc pm an cdv ct) cdv := ⟨⟨oc, od, kV, doc, pm, an, ct, osl, rfl, l, c⟩, k⟩

section
variable (P : Program) (w : World) (K : PySem.W.Frag) (mg : Str → Option Value) (base : Heap) (Tb : List Addr) (lv : Nat)
def GFb (x : Str) (F : Fn) : Prop := ∃ f fd ps k, k ≤ lv ∧ mg x = some (.ref f) ∧ PySem.W.keepIn K (.ref f) = true ∧ Binds K fd ps [] ∧ (∀ as st r, F as st = some r → as.length = ps.length) ∧ FnOk P w K mg base CX0 k f fd ps (spF K Tb ps.length F)
def GKb (x : Str) (F : Fn) (n : Nat) (ks : List Str) (perm : List Nat) : Prop := ∃ f fd ps k, k ≤ lv ∧ mg x = some (.ref f) ∧ PySem.W.keepIn K (.ref f) = true ∧
  (∀ (s : Shared) (us ws : List Value), K.In s.heap → us.length = n → ws.length = ks.length → BindsTo s fd ⟨us, ks.zip ws⟩ (ps.zip (permut perm (us ++ ws)))) ∧ (∀ as st r, F as st = some r → as.length = ps.length) ∧
  FnOk P w K mg base CX0 k f fd ps (spF K Tb ps.length F)
def GVb (x : Str) (d : D) : Prop := ∃ u v, mg x = some u ∧ RelV v u ∧ ∀ μ H, RelD K μ H d v
def fxB : Fx := ⟨fun x F => GFb P w K mg base Tb lv x F, fun x F n ks perm => GKb P w K mg base Tb lv x F n ks perm, fun x d => GVb K mg x d⟩
end
theorem fx_eq (X : Cx) (Tb : List Addr) (lv : Nat) : fxOf X Tb lv = fxB X.prog X.w X.K X.mg X.base Tb lv := rfl

section
variable {P : Program} {w : World} {K : PySem.W.Frag} {mg : Str → Option Value} {base : Heap} {Tb : List Addr} {lv : Nat}
theorem env_start {μ : List Addr} {H : Hp} {as : List D} {vs : List V} {N : List Str} {n : Nat} (r : RelDs K μ H as vs) (hn : n = N.length - vs.length) : EnvR K μ H (as.map some ++ List.replicate n none) (L2.start N vs) := by
  subst hn
  refine ⟨?_, fun i d h => ?_⟩
  · unfold L2.start
    rw [List.length_append, List.length_append, List.length_map, List.length_map, r.length, List.length_replicate, List.length_replicate]
  · by_cases hi : i < as.length
    · rw [List.getElem?_append_left (by simpa using hi), List.getElem?_map] at h
      cases e : as[i]? with
      | none => rw [e] at h; cases h
      | some x =>
        rw [e] at h
        cases h
        obtain ⟨v, hv, rv⟩ := r.get e
        refine ⟨v, ?_, rv⟩
        unfold L2.start
        rw [List.getElem?_append_left (by rw [List.length_map, ← r.length]; exact hi), List.getElem?_map, hv]; rfl
    · rw [List.getElem?_append_right (by simpa using hi), List.getElem?_replicate] at h
      split at h <;> cases h
theorem denDef_len {d : Def} {as : List D} {st : Store} {r : D × Store} (h : denDef d as st = some r) : as.length = d.np := by
  unfold denDef at h
  split at h
  · assumption
  · cases h
/-- THE RULE for a def: its IR checked against its text -/
theorem fn_den {x qual : Str} {st : Stmt} {f : Addr} {fd : FuncData} {cdv : Value} {N ps : List Str} (F : FunV K x qual st f fd cdv) (d : Def) (g : Bool) (S : FnScope N ps (defScope st)) (hnp : d.np = ps.length) (hns : d.ns = N.length)
    (hchk : chkSs N (defScope st) true g d.body (defBody st) = true) (hB : ∀ b ∈ bNames, mg b = none) (htab : g = true → ∃ c T, cdv = .ref c ∧ GxR.TabB base mg c T ∧ T ∈ Tb) (hcal : calSs (fxB P w K mg base Tb lv) d.body) :
    FnOk P w K mg base CX0 (lv + 6) f fd ps (spF K Tb ps.length (denDef d)) := by
  obtain ⟨oc, od, kV, doc, pm, an, ct, osl, rfl, lk, hcd⟩ := F.ex
  refine fn_of lk hcd S (fun vs H Q E h => h.1) fun A outer s H vs Q E hr hsp => ?_
  obtain ⟨hl, μ, st0, as, d0, st', sr, tb, rds, hden, kk⟩ := hsp
  have sok : SOk (cxOf CX0 P w K mg base N qual (defScope st) f cdv A outer s H E).nox Tb N (defScope st) true g lv :=
    ⟨⟨rfl, rfl, S.nd, rfl, fun _ _ => rfl, fun hg => by
      obtain ⟨c, T, e1, e2, e3⟩ := htab hg
      exact ⟨c, T, e1, e2, e3⟩⟩, hr.mono (by omega), fun _ => hr, hB⟩
  refine ⟨_, (sSs sok rfl d.body (defBody st) hcal hchk).nox, ?_⟩
  unfold denDef at hden
  have hal : as.length = d.np := by rw [rds.length, hl, hnp]
  rw [if_pos hal] at hden
  have er : EnvR K μ H (as.map some ++ List.replicate (d.ns - d.np) none) (L2.start N vs) := env_start rds (by rw [hns, hnp, hl])
  cases hb : denSs d.body (as.map some ++ List.replicate (d.ns - d.np) none) st0 with
  | none => rw [hb] at hden; cases hden
  | some p =>
    obtain ⟨fl, env', st1⟩ := p
    rw [hb] at hden
    refine ⟨μ, _, st0, fl, env', st1, sr, tb, er, hb, ?_⟩
    cases fl with
    | next =>
      intro μ' H' σ' p' sr' er'
      have e : gc st0 .non st1 = (d0, st') := Option.some.inj hden
      obtain ⟨μ2, p2, s2, r2⟩ := gc_rel sr sr' p' .non e
      exact kk μ2 H' .non p2 s2 r2
    | brk => cases hden
    | cnt => cases hden
    | ret dd =>
      intro μ' H' v p' sr' rd
      have e : gc st0 dd st1 = (d0, st') := Option.some.inj hden
      obtain ⟨μ2, p2, s2, r2⟩ := gc_rel sr sr' p' rd e
      exact kk μ2 H' v p2 s2 r2
/-- a def that fails keeps every promise -/
theorem fn_none {f : Addr} {fd : FuncData} {ps : List Str} {k : Nat} : FnOk P w K mg base CX0 k f fd ps (spF K Tb ps.length fun _ _ => none) :=
  ⟨fun vs H Q E h => h.1, fun A outer s H args us vs Q E hr e0 hb r h => by
    obtain ⟨_, μ, st0, as, d0, st', sr, tb, rds, hden, kk⟩ := h
    cases hden⟩
theorem gfb {x : Str} {F : Fn} {f : Addr} {fd : FuncData} {ps : List Str} {k : Nat} (hk : k ≤ lv) (hm : mg x = some (.ref f)) (hkp : PySem.W.keepIn K (.ref f) = true) (hb : Binds K fd ps []) (hl : ∀ as st r, F as st = some r → as.length = ps.length)
    (FO : FnOk P w K mg base CX0 k f fd ps (spF K Tb ps.length F)) : GFb P w K mg base Tb lv x F := ⟨f, fd, ps, k, hk, hm, hkp, hb, hl, FO⟩
theorem GFb.mono {x : Str} {F : Fn} {lv' : Nat} (h : GFb P w K mg base Tb lv x F) (hl : lv ≤ lv') : GFb P w K mg base Tb lv' x F := by
  obtain ⟨f, fd, ps, k, h1, r⟩ := h
  exact ⟨f, fd, ps, k, Nat.le_trans h1 hl, r⟩
theorem GKb.mono {x : Str} {F : Fn} {n : Nat} {ks : List Str} {perm : List Nat} {lv' : Nat} (h : GKb P w K mg base Tb lv x F n ks perm) (hl : lv ≤ lv') : GKb P w K mg base Tb lv' x F n ks perm := by
  obtain ⟨f, fd, ps, k, h1, r⟩ := h
  exact ⟨f, fd, ps, k, Nat.le_trans h1 hl, r⟩
theorem FunV.binds {x qual : Str} {st : Stmt} {f : Addr} {fd : FuncData} {cdv : Value} {ps : List Str} (F : FunV K x qual st f fd cdv)
    (h : ∀ (kV doc pm : Value) (an : Option Addr) (cdv ct : Value) (us : List Value), us.length = ps.length → bindArgs (PySem.W.fnOf x qual (defArgs st) (defBody st) (defScope st) .none kV doc pm an cdv ct) ⟨us, []⟩ = pure (ps.zip us)) : Binds K fd ps [] := by
  obtain ⟨oc, od, kV, doc, pm, an, ct, osl, rfl, lk, hcd⟩ := F.ex
  exact .all (h kV doc pm an cdv ct)
/-- .. a def as it is called -/
theorem gf_den {x qual : Str} {st : Stmt} {f : Addr} {fd : FuncData} {cdv : Value} {N ps : List Str} {lv' : Nat} (F : FunV K x qual st f fd cdv) (hm : mg x = some (.ref f)) (hb : Binds K fd ps []) (d : Def) (g : Bool) (S : FnScope N ps (defScope st)) (hnp : d.np = ps.length) (hns : d.ns = N.length)
    (hchk : chkSs N (defScope st) true g d.body (defBody st) = true) (hB : ∀ b ∈ bNames, mg b = none) (htab : g = true → ∃ c T, cdv = .ref c ∧ GxR.TabB base mg c T ∧ T ∈ Tb) (hcal : calSs (fxB P w K mg base Tb lv) d.body) (hl : lv + 6 ≤ lv') :
    GFb P w K mg base Tb lv' x (denDef d) :=
  gfb hl hm F.kp hb (fun as st r h => by rw [denDef_len h, hnp]) (fn_den F d g S hnp hns hchk hB htab hcal)
theorem gk_den {x qual : Str} {st : Stmt} {f : Addr} {fd : FuncData} {cdv : Value} {N ps : List Str} {lv' n : Nat} {ks : List Str} {perm : List Nat} (F : FunV K x qual st f fd cdv) (hm : mg x = some (.ref f))
    (hb : ∀ (kV doc pm : Value) (an : Option Addr) (cdv ct : Value) (us ws : List Value), us.length = n → ws.length = ks.length → bindArgs (PySem.W.fnOf x qual (defArgs st) (defBody st) (defScope st) .none kV doc pm an cdv ct) ⟨us, ks.zip ws⟩ = pure (ps.zip (permut perm (us ++ ws)))) (d : Def) (g : Bool) (S : FnScope N ps (defScope st)) (hnp : d.np = ps.length) (hns : d.ns = N.length)
    (hchk : chkSs N (defScope st) true g d.body (defBody st) = true) (hB : ∀ b ∈ bNames, mg b = none) (htab : g = true → ∃ c T, cdv = .ref c ∧ GxR.TabB base mg c T ∧ T ∈ Tb) (hcal : calSs (fxB P w K mg base Tb lv) d.body) (hl : lv + 6 ≤ lv') :
    GKb P w K mg base Tb lv' x (denDef d) n ks perm := by
  refine ⟨f, fd, ps, lv + 6, hl, hm, F.kp, fun s us ws _ h1 h2 => ?_, fun as st r h => by rw [denDef_len h, hnp], fn_den F d g S hnp hns hchk hB htab hcal⟩
  obtain ⟨oc, od, kV, doc, pm, an, ct, osl, rfl, lk, hcd⟩ := F.ex
  exact .of_eq (hb kV doc pm an cdv ct us ws h1 h2)
end

/-! ### the end -/
theorem tabB_of {base : Heap} {mg : Str → Option Value} {c P : Addr} (h : LamX.TabB base mg c P) : GxR.TabB base mg c P := ⟨h.code, h.bm, h.gP⟩
/-- what the law's own text has to give: ns the script -/
def LawDen (F : Fn) (n : Nat) : Prop := ∀ ns : List Int, ns.length ≤ n → (∀ z ∈ ns, Builtin.Int.intBits z ≤ 1048576) → (∃ st', F [.rol (ns.map D.int)] [] = some (.bl true, st')) ∧ ∃ st', F [.loc 0] [.lst (ns.map D.int)] = some (.bl true, st')
theorem relInts {K : PySem.W.Frag} {μ : List Addr} {H : Hp} : ∀ ns : List Int, RelDs K μ H (ns.map D.int) (ns.map V.int)
  | [] => .nil
  | i :: r => .cons (.int i) (relInts r)
theorem law_sp {K : PySem.W.Frag} {Tb : List Addr} {F : Fn} {n : Nat} (L : LawDen F n) (H : Hp) (a : Addr) (ns : List Int) (hl : ns.length ≤ n) (hb : ∀ z ∈ ns, Builtin.Int.intBits z ≤ 1048576) (hT : ∀ T ∈ Tb, H T = some (.tbl #[])) (hS : SqL K H a (ns.map V.int)) :
    spF K Tb 1 F [.ref a] H (fun v _ => v = .bl true) fun _ _ _ => False := by
  obtain ⟨⟨st1, e1⟩, st2, e2⟩ := L ns hl hb
  have tb : TabsR Tb H := fun P hP => ⟨#[], hT P hP, by
    have : (#[] : Array Value).toList = [] := rfl
    rw [this]; trivial⟩
  refine ⟨rfl, ?_⟩
  rcases hS with (h | ⟨o, h⟩) | h
  · have sr : StR K [a] H [.lst (ns.map D.int)] := ⟨rfl, by simp, fun l c e => by
      cases l with
      | zero => cases e; exact ⟨a, _, rfl, h, _, rfl, relInts ns⟩
      | succ l => simp at e⟩
    exact ⟨[a], _, [.loc 0], .bl true, st2, sr, tb, .cons (.loc rfl) .nil, e2, fun μ' H' v p s r => by cases r; rfl⟩
  · exact ⟨[], _, [.rol (ns.map D.int)], .bl true, st1, ⟨rfl, by simp, fun l c e => by simp at e⟩, tb, .cons (.rol (.inl ⟨o, h⟩) (relInts ns)) .nil, e1, fun μ' H' v p s r => by cases r; rfl⟩
  · exact ⟨[], _, [.rol (ns.map D.int)], .bl true, st1, ⟨rfl, by simp, fun l c e => by simp at e⟩, tb, .cons (.rol (.inr h) (relInts ns)) .nil, e1, fun μ' H' v p s r => by cases r; rfl⟩

/-- the end of a law with tables of code objects -/
theorem walk_tabs {l : PySem.W.OpenLaw} {n k : Nat} {q : Program} {loose : List Str} {XP : (Str → Option Value) → Heap → Prop} {YP : World → Heap → Prop} {d : DefRec} {K : Params → PySem.W.Frag} {x : Str}
    (hn : l.most = some n) (hn2 : n ≤ sizeLine) (hdf : d.params.defaults = []) (hr : Room k callerA) (hY : ∀ (w : World) (h : Heap), YP w h → (K w.params).In h)
    (F : ∀ (w : World) (mg : Str → Option Value) (fa : Addr) (h : Heap), (K w.params).In h → h.Ns mainGlobals mg → mg d.name = some (.ref fa) →
      ∃ (fd : FuncData) (cs : List (Str × Addr × Addr)) (F : Fn), (∀ p ∈ cs, ∃ d', (recsOf q).find? (fun e => e.name == p.1) = some d' ∧ PySem.W.tabIn (K w.params) p.1 = some p.2 ∧ (K w.params).lookup p.2.2 = none) ∧ (∀ (s : Shared) (u : Value), BindsTo s fd ⟨[u], []⟩ [(x, u)]) ∧ LawDen F n ∧
        ∀ base : Heap, (K w.params).In base → base.Ns mainGlobals mg → (∀ p ∈ cs, GxR.TabB base mg p.2.1 p.2.2) → FnOk l.prog w (K w.params) mg base CX0 k fa fd [x] (spF (K w.params) (cs.map (·.2.2)) 1 F)) :
    PySem.W.WalkO q loose XP YP l.row.toRowW d [] (fun f vs => PySem.call f vs) := by
  refine Att.attach_callB hn hdf fun w s₀ s₁ mg mb fa o pm cd doc a vs ns G Y ho hd hcd hmg hobj hints hlen hbits hg => ?_
  have KX := hY w _ Y
  obtain ⟨fd, cs, F, hcs, hb, L, hF⟩ := F w mg fa _ KX G.T.g hmg
  have key : ∀ p ∈ cs, PySem.W.CodeHd s₁.heap p.2.1 p.2.2 ∧ s₁.heap.get? p.2.2 = some { cls := .none, data := .fields #[] } := fun p hp => by
    obtain ⟨d', h1, h2, _⟩ := hcs p hp
    exact PySem.W.tab_of G.T KX h1 h2
  refine LamX.law_callTs (cs := cs.map (·.2)) KX G.T.g G.T.b G.T.builtins G.T.nolimit hg (fun p hp => ?_) (fun p hp => ?_) (fun p hp => ?_) G.T.bmain hobj hints (Nat.le_trans hlen hn2) hr (fun base h1 h2 h3 => hF base h1 h2 fun p hp => tabB_of (h3 p.2 (List.mem_map.mpr ⟨p, hp, rfl⟩))) hb (fun H hH hS => ?_) fun H e s' h => h
  · obtain ⟨p', hp', rfl⟩ := List.mem_map.mp hp
    exact (key p' hp').2
  · obtain ⟨p', hp', rfl⟩ := List.mem_map.mp hp
    obtain ⟨d', _, _, h3⟩ := hcs p' hp'
    exact h3
  · obtain ⟨p', hp', rfl⟩ := List.mem_map.mp hp
    exact (key p' hp').1
  · refine law_sp L H a ns hlen hbits (fun T hT => ?_) hS
    obtain ⟨p', hp', rfl⟩ := List.mem_map.mp hT
    exact hH p'.2 (List.mem_map.mpr ⟨p', hp', rfl⟩)
end Calc
end
section
set_option Elab.async false
set_option linter.all false
set_option maxRecDepth 100000
set_option autoImplicit false
set_option maxHeartbeats 4000000
namespace Law
open PySem PySem.Spec PyProof.Rows L2 Calc
def top (i : Nat) : Stmt := PySem.Challenge.pw_hingelayer_k75_whole_numbers_and_bounds.main.body.getD i (.Pass ⟨0, 0, 0, 0⟩)
abbrev s__law_same : Stmt := top 18
theorem sc__law_same : FnScope ["found", "due", "k"] ["found", "due"] (defScope s__law_same) := ⟨rfl, rfl, rfl, by decide +kernel, rfl, by decide +kernel, by decide +kernel⟩
theorem ck__law_same (F__law_same : Fn) : chkSs ["found", "due", "k"] (defScope s__law_same) true false (b__law_same F__law_same).body (defBody s__law_same) = true := by kernel_rfl
abbrev s__law_gcd : Stmt := top 19
theorem sc__law_gcd : FnScope ["a", "b", "time"] ["a", "b"] (defScope s__law_gcd) := ⟨rfl, rfl, rfl, by decide +kernel, rfl, by decide +kernel, by decide +kernel⟩
theorem ck__law_gcd : chkSs ["a", "b", "time"] (defScope s__law_gcd) true false (b__law_gcd).body (defBody s__law_gcd) = true := by kernel_rfl
abbrev s__law_fr : Stmt := top 20
theorem sc__law_fr : FnScope ["a", "b", "by"] ["a", "b"] (defScope s__law_fr) := ⟨rfl, rfl, rfl, by decide +kernel, rfl, by decide +kernel, by decide +kernel⟩
theorem ck__law_fr (F__law_gcd : Fn) : chkSs ["a", "b", "by"] (defScope s__law_fr) true false (b__law_fr F__law_gcd).body (defBody s__law_fr) = true := by kernel_rfl
abbrev s__law_plus : Stmt := top 21
theorem sc__law_plus : FnScope ["a", "b"] ["a", "b"] (defScope s__law_plus) := ⟨rfl, rfl, rfl, by decide +kernel, rfl, by decide +kernel, by decide +kernel⟩
theorem ck__law_plus (F__law_fr : Fn) : chkSs ["a", "b"] (defScope s__law_plus) true false (b__law_plus F__law_fr).body (defBody s__law_plus) = true := by kernel_rfl
abbrev s__law_times : Stmt := top 22
theorem sc__law_times : FnScope ["a", "b"] ["a", "b"] (defScope s__law_times) := ⟨rfl, rfl, rfl, by decide +kernel, rfl, by decide +kernel, by decide +kernel⟩
theorem ck__law_times (F__law_fr : Fn) : chkSs ["a", "b"] (defScope s__law_times) true false (b__law_times F__law_fr).body (defBody s__law_times) = true := by kernel_rfl
abbrev s__law_bounds : Stmt := top 31
theorem sc__law_bounds : FnScope ["net", "box", "found", "a", "b", "c", "low", "high", "k", "one", "other"] ["net", "box"] (defScope s__law_bounds) := ⟨rfl, rfl, rfl, by decide +kernel, rfl, by decide +kernel, by decide +kernel⟩
theorem ck__law_bounds (F__law_plus : Fn) (F__law_times : Fn) : chkSs ["net", "box", "found", "a", "b", "c", "low", "high", "k", "one", "other"] (defScope s__law_bounds) true false (b__law_bounds F__law_plus F__law_times).body (defBody s__law_bounds) = true := by kernel_rfl
abbrev s_divisor : Stmt := top 1
theorem sc_divisor : FnScope ["one", "other"] ["one", "other"] (defScope s_divisor) := ⟨rfl, rfl, rfl, by decide +kernel, rfl, by decide +kernel, by decide +kernel⟩
theorem ck_divisor : chkSs ["one", "other"] (defScope s_divisor) true false (b_divisor).body (defBody s_divisor) = true := by kernel_rfl
abbrev s_lowest : Stmt := top 4
theorem sc_lowest : FnScope ["above", "below", "by"] ["above", "below"] (defScope s_lowest) := ⟨rfl, rfl, rfl, by decide +kernel, rfl, by decide +kernel, by decide +kernel⟩
theorem ck_lowest (F_divisor : Fn) : chkSs ["above", "below", "by"] (defScope s_lowest) true false (b_lowest F_divisor).body (defBody s_lowest) = true := by kernel_rfl
abbrev s_plus : Stmt := top 5
theorem sc_plus : FnScope ["one", "other"] ["one", "other"] (defScope s_plus) := ⟨rfl, rfl, rfl, by decide +kernel, rfl, by decide +kernel, by decide +kernel⟩
theorem ck_plus (F_lowest : Fn) : chkSs ["one", "other"] (defScope s_plus) true false (b_plus F_lowest).body (defBody s_plus) = true := by kernel_rfl
abbrev s_is_less : Stmt := top 7
theorem sc_is_less : FnScope ["one", "other"] ["one", "other"] (defScope s_is_less) := ⟨rfl, rfl, rfl, by decide +kernel, rfl, by decide +kernel, by decide +kernel⟩
theorem ck_is_less : chkSs ["one", "other"] (defScope s_is_less) true false (b_is_less).body (defBody s_is_less) = true := by kernel_rfl
abbrev s_greater_of : Stmt := top 8
theorem sc_greater_of : FnScope ["one", "other"] ["one", "other"] (defScope s_greater_of) := ⟨rfl, rfl, rfl, by decide +kernel, rfl, by decide +kernel, by decide +kernel⟩
theorem ck_greater_of (F_is_less : Fn) : chkSs ["one", "other"] (defScope s_greater_of) true false (b_greater_of F_is_less).body (defBody s_greater_of) = true := by kernel_rfl
abbrev s_product : Stmt := top 6
theorem sc_product : FnScope ["one", "other"] ["one", "other"] (defScope s_product) := ⟨rfl, rfl, rfl, by decide +kernel, rfl, by decide +kernel, by decide +kernel⟩
theorem ck_product (F_lowest : Fn) : chkSs ["one", "other"] (defScope s_product) true false (b_product F_lowest).body (defBody s_product) = true := by kernel_rfl
abbrev s_inner_bounds : Stmt := top 13
theorem sc_inner_bounds : FnScope ["net", "box", "found", "a", "b", "c", "low", "high", "number", "one", "two", "first", "second"] ["net", "box"] (defScope s_inner_bounds) := ⟨rfl, rfl, rfl, by decide +kernel, rfl, by decide +kernel, by decide +kernel⟩
theorem ck_inner_bounds (F_plus : Fn) (F_greater_of : Fn) (F_is_less : Fn) (F_product : Fn) : chkSs ["net", "box", "found", "a", "b", "c", "low", "high", "number", "one", "two", "first", "second"] (defScope s_inner_bounds) true false (b_inner_bounds F_plus F_greater_of F_is_less F_product).body (defBody s_inner_bounds) = true := by kernel_rfl
abbrev s__law_draw : Stmt := top 16
theorem sc__law_draw : FnScope ["bag", "many", "digit", "cell", "mixed"] ["bag", "many"] (defScope s__law_draw) := ⟨rfl, rfl, rfl, by decide +kernel, rfl, by decide +kernel, by decide +kernel⟩
theorem ck__law_draw : chkSs ["bag", "many", "digit", "cell", "mixed"] (defScope s__law_draw) true false (b__law_draw).body (defBody s__law_draw) = true := by kernel_rfl
abbrev s__law_pick : Stmt := top 17
theorem sc__law_pick : FnScope ["bag", "some"] ["bag", "some"] (defScope s__law_pick) := ⟨rfl, rfl, rfl, by decide +kernel, rfl, by decide +kernel, by decide +kernel⟩
theorem ck__law_pick (F__law_draw : Fn) : chkSs ["bag", "some"] (defScope s__law_pick) true false (b__law_pick F__law_draw).body (defBody s__law_pick) = true := by kernel_rfl
abbrev s__law_draw_fr : Stmt := top 26
theorem sc__law_draw_fr : FnScope ["bag", "size", "belows"] ["bag", "size", "belows"] (defScope s__law_draw_fr) := ⟨rfl, rfl, rfl, by decide +kernel, rfl, by decide +kernel, by decide +kernel⟩
theorem ck__law_draw_fr (F__law_fr : Fn) (F__law_pick : Fn) (F__law_draw : Fn) : chkSs ["bag", "size", "belows"] (defScope s__law_draw_fr) true false (b__law_draw_fr F__law_fr F__law_pick F__law_draw).body (defBody s__law_draw_fr) = true := by kernel_rfl
abbrev s__law_box : Stmt := top 32
theorem sc__law_box : FnScope ["bag", "n", "box", "k", "low"] ["bag", "n"] (defScope s__law_box) := ⟨rfl, rfl, rfl, by decide +kernel, rfl, by decide +kernel, by decide +kernel⟩
theorem ck__law_box (F__law_plus : Fn) (F__law_pick : Fn) (F__law_draw_fr : Fn) : chkSs ["bag", "n", "box", "k", "low"] (defScope s__law_box) true false (b__law_box F__law_plus F__law_pick F__law_draw_fr).body (defBody s__law_box) = true := by kernel_rfl
abbrev s__law_dot : Stmt := top 23
theorem sc__law_dot : FnScope ["a", "x", "total", "k"] ["a", "x"] (defScope s__law_dot) := ⟨rfl, rfl, rfl, by decide +kernel, rfl, by decide +kernel, by decide +kernel⟩
theorem ck__law_dot (F__law_plus : Fn) (F__law_times : Fn) : chkSs ["a", "x", "total", "k"] (defScope s__law_dot) true false (b__law_dot F__law_plus F__law_times).body (defBody s__law_dot) = true := by kernel_rfl
abbrev s__law_answer : Stmt := top 25
theorem sc__law_answer : FnScope ["net", "x", "total", "a", "b", "c", "here"] ["net", "x"] (defScope s__law_answer) := ⟨rfl, rfl, rfl, by decide +kernel, rfl, by decide +kernel, by decide +kernel⟩
theorem ck__law_answer (F__law_plus : Fn) (F__law_times : Fn) (F__law_dot : Fn) : chkSs ["net", "x", "total", "a", "b", "c", "here"] (defScope s__law_answer) true false (b__law_answer F__law_plus F__law_times F__law_dot).body (defBody s__law_answer) = true := by kernel_rfl
abbrev s__law_draw_row : Stmt := top 27
theorem sc__law_draw_row : FnScope ["bag", "n", "size", "belows", "k"] ["bag", "n", "size", "belows"] (defScope s__law_draw_row) := ⟨rfl, rfl, rfl, by decide +kernel, rfl, by decide +kernel, by decide +kernel⟩
theorem ck__law_draw_row (F__law_draw_fr : Fn) : chkSs ["bag", "n", "size", "belows", "k"] (defScope s__law_draw_row) true false (b__law_draw_row F__law_draw_fr).body (defBody s__law_draw_row) = true := by kernel_rfl
abbrev s_scaled_row : Stmt := top 9
theorem sc_scaled_row : FnScope ["number", "row", "one"] ["number", "row"] (defScope s_scaled_row) := ⟨rfl, rfl, rfl, by decide +kernel, rfl, by decide +kernel, by decide +kernel⟩
theorem ck_scaled_row (F_product : Fn) : chkSs ["number", "row", "one"] (defScope s_scaled_row) true true (b_scaled_row F_product).body (defBody s_scaled_row) = true := by kernel_rfl
abbrev s_multiple : Stmt := top 2
theorem sc_multiple : FnScope ["one", "other"] ["one", "other"] (defScope s_multiple) := ⟨rfl, rfl, rfl, by decide +kernel, rfl, by decide +kernel, by decide +kernel⟩
theorem ck_multiple (F_divisor : Fn) : chkSs ["one", "other"] (defScope s_multiple) true false (b_multiple F_divisor).body (defBody s_multiple) = true := by kernel_rfl
abbrev s_common_below : Stmt := top 10
theorem sc_common_below : FnScope ["row", "found", "above", "below"] ["row"] (defScope s_common_below) := ⟨rfl, rfl, rfl, by decide +kernel, rfl, by decide +kernel, by decide +kernel⟩
theorem ck_common_below (F_multiple : Fn) : chkSs ["row", "found", "above", "below"] (defScope s_common_below) true false (b_common_below F_multiple).body (defBody s_common_below) = true := by kernel_rfl
abbrev s_as_whole : Stmt := top 12
theorem sc_as_whole : FnScope ["net", "times", "a", "b", "c", "by", "hinges", "square"] ["net"] (defScope s_as_whole) := ⟨rfl, rfl, rfl, by decide +kernel, rfl, by decide +kernel, by decide +kernel⟩
theorem ck_as_whole (F_product : Fn) (F_scaled_row : Fn) (F_multiple : Fn) (F_common_below : Fn) : chkSs ["net", "times", "a", "b", "c", "by", "hinges", "square"] (defScope s_as_whole) true true (b_as_whole F_product F_scaled_row F_multiple F_common_below).body (defBody s_as_whole) = true := by kernel_rfl
abbrev s__law_taken : Stmt := top 24
theorem sc__law_taken : FnScope ["t", "a", "one"] ["t", "a"] (defScope s__law_taken) := ⟨rfl, rfl, rfl, by decide +kernel, rfl, by decide +kernel, by decide +kernel⟩
theorem ck__law_taken (F__law_times : Fn) : chkSs ["t", "a", "one"] (defScope s__law_taken) true false (b__law_taken F__law_times).body (defBody s__law_taken) = true := by kernel_rfl
abbrev s__law_times_all : Stmt := top 29
theorem sc__law_times_all : FnScope ["net", "found", "a", "b", "c", "one"] ["net"] (defScope s__law_times_all) := ⟨rfl, rfl, rfl, by decide +kernel, rfl, by decide +kernel, by decide +kernel⟩
theorem ck__law_times_all (F__law_gcd : Fn) : chkSs ["net", "found", "a", "b", "c", "one"] (defScope s__law_times_all) true false (b__law_times_all F__law_gcd).body (defBody s__law_times_all) = true := by kernel_rfl
abbrev s__law_whole : Stmt := top 30
theorem sc__law_whole : FnScope ["net", "times", "hinges", "square", "a", "b", "c"] ["net"] (defScope s__law_whole) := ⟨rfl, rfl, rfl, by decide +kernel, rfl, by decide +kernel, by decide +kernel⟩
theorem ck__law_whole (F__law_times : Fn) (F__law_taken : Fn) (F__law_times_all : Fn) : chkSs ["net", "times", "hinges", "square", "a", "b", "c"] (defScope s__law_whole) true false (b__law_whole F__law_times F__law_taken F__law_times_all).body (defBody s__law_whole) = true := by kernel_rfl
abbrev s__law_net : Stmt := top 28
theorem sc__law_net : FnScope ["bag", "n", "hinges", "size", "belows", "made", "k", "a", "b", "old", "t"] ["bag", "n", "hinges", "size", "belows"] (defScope s__law_net) := ⟨rfl, rfl, rfl, by decide +kernel, rfl, by decide +kernel, by decide +kernel⟩
theorem ck__law_net (F__law_draw_fr : Fn) (F__law_draw_row : Fn) (F__law_draw : Fn) (F__law_taken : Fn) (F__law_times : Fn) (F__law_pick : Fn) : chkSs ["bag", "n", "hinges", "size", "belows", "made", "k", "a", "b", "old", "t"] (defScope s__law_net) true false (b__law_net F__law_draw_fr F__law_draw_row F__law_draw F__law_taken F__law_times F__law_pick).body (defBody s__law_net) = true := by kernel_rfl
abbrev s__law_bag : Stmt := top 15
theorem sc__law_bag : FnScope ["script", "cells", "great", "cell"] ["script"] (defScope s__law_bag) := ⟨rfl, rfl, rfl, by decide +kernel, rfl, by decide +kernel, by decide +kernel⟩
theorem ck__law_bag : chkSs ["script", "cells", "great", "cell"] (defScope s__law_bag) true false (b__law_bag).body (defBody s__law_bag) = true := by kernel_rfl
abbrev s_law : Stmt := top 33
theorem sc_law : FnScope ["script", "bag", "time", "n", "net", "due", "got", "k", "x", "box"] ["script"] (defScope s_law) := ⟨rfl, rfl, rfl, by decide +kernel, rfl, by decide +kernel, by decide +kernel⟩
theorem ck_law (F__law_same : Fn) (F__law_bounds : Fn) (F_inner_bounds : Fn) (F__law_box : Fn) (F__law_answer : Fn) (F__law_times : Fn) (F__law_draw_row : Fn) (F_as_whole : Fn) (F__law_whole : Fn) (F__law_net : Fn) (F__law_pick : Fn) (F__law_draw : Fn) (F__law_bag : Fn) : chkSs ["script", "bag", "time", "n", "net", "due", "got", "k", "x", "box"] (defScope s_law) true false (b_law F__law_same F__law_bounds F_inner_bounds F__law_box F__law_answer F__law_times F__law_draw_row F_as_whole F__law_whole F__law_net F__law_pick F__law_draw F__law_bag).body (defBody s_law) = true := by kernel_rfl
end Law
end
section
set_option Elab.async false
set_option linter.all false
set_option maxRecDepth 100000
set_option autoImplicit false
set_option maxHeartbeats 4000000
namespace Law
open PySem PySem.Spec PyProof.Rows L2 Calc
theorem facts {l : PySem.W.OpenLaw} {w : World} {K : PySem.W.Frag} {h : Heap} {mg : Str → Option Value} {q : Program} {fa : Addr} {n : Nat} (L : LawDen f_law n) (X : K.In h) (G : h.Ns mainGlobals mg) (hfa : mg "law" = some (.ref fa))
    {f0 : Addr} {od0 an0 : Option Addr} {sl0 : Array (Option Value)} {oc0 kV0 dc0 pm0 cd0 ct0 : Value}
    (a0 : PySem.W.nsIn K mainGlobals "_law_same" = some (some (.ref f0))) (l0 : K.lookup f0 = some ⟨oc0, od0, .func (PySem.W.fnOf "_law_same" "_law_same" (defArgs s__law_same) (defBody s__law_same) (defScope s__law_same) .none kV0 dc0 pm0 an0 cd0 ct0), sl0⟩) (c0 : PySem.W.codeIn K cd0 "_law_same" = true) (k0 : PySem.W.keepIn K (.ref f0) = true)
    {f1 : Addr} {od1 an1 : Option Addr} {sl1 : Array (Option Value)} {oc1 kV1 dc1 pm1 cd1 ct1 : Value}
    (a1 : PySem.W.nsIn K mainGlobals "_law_gcd" = some (some (.ref f1))) (l1 : K.lookup f1 = some ⟨oc1, od1, .func (PySem.W.fnOf "_law_gcd" "_law_gcd" (defArgs s__law_gcd) (defBody s__law_gcd) (defScope s__law_gcd) .none kV1 dc1 pm1 an1 cd1 ct1), sl1⟩) (c1 : PySem.W.codeIn K cd1 "_law_gcd" = true) (k1 : PySem.W.keepIn K (.ref f1) = true)
    {f2 : Addr} {od2 an2 : Option Addr} {sl2 : Array (Option Value)} {oc2 kV2 dc2 pm2 cd2 ct2 : Value}
    (a2 : PySem.W.nsIn K mainGlobals "_law_fr" = some (some (.ref f2))) (l2 : K.lookup f2 = some ⟨oc2, od2, .func (PySem.W.fnOf "_law_fr" "_law_fr" (defArgs s__law_fr) (defBody s__law_fr) (defScope s__law_fr) .none kV2 dc2 pm2 an2 cd2 ct2), sl2⟩) (c2 : PySem.W.codeIn K cd2 "_law_fr" = true) (k2 : PySem.W.keepIn K (.ref f2) = true)
    {f3 : Addr} {od3 an3 : Option Addr} {sl3 : Array (Option Value)} {oc3 kV3 dc3 pm3 cd3 ct3 : Value}
    (a3 : PySem.W.nsIn K mainGlobals "_law_plus" = some (some (.ref f3))) (l3 : K.lookup f3 = some ⟨oc3, od3, .func (PySem.W.fnOf "_law_plus" "_law_plus" (defArgs s__law_plus) (defBody s__law_plus) (defScope s__law_plus) .none kV3 dc3 pm3 an3 cd3 ct3), sl3⟩) (c3 : PySem.W.codeIn K cd3 "_law_plus" = true) (k3 : PySem.W.keepIn K (.ref f3) = true)
    {f4 : Addr} {od4 an4 : Option Addr} {sl4 : Array (Option Value)} {oc4 kV4 dc4 pm4 cd4 ct4 : Value}
    (a4 : PySem.W.nsIn K mainGlobals "_law_times" = some (some (.ref f4))) (l4 : K.lookup f4 = some ⟨oc4, od4, .func (PySem.W.fnOf "_law_times" "_law_times" (defArgs s__law_times) (defBody s__law_times) (defScope s__law_times) .none kV4 dc4 pm4 an4 cd4 ct4), sl4⟩) (c4 : PySem.W.codeIn K cd4 "_law_times" = true) (k4 : PySem.W.keepIn K (.ref f4) = true)
    {f5 : Addr} {od5 an5 : Option Addr} {sl5 : Array (Option Value)} {oc5 kV5 dc5 pm5 cd5 ct5 : Value}
    (a5 : PySem.W.nsIn K mainGlobals "_law_bounds" = some (some (.ref f5))) (l5 : K.lookup f5 = some ⟨oc5, od5, .func (PySem.W.fnOf "_law_bounds" "_law_bounds" (defArgs s__law_bounds) (defBody s__law_bounds) (defScope s__law_bounds) .none kV5 dc5 pm5 an5 cd5 ct5), sl5⟩) (c5 : PySem.W.codeIn K cd5 "_law_bounds" = true) (k5 : PySem.W.keepIn K (.ref f5) = true)
    {f6 : Addr} {od6 an6 : Option Addr} {sl6 : Array (Option Value)} {oc6 kV6 dc6 pm6 cd6 ct6 : Value}
    (a6 : PySem.W.nsIn K mainGlobals "divisor" = some (some (.ref f6))) (l6 : K.lookup f6 = some ⟨oc6, od6, .func (PySem.W.fnOf "divisor" "divisor" (defArgs s_divisor) (defBody s_divisor) (defScope s_divisor) .none kV6 dc6 pm6 an6 cd6 ct6), sl6⟩) (c6 : PySem.W.codeIn K cd6 "divisor" = true) (k6 : PySem.W.keepIn K (.ref f6) = true)
    {f7 : Addr} {od7 an7 : Option Addr} {sl7 : Array (Option Value)} {oc7 kV7 dc7 pm7 cd7 ct7 : Value}
    (a7 : PySem.W.nsIn K mainGlobals "lowest" = some (some (.ref f7))) (l7 : K.lookup f7 = some ⟨oc7, od7, .func (PySem.W.fnOf "lowest" "lowest" (defArgs s_lowest) (defBody s_lowest) (defScope s_lowest) .none kV7 dc7 pm7 an7 cd7 ct7), sl7⟩) (c7 : PySem.W.codeIn K cd7 "lowest" = true) (k7 : PySem.W.keepIn K (.ref f7) = true)
    {f8 : Addr} {od8 an8 : Option Addr} {sl8 : Array (Option Value)} {oc8 kV8 dc8 pm8 cd8 ct8 : Value}
    (a8 : PySem.W.nsIn K mainGlobals "plus" = some (some (.ref f8))) (l8 : K.lookup f8 = some ⟨oc8, od8, .func (PySem.W.fnOf "plus" "plus" (defArgs s_plus) (defBody s_plus) (defScope s_plus) .none kV8 dc8 pm8 an8 cd8 ct8), sl8⟩) (c8 : PySem.W.codeIn K cd8 "plus" = true) (k8 : PySem.W.keepIn K (.ref f8) = true)
    {f9 : Addr} {od9 an9 : Option Addr} {sl9 : Array (Option Value)} {oc9 kV9 dc9 pm9 cd9 ct9 : Value}
    (a9 : PySem.W.nsIn K mainGlobals "is_less" = some (some (.ref f9))) (l9 : K.lookup f9 = some ⟨oc9, od9, .func (PySem.W.fnOf "is_less" "is_less" (defArgs s_is_less) (defBody s_is_less) (defScope s_is_less) .none kV9 dc9 pm9 an9 cd9 ct9), sl9⟩) (c9 : PySem.W.codeIn K cd9 "is_less" = true) (k9 : PySem.W.keepIn K (.ref f9) = true)
    {f10 : Addr} {od10 an10 : Option Addr} {sl10 : Array (Option Value)} {oc10 kV10 dc10 pm10 cd10 ct10 : Value}
    (a10 : PySem.W.nsIn K mainGlobals "greater_of" = some (some (.ref f10))) (l10 : K.lookup f10 = some ⟨oc10, od10, .func (PySem.W.fnOf "greater_of" "greater_of" (defArgs s_greater_of) (defBody s_greater_of) (defScope s_greater_of) .none kV10 dc10 pm10 an10 cd10 ct10), sl10⟩) (c10 : PySem.W.codeIn K cd10 "greater_of" = true) (k10 : PySem.W.keepIn K (.ref f10) = true)
    {f11 : Addr} {od11 an11 : Option Addr} {sl11 : Array (Option Value)} {oc11 kV11 dc11 pm11 cd11 ct11 : Value}
    (a11 : PySem.W.nsIn K mainGlobals "product" = some (some (.ref f11))) (l11 : K.lookup f11 = some ⟨oc11, od11, .func (PySem.W.fnOf "product" "product" (defArgs s_product) (defBody s_product) (defScope s_product) .none kV11 dc11 pm11 an11 cd11 ct11), sl11⟩) (c11 : PySem.W.codeIn K cd11 "product" = true) (k11 : PySem.W.keepIn K (.ref f11) = true)
    {f12 : Addr} {od12 an12 : Option Addr} {sl12 : Array (Option Value)} {oc12 kV12 dc12 pm12 cd12 ct12 : Value}
    (a12 : PySem.W.nsIn K mainGlobals "inner_bounds" = some (some (.ref f12))) (l12 : K.lookup f12 = some ⟨oc12, od12, .func (PySem.W.fnOf "inner_bounds" "inner_bounds" (defArgs s_inner_bounds) (defBody s_inner_bounds) (defScope s_inner_bounds) .none kV12 dc12 pm12 an12 cd12 ct12), sl12⟩) (c12 : PySem.W.codeIn K cd12 "inner_bounds" = true) (k12 : PySem.W.keepIn K (.ref f12) = true)
    {f13 : Addr} {od13 an13 : Option Addr} {sl13 : Array (Option Value)} {oc13 kV13 dc13 pm13 cd13 ct13 : Value}
    (a13 : PySem.W.nsIn K mainGlobals "_law_draw" = some (some (.ref f13))) (l13 : K.lookup f13 = some ⟨oc13, od13, .func (PySem.W.fnOf "_law_draw" "_law_draw" (defArgs s__law_draw) (defBody s__law_draw) (defScope s__law_draw) .none kV13 dc13 pm13 an13 cd13 ct13), sl13⟩) (c13 : PySem.W.codeIn K cd13 "_law_draw" = true) (k13 : PySem.W.keepIn K (.ref f13) = true)
    {f14 : Addr} {od14 an14 : Option Addr} {sl14 : Array (Option Value)} {oc14 kV14 dc14 pm14 cd14 ct14 : Value}
    (a14 : PySem.W.nsIn K mainGlobals "_law_pick" = some (some (.ref f14))) (l14 : K.lookup f14 = some ⟨oc14, od14, .func (PySem.W.fnOf "_law_pick" "_law_pick" (defArgs s__law_pick) (defBody s__law_pick) (defScope s__law_pick) .none kV14 dc14 pm14 an14 cd14 ct14), sl14⟩) (c14 : PySem.W.codeIn K cd14 "_law_pick" = true) (k14 : PySem.W.keepIn K (.ref f14) = true)
    {f15 : Addr} {od15 an15 : Option Addr} {sl15 : Array (Option Value)} {oc15 kV15 dc15 pm15 cd15 ct15 : Value}
    (a15 : PySem.W.nsIn K mainGlobals "_law_draw_fr" = some (some (.ref f15))) (l15 : K.lookup f15 = some ⟨oc15, od15, .func (PySem.W.fnOf "_law_draw_fr" "_law_draw_fr" (defArgs s__law_draw_fr) (defBody s__law_draw_fr) (defScope s__law_draw_fr) .none kV15 dc15 pm15 an15 cd15 ct15), sl15⟩) (c15 : PySem.W.codeIn K cd15 "_law_draw_fr" = true) (k15 : PySem.W.keepIn K (.ref f15) = true)
    {f16 : Addr} {od16 an16 : Option Addr} {sl16 : Array (Option Value)} {oc16 kV16 dc16 pm16 cd16 ct16 : Value}
    (a16 : PySem.W.nsIn K mainGlobals "_law_box" = some (some (.ref f16))) (l16 : K.lookup f16 = some ⟨oc16, od16, .func (PySem.W.fnOf "_law_box" "_law_box" (defArgs s__law_box) (defBody s__law_box) (defScope s__law_box) .none kV16 dc16 pm16 an16 cd16 ct16), sl16⟩) (c16 : PySem.W.codeIn K cd16 "_law_box" = true) (k16 : PySem.W.keepIn K (.ref f16) = true)
    {f17 : Addr} {od17 an17 : Option Addr} {sl17 : Array (Option Value)} {oc17 kV17 dc17 pm17 cd17 ct17 : Value}
    (a17 : PySem.W.nsIn K mainGlobals "_law_dot" = some (some (.ref f17))) (l17 : K.lookup f17 = some ⟨oc17, od17, .func (PySem.W.fnOf "_law_dot" "_law_dot" (defArgs s__law_dot) (defBody s__law_dot) (defScope s__law_dot) .none kV17 dc17 pm17 an17 cd17 ct17), sl17⟩) (c17 : PySem.W.codeIn K cd17 "_law_dot" = true) (k17 : PySem.W.keepIn K (.ref f17) = true)
    {f18 : Addr} {od18 an18 : Option Addr} {sl18 : Array (Option Value)} {oc18 kV18 dc18 pm18 cd18 ct18 : Value}
    (a18 : PySem.W.nsIn K mainGlobals "_law_answer" = some (some (.ref f18))) (l18 : K.lookup f18 = some ⟨oc18, od18, .func (PySem.W.fnOf "_law_answer" "_law_answer" (defArgs s__law_answer) (defBody s__law_answer) (defScope s__law_answer) .none kV18 dc18 pm18 an18 cd18 ct18), sl18⟩) (c18 : PySem.W.codeIn K cd18 "_law_answer" = true) (k18 : PySem.W.keepIn K (.ref f18) = true)
    {f19 : Addr} {od19 an19 : Option Addr} {sl19 : Array (Option Value)} {oc19 kV19 dc19 pm19 cd19 ct19 : Value}
    (a19 : PySem.W.nsIn K mainGlobals "_law_draw_row" = some (some (.ref f19))) (l19 : K.lookup f19 = some ⟨oc19, od19, .func (PySem.W.fnOf "_law_draw_row" "_law_draw_row" (defArgs s__law_draw_row) (defBody s__law_draw_row) (defScope s__law_draw_row) .none kV19 dc19 pm19 an19 cd19 ct19), sl19⟩) (c19 : PySem.W.codeIn K cd19 "_law_draw_row" = true) (k19 : PySem.W.keepIn K (.ref f19) = true)
    {f20 : Addr} {od20 an20 : Option Addr} {sl20 : Array (Option Value)} {oc20 kV20 dc20 pm20 ct20 : Value} {cc20 tt20 : Addr}
    (a20 : PySem.W.nsIn K mainGlobals "scaled_row" = some (some (.ref f20))) (l20 : K.lookup f20 = some ⟨oc20, od20, .func (PySem.W.fnOf "scaled_row" "scaled_row" (defArgs s_scaled_row) (defBody s_scaled_row) (defScope s_scaled_row) .none kV20 dc20 pm20 an20 (.ref cc20) ct20), sl20⟩) (c20 : PySem.W.codeIn K (.ref cc20) "scaled_row" = true) (k20 : PySem.W.keepIn K (.ref f20) = true)
    {dr20 : DefRec} (r20 : (recsOf q).find? (fun e => e.name == ("scaled_row" : Str)) = some dr20) (t20 : PySem.W.tabIn K "scaled_row" = some (cc20, tt20)) (u20 : K.lookup tt20 = none)
    {f21 : Addr} {od21 an21 : Option Addr} {sl21 : Array (Option Value)} {oc21 kV21 dc21 pm21 cd21 ct21 : Value}
    (a21 : PySem.W.nsIn K mainGlobals "multiple" = some (some (.ref f21))) (l21 : K.lookup f21 = some ⟨oc21, od21, .func (PySem.W.fnOf "multiple" "multiple" (defArgs s_multiple) (defBody s_multiple) (defScope s_multiple) .none kV21 dc21 pm21 an21 cd21 ct21), sl21⟩) (c21 : PySem.W.codeIn K cd21 "multiple" = true) (k21 : PySem.W.keepIn K (.ref f21) = true)
    {f22 : Addr} {od22 an22 : Option Addr} {sl22 : Array (Option Value)} {oc22 kV22 dc22 pm22 cd22 ct22 : Value}
    (a22 : PySem.W.nsIn K mainGlobals "common_below" = some (some (.ref f22))) (l22 : K.lookup f22 = some ⟨oc22, od22, .func (PySem.W.fnOf "common_below" "common_below" (defArgs s_common_below) (defBody s_common_below) (defScope s_common_below) .none kV22 dc22 pm22 an22 cd22 ct22), sl22⟩) (c22 : PySem.W.codeIn K cd22 "common_below" = true) (k22 : PySem.W.keepIn K (.ref f22) = true)
    {f23 : Addr} {od23 an23 : Option Addr} {sl23 : Array (Option Value)} {oc23 kV23 dc23 pm23 ct23 : Value} {cc23 tt23 : Addr}
    (a23 : PySem.W.nsIn K mainGlobals "as_whole" = some (some (.ref f23))) (l23 : K.lookup f23 = some ⟨oc23, od23, .func (PySem.W.fnOf "as_whole" "as_whole" (defArgs s_as_whole) (defBody s_as_whole) (defScope s_as_whole) .none kV23 dc23 pm23 an23 (.ref cc23) ct23), sl23⟩) (c23 : PySem.W.codeIn K (.ref cc23) "as_whole" = true) (k23 : PySem.W.keepIn K (.ref f23) = true)
    {dr23 : DefRec} (r23 : (recsOf q).find? (fun e => e.name == ("as_whole" : Str)) = some dr23) (t23 : PySem.W.tabIn K "as_whole" = some (cc23, tt23)) (u23 : K.lookup tt23 = none)
    {f24 : Addr} {od24 an24 : Option Addr} {sl24 : Array (Option Value)} {oc24 kV24 dc24 pm24 cd24 ct24 : Value}
    (a24 : PySem.W.nsIn K mainGlobals "_law_taken" = some (some (.ref f24))) (l24 : K.lookup f24 = some ⟨oc24, od24, .func (PySem.W.fnOf "_law_taken" "_law_taken" (defArgs s__law_taken) (defBody s__law_taken) (defScope s__law_taken) .none kV24 dc24 pm24 an24 cd24 ct24), sl24⟩) (c24 : PySem.W.codeIn K cd24 "_law_taken" = true) (k24 : PySem.W.keepIn K (.ref f24) = true)
    {f25 : Addr} {od25 an25 : Option Addr} {sl25 : Array (Option Value)} {oc25 kV25 dc25 pm25 cd25 ct25 : Value}
    (a25 : PySem.W.nsIn K mainGlobals "_law_times_all" = some (some (.ref f25))) (l25 : K.lookup f25 = some ⟨oc25, od25, .func (PySem.W.fnOf "_law_times_all" "_law_times_all" (defArgs s__law_times_all) (defBody s__law_times_all) (defScope s__law_times_all) .none kV25 dc25 pm25 an25 cd25 ct25), sl25⟩) (c25 : PySem.W.codeIn K cd25 "_law_times_all" = true) (k25 : PySem.W.keepIn K (.ref f25) = true)
    {f26 : Addr} {od26 an26 : Option Addr} {sl26 : Array (Option Value)} {oc26 kV26 dc26 pm26 cd26 ct26 : Value}
    (a26 : PySem.W.nsIn K mainGlobals "_law_whole" = some (some (.ref f26))) (l26 : K.lookup f26 = some ⟨oc26, od26, .func (PySem.W.fnOf "_law_whole" "_law_whole" (defArgs s__law_whole) (defBody s__law_whole) (defScope s__law_whole) .none kV26 dc26 pm26 an26 cd26 ct26), sl26⟩) (c26 : PySem.W.codeIn K cd26 "_law_whole" = true) (k26 : PySem.W.keepIn K (.ref f26) = true)
    {f27 : Addr} {od27 an27 : Option Addr} {sl27 : Array (Option Value)} {oc27 kV27 dc27 pm27 cd27 ct27 : Value}
    (a27 : PySem.W.nsIn K mainGlobals "_law_net" = some (some (.ref f27))) (l27 : K.lookup f27 = some ⟨oc27, od27, .func (PySem.W.fnOf "_law_net" "_law_net" (defArgs s__law_net) (defBody s__law_net) (defScope s__law_net) .none kV27 dc27 pm27 an27 cd27 ct27), sl27⟩) (c27 : PySem.W.codeIn K cd27 "_law_net" = true) (k27 : PySem.W.keepIn K (.ref f27) = true)
    {f28 : Addr} {od28 an28 : Option Addr} {sl28 : Array (Option Value)} {oc28 kV28 dc28 pm28 cd28 ct28 : Value}
    (a28 : PySem.W.nsIn K mainGlobals "_law_bag" = some (some (.ref f28))) (l28 : K.lookup f28 = some ⟨oc28, od28, .func (PySem.W.fnOf "_law_bag" "_law_bag" (defArgs s__law_bag) (defBody s__law_bag) (defScope s__law_bag) .none kV28 dc28 pm28 an28 cd28 ct28), sl28⟩) (c28 : PySem.W.codeIn K cd28 "_law_bag" = true) (k28 : PySem.W.keepIn K (.ref f28) = true)
    {f29 : Addr} {od29 an29 : Option Addr} {sl29 : Array (Option Value)} {oc29 kV29 dc29 pm29 cd29 ct29 : Value}
    (a29 : PySem.W.nsIn K mainGlobals "law" = some (some (.ref f29))) (l29 : K.lookup f29 = some ⟨oc29, od29, .func (PySem.W.fnOf "law" "law" (defArgs s_law) (defBody s_law) (defScope s_law) .none kV29 dc29 pm29 an29 cd29 ct29), sl29⟩) (c29 : PySem.W.codeIn K cd29 "law" = true) (k29 : PySem.W.keepIn K (.ref f29) = true)
    (z0 : PySem.W.nsIn K mainGlobals "len" = some none)
    (z1 : PySem.W.nsIn K mainGlobals "abs" = some none)
    (z2 : PySem.W.nsIn K mainGlobals "int" = some none)
    (z3 : PySem.W.nsIn K mainGlobals "tuple" = some none)
    (z4 : PySem.W.nsIn K mainGlobals "list" = some none)
    (z5 : PySem.W.nsIn K mainGlobals "isinstance" = some none)
    (z6 : PySem.W.nsIn K mainGlobals "bool" = some none)
    (z7 : PySem.W.nsIn K mainGlobals "str" = some none)
    (z8 : PySem.W.nsIn K mainGlobals "range" = some none)
    (z9 : PySem.W.nsIn K mainGlobals "enumerate" = some none)
    (z10 : PySem.W.nsIn K mainGlobals "zip" = some none)
    (z11 : PySem.W.nsIn K mainGlobals "all" = some none)
    (z12 : PySem.W.nsIn K mainGlobals "any" = some none)
    : ∃ (fd : FuncData) (cs : List (Str × Addr × Addr)) (F : Fn), (∀ p ∈ cs, ∃ d', (recsOf q).find? (fun e => e.name == p.1) = some d' ∧ PySem.W.tabIn K p.1 = some p.2 ∧ K.lookup p.2.2 = none) ∧ (∀ (s : Shared) (u : Value), BindsTo s fd ⟨[u], []⟩ [("script", u)]) ∧ LawDen F n ∧
        ∀ base : Heap, K.In base → base.Ns mainGlobals mg → (∀ p ∈ cs, GxR.TabB base mg p.2.1 p.2.2) → FnOk l.prog w K mg base CX0 48 fa fd ["script"] (spF K (cs.map (·.2.2)) 1 F) := by
  have e := hfa.symm.trans (PySem.W.mg_of X G a29)
  cases e
  have hB : ∀ b ∈ bNames, mg b = none := by
    unfold bNames
    simp only [List.forall_mem_cons]
    exact ⟨PySem.W.mg_none_of X G z0, PySem.W.mg_none_of X G z1, PySem.W.mg_none_of X G z2, PySem.W.mg_none_of X G z3, PySem.W.mg_none_of X G z4, PySem.W.mg_none_of X G z5, PySem.W.mg_none_of X G z6, PySem.W.mg_none_of X G z7, PySem.W.mg_none_of X G z8, PySem.W.mg_none_of X G z9, PySem.W.mg_none_of X G z10, PySem.W.mg_none_of X G z11, PySem.W.mg_none_of X G z12, fun _ h => nomatch h⟩
  have V0 := funV (st := s__law_same) l0 c0 k0
  have m0 := PySem.W.mg_of X G a0
  have B0 := V0.binds (ps := ["found", "due"]) fun _ _ _ _ _ _ us hl => match us, hl with | [_, _], _ => rfl
  have V1 := funV (st := s__law_gcd) l1 c1 k1
  have m1 := PySem.W.mg_of X G a1
  have B1 := V1.binds (ps := ["a", "b"]) fun _ _ _ _ _ _ us hl => match us, hl with | [_, _], _ => rfl
  have V2 := funV (st := s__law_fr) l2 c2 k2
  have m2 := PySem.W.mg_of X G a2
  have B2 := V2.binds (ps := ["a", "b"]) fun _ _ _ _ _ _ us hl => match us, hl with | [_, _], _ => rfl
  have V3 := funV (st := s__law_plus) l3 c3 k3
  have m3 := PySem.W.mg_of X G a3
  have B3 := V3.binds (ps := ["a", "b"]) fun _ _ _ _ _ _ us hl => match us, hl with | [_, _], _ => rfl
  have V4 := funV (st := s__law_times) l4 c4 k4
  have m4 := PySem.W.mg_of X G a4
  have B4 := V4.binds (ps := ["a", "b"]) fun _ _ _ _ _ _ us hl => match us, hl with | [_, _], _ => rfl
  have V5 := funV (st := s__law_bounds) l5 c5 k5
  have m5 := PySem.W.mg_of X G a5
  have B5 := V5.binds (ps := ["net", "box"]) fun _ _ _ _ _ _ us hl => match us, hl with | [_, _], _ => rfl
  have V6 := funV (st := s_divisor) l6 c6 k6
  have m6 := PySem.W.mg_of X G a6
  have B6 := V6.binds (ps := ["one", "other"]) fun _ _ _ _ _ _ us hl => match us, hl with | [_, _], _ => rfl
  have V7 := funV (st := s_lowest) l7 c7 k7
  have m7 := PySem.W.mg_of X G a7
  have B7 := V7.binds (ps := ["above", "below"]) fun _ _ _ _ _ _ us hl => match us, hl with | [_, _], _ => rfl
  have V8 := funV (st := s_plus) l8 c8 k8
  have m8 := PySem.W.mg_of X G a8
  have B8 := V8.binds (ps := ["one", "other"]) fun _ _ _ _ _ _ us hl => match us, hl with | [_, _], _ => rfl
  have V9 := funV (st := s_is_less) l9 c9 k9
  have m9 := PySem.W.mg_of X G a9
  have B9 := V9.binds (ps := ["one", "other"]) fun _ _ _ _ _ _ us hl => match us, hl with | [_, _], _ => rfl
  have V10 := funV (st := s_greater_of) l10 c10 k10
  have m10 := PySem.W.mg_of X G a10
  have B10 := V10.binds (ps := ["one", "other"]) fun _ _ _ _ _ _ us hl => match us, hl with | [_, _], _ => rfl
  have V11 := funV (st := s_product) l11 c11 k11
  have m11 := PySem.W.mg_of X G a11
  have B11 := V11.binds (ps := ["one", "other"]) fun _ _ _ _ _ _ us hl => match us, hl with | [_, _], _ => rfl
  have V12 := funV (st := s_inner_bounds) l12 c12 k12
  have m12 := PySem.W.mg_of X G a12
  have B12 := V12.binds (ps := ["net", "box"]) fun _ _ _ _ _ _ us hl => match us, hl with | [_, _], _ => rfl
  have V13 := funV (st := s__law_draw) l13 c13 k13
  have m13 := PySem.W.mg_of X G a13
  have B13 := V13.binds (ps := ["bag", "many"]) fun _ _ _ _ _ _ us hl => match us, hl with | [_, _], _ => rfl
  have V14 := funV (st := s__law_pick) l14 c14 k14
  have m14 := PySem.W.mg_of X G a14
  have B14 := V14.binds (ps := ["bag", "some"]) fun _ _ _ _ _ _ us hl => match us, hl with | [_, _], _ => rfl
  have V15 := funV (st := s__law_draw_fr) l15 c15 k15
  have m15 := PySem.W.mg_of X G a15
  have B15 := V15.binds (ps := ["bag", "size", "belows"]) fun _ _ _ _ _ _ us hl => match us, hl with | [_, _, _], _ => rfl
  have V16 := funV (st := s__law_box) l16 c16 k16
  have m16 := PySem.W.mg_of X G a16
  have B16 := V16.binds (ps := ["bag", "n"]) fun _ _ _ _ _ _ us hl => match us, hl with | [_, _], _ => rfl
  have V17 := funV (st := s__law_dot) l17 c17 k17
  have m17 := PySem.W.mg_of X G a17
  have B17 := V17.binds (ps := ["a", "x"]) fun _ _ _ _ _ _ us hl => match us, hl with | [_, _], _ => rfl
  have V18 := funV (st := s__law_answer) l18 c18 k18
  have m18 := PySem.W.mg_of X G a18
  have B18 := V18.binds (ps := ["net", "x"]) fun _ _ _ _ _ _ us hl => match us, hl with | [_, _], _ => rfl
  have V19 := funV (st := s__law_draw_row) l19 c19 k19
  have m19 := PySem.W.mg_of X G a19
  have B19 := V19.binds (ps := ["bag", "n", "size", "belows"]) fun _ _ _ _ _ _ us hl => match us, hl with | [_, _, _, _], _ => rfl
  have V20 := funV (st := s_scaled_row) l20 c20 k20
  have m20 := PySem.W.mg_of X G a20
  have B20 := V20.binds (ps := ["number", "row"]) fun _ _ _ _ _ _ us hl => match us, hl with | [_, _], _ => rfl
  have V21 := funV (st := s_multiple) l21 c21 k21
  have m21 := PySem.W.mg_of X G a21
  have B21 := V21.binds (ps := ["one", "other"]) fun _ _ _ _ _ _ us hl => match us, hl with | [_, _], _ => rfl
  have V22 := funV (st := s_common_below) l22 c22 k22
  have m22 := PySem.W.mg_of X G a22
  have B22 := V22.binds (ps := ["row"]) fun _ _ _ _ _ _ us hl => match us, hl with | [_], _ => rfl
  have V23 := funV (st := s_as_whole) l23 c23 k23
  have m23 := PySem.W.mg_of X G a23
  have B23 := V23.binds (ps := ["net"]) fun _ _ _ _ _ _ us hl => match us, hl with | [_], _ => rfl
  have V24 := funV (st := s__law_taken) l24 c24 k24
  have m24 := PySem.W.mg_of X G a24
  have B24 := V24.binds (ps := ["t", "a"]) fun _ _ _ _ _ _ us hl => match us, hl with | [_, _], _ => rfl
  have V25 := funV (st := s__law_times_all) l25 c25 k25
  have m25 := PySem.W.mg_of X G a25
  have B25 := V25.binds (ps := ["net"]) fun _ _ _ _ _ _ us hl => match us, hl with | [_], _ => rfl
  have V26 := funV (st := s__law_whole) l26 c26 k26
  have m26 := PySem.W.mg_of X G a26
  have B26 := V26.binds (ps := ["net"]) fun _ _ _ _ _ _ us hl => match us, hl with | [_], _ => rfl
  have V27 := funV (st := s__law_net) l27 c27 k27
  have m27 := PySem.W.mg_of X G a27
  have B27 := V27.binds (ps := ["bag", "n", "hinges", "size", "belows"]) fun _ _ _ _ _ _ us hl => match us, hl with | [_, _, _, _, _], _ => rfl
  have V28 := funV (st := s__law_bag) l28 c28 k28
  have m28 := PySem.W.mg_of X G a28
  have B28 := V28.binds (ps := ["script"]) fun _ _ _ _ _ _ us hl => match us, hl with | [_], _ => rfl
  have V29 := funV (st := s_law) l29 c29 k29
  refine ⟨PySem.W.fnOf "law" "law" (defArgs s_law) (defBody s_law) (defScope s_law) .none kV29 dc29 pm29 an29 cd29 ct29, [(("scaled_row" : Str), cc20, tt20), (("as_whole" : Str), cc23, tt23)], f_law, List.forall_mem_cons.mpr ⟨⟨dr20, r20, t20, u20⟩, List.forall_mem_cons.mpr ⟨⟨dr23, r23, t23, u23⟩, fun _ h => nomatch h⟩⟩, fun s v => .of_eq rfl, L, fun base KB NB hT => ?_⟩
  have hT : ∀ p ∈ [(("scaled_row" : Str), cc20, tt20), (("as_whole" : Str), cc23, tt23)], GxR.TabB base mg p.2.1 p.2.2 := hT
  simp only [List.forall_mem_cons] at hT
  obtain ⟨T20, T23, _⟩ := hT
  show FnOk l.prog w K mg base CX0 48 _ _ ["script"] (spF K [tt20, tt23] 1 f_law)
  have g0 : ∀ k, GFb l.prog w K mg base [tt20, tt23] (0 + 6 * k) "_law_same" (f__law_same k) := fun k => by
    induction k with
    | zero => exact gfb (Nat.le_refl _) m0 V0.kp B0 (fun _ _ _ h => nomatch h) fn_none
    | succ k ih =>
      refine gf_den (lv := 0 + 6 * k) V0 m0 B0 (b__law_same _) false sc__law_same rfl rfl (ck__law_same _) hB (fun z => nomatch z) ?_ (Nat.le_refl _)
      simp only [b__law_same, calSs, calS, calE, calEs, calO, calSrc, true_and, and_true]
      repeat' (first | assumption | exact GFb.mono (by assumption) (by omega) | apply And.intro)
  have g0 := g0 7
  have g1 : GFb l.prog w K mg base [tt20, tt23] 6 "_law_gcd" f__law_gcd := gf_den (lv := 0) V1 m1 B1 _ false sc__law_gcd rfl rfl (ck__law_gcd) hB (fun z => nomatch z) (by first | (simp only [b__law_gcd, calSs, calS, calE, calEs, calO, calSrc, true_and, and_true]; done) | (simp only [b__law_gcd, calSs, calS, calE, calEs, calO, calSrc, true_and, and_true]; repeat' (first | assumption | exact GFb.mono (by assumption) (by decide) | exact GKb.mono (by assumption) (by decide) | apply And.intro))) (Nat.le_refl _)
  have g2 : GFb l.prog w K mg base [tt20, tt23] 12 "_law_fr" f__law_fr := gf_den (lv := 6) V2 m2 B2 _ false sc__law_fr rfl rfl (ck__law_fr _) hB (fun z => nomatch z) (by first | (simp only [b__law_fr, calSs, calS, calE, calEs, calO, calSrc, true_and, and_true]; done) | (simp only [b__law_fr, calSs, calS, calE, calEs, calO, calSrc, true_and, and_true]; repeat' (first | assumption | exact GFb.mono (by assumption) (by decide) | exact GKb.mono (by assumption) (by decide) | apply And.intro))) (Nat.le_refl _)
  have g3 : GFb l.prog w K mg base [tt20, tt23] 18 "_law_plus" f__law_plus := gf_den (lv := 12) V3 m3 B3 _ false sc__law_plus rfl rfl (ck__law_plus _) hB (fun z => nomatch z) (by first | (simp only [b__law_plus, calSs, calS, calE, calEs, calO, calSrc, true_and, and_true]; done) | (simp only [b__law_plus, calSs, calS, calE, calEs, calO, calSrc, true_and, and_true]; repeat' (first | assumption | exact GFb.mono (by assumption) (by decide) | exact GKb.mono (by assumption) (by decide) | apply And.intro))) (Nat.le_refl _)
  have g4 : GFb l.prog w K mg base [tt20, tt23] 18 "_law_times" f__law_times := gf_den (lv := 12) V4 m4 B4 _ false sc__law_times rfl rfl (ck__law_times _) hB (fun z => nomatch z) (by first | (simp only [b__law_times, calSs, calS, calE, calEs, calO, calSrc, true_and, and_true]; done) | (simp only [b__law_times, calSs, calS, calE, calEs, calO, calSrc, true_and, and_true]; repeat' (first | assumption | exact GFb.mono (by assumption) (by decide) | exact GKb.mono (by assumption) (by decide) | apply And.intro))) (Nat.le_refl _)
  have g5 : GFb l.prog w K mg base [tt20, tt23] 24 "_law_bounds" f__law_bounds := gf_den (lv := 18) V5 m5 B5 _ false sc__law_bounds rfl rfl (ck__law_bounds _ _) hB (fun z => nomatch z) (by first | (simp only [b__law_bounds, calSs, calS, calE, calEs, calO, calSrc, true_and, and_true]; done) | (simp only [b__law_bounds, calSs, calS, calE, calEs, calO, calSrc, true_and, and_true]; repeat' (first | assumption | exact GFb.mono (by assumption) (by decide) | exact GKb.mono (by assumption) (by decide) | apply And.intro))) (Nat.le_refl _)
  have g6 : GFb l.prog w K mg base [tt20, tt23] 6 "divisor" f_divisor := gf_den (lv := 0) V6 m6 B6 _ false sc_divisor rfl rfl (ck_divisor) hB (fun z => nomatch z) (by first | (simp only [b_divisor, calSs, calS, calE, calEs, calO, calSrc, true_and, and_true]; done) | (simp only [b_divisor, calSs, calS, calE, calEs, calO, calSrc, true_and, and_true]; repeat' (first | assumption | exact GFb.mono (by assumption) (by decide) | exact GKb.mono (by assumption) (by decide) | apply And.intro))) (Nat.le_refl _)
  have g7 : GFb l.prog w K mg base [tt20, tt23] 12 "lowest" f_lowest := gf_den (lv := 6) V7 m7 B7 _ false sc_lowest rfl rfl (ck_lowest _) hB (fun z => nomatch z) (by first | (simp only [b_lowest, calSs, calS, calE, calEs, calO, calSrc, true_and, and_true]; done) | (simp only [b_lowest, calSs, calS, calE, calEs, calO, calSrc, true_and, and_true]; repeat' (first | assumption | exact GFb.mono (by assumption) (by decide) | exact GKb.mono (by assumption) (by decide) | apply And.intro))) (Nat.le_refl _)
  have g8 : GFb l.prog w K mg base [tt20, tt23] 18 "plus" f_plus := gf_den (lv := 12) V8 m8 B8 _ false sc_plus rfl rfl (ck_plus _) hB (fun z => nomatch z) (by first | (simp only [b_plus, calSs, calS, calE, calEs, calO, calSrc, true_and, and_true]; done) | (simp only [b_plus, calSs, calS, calE, calEs, calO, calSrc, true_and, and_true]; repeat' (first | assumption | exact GFb.mono (by assumption) (by decide) | exact GKb.mono (by assumption) (by decide) | apply And.intro))) (Nat.le_refl _)
  have g9 : GFb l.prog w K mg base [tt20, tt23] 6 "is_less" f_is_less := gf_den (lv := 0) V9 m9 B9 _ false sc_is_less rfl rfl (ck_is_less) hB (fun z => nomatch z) (by first | (simp only [b_is_less, calSs, calS, calE, calEs, calO, calSrc, true_and, and_true]; done) | (simp only [b_is_less, calSs, calS, calE, calEs, calO, calSrc, true_and, and_true]; repeat' (first | assumption | exact GFb.mono (by assumption) (by decide) | exact GKb.mono (by assumption) (by decide) | apply And.intro))) (Nat.le_refl _)
  have g10 : GFb l.prog w K mg base [tt20, tt23] 12 "greater_of" f_greater_of := gf_den (lv := 6) V10 m10 B10 _ false sc_greater_of rfl rfl (ck_greater_of _) hB (fun z => nomatch z) (by first | (simp only [b_greater_of, calSs, calS, calE, calEs, calO, calSrc, true_and, and_true]; done) | (simp only [b_greater_of, calSs, calS, calE, calEs, calO, calSrc, true_and, and_true]; repeat' (first | assumption | exact GFb.mono (by assumption) (by decide) | exact GKb.mono (by assumption) (by decide) | apply And.intro))) (Nat.le_refl _)
  have g11 : GFb l.prog w K mg base [tt20, tt23] 18 "product" f_product := gf_den (lv := 12) V11 m11 B11 _ false sc_product rfl rfl (ck_product _) hB (fun z => nomatch z) (by first | (simp only [b_product, calSs, calS, calE, calEs, calO, calSrc, true_and, and_true]; done) | (simp only [b_product, calSs, calS, calE, calEs, calO, calSrc, true_and, and_true]; repeat' (first | assumption | exact GFb.mono (by assumption) (by decide) | exact GKb.mono (by assumption) (by decide) | apply And.intro))) (Nat.le_refl _)
  have g12 : GFb l.prog w K mg base [tt20, tt23] 24 "inner_bounds" f_inner_bounds := gf_den (lv := 18) V12 m12 B12 _ false sc_inner_bounds rfl rfl (ck_inner_bounds _ _ _ _) hB (fun z => nomatch z) (by first | (simp only [b_inner_bounds, calSs, calS, calE, calEs, calO, calSrc, true_and, and_true]; done) | (simp only [b_inner_bounds, calSs, calS, calE, calEs, calO, calSrc, true_and, and_true]; repeat' (first | assumption | exact GFb.mono (by assumption) (by decide) | exact GKb.mono (by assumption) (by decide) | apply And.intro))) (Nat.le_refl _)
  have gk12_1_0 : GKb l.prog w K mg base [tt20, tt23] 24 "inner_bounds" f_inner_bounds 0 ["box", "net"] [1, 0] := gk_den (lv := 18) V12 m12 (fun _ _ _ _ _ _ us ws h1 h2 => match us, ws, h1, h2 with | [], [_, _], _, _ => rfl) _ false sc_inner_bounds rfl rfl (ck_inner_bounds _ _ _ _) hB (fun z => nomatch z) (by first | (simp only [b_inner_bounds, calSs, calS, calE, calEs, calO, calSrc, true_and, and_true]; done) | (simp only [b_inner_bounds, calSs, calS, calE, calEs, calO, calSrc, true_and, and_true]; repeat' (first | assumption | exact GFb.mono (by assumption) (by decide) | exact GKb.mono (by assumption) (by decide) | apply And.intro))) (Nat.le_refl _)
  have g13 : GFb l.prog w K mg base [tt20, tt23] 6 "_law_draw" f__law_draw := gf_den (lv := 0) V13 m13 B13 _ false sc__law_draw rfl rfl (ck__law_draw) hB (fun z => nomatch z) (by first | (simp only [b__law_draw, calSs, calS, calE, calEs, calO, calSrc, true_and, and_true]; done) | (simp only [b__law_draw, calSs, calS, calE, calEs, calO, calSrc, true_and, and_true]; repeat' (first | assumption | exact GFb.mono (by assumption) (by decide) | exact GKb.mono (by assumption) (by decide) | apply And.intro))) (Nat.le_refl _)
  have g14 : GFb l.prog w K mg base [tt20, tt23] 12 "_law_pick" f__law_pick := gf_den (lv := 6) V14 m14 B14 _ false sc__law_pick rfl rfl (ck__law_pick _) hB (fun z => nomatch z) (by first | (simp only [b__law_pick, calSs, calS, calE, calEs, calO, calSrc, true_and, and_true]; done) | (simp only [b__law_pick, calSs, calS, calE, calEs, calO, calSrc, true_and, and_true]; repeat' (first | assumption | exact GFb.mono (by assumption) (by decide) | exact GKb.mono (by assumption) (by decide) | apply And.intro))) (Nat.le_refl _)
  have g15 : GFb l.prog w K mg base [tt20, tt23] 18 "_law_draw_fr" f__law_draw_fr := gf_den (lv := 12) V15 m15 B15 _ false sc__law_draw_fr rfl rfl (ck__law_draw_fr _ _ _) hB (fun z => nomatch z) (by first | (simp only [b__law_draw_fr, calSs, calS, calE, calEs, calO, calSrc, true_and, and_true]; done) | (simp only [b__law_draw_fr, calSs, calS, calE, calEs, calO, calSrc, true_and, and_true]; repeat' (first | assumption | exact GFb.mono (by assumption) (by decide) | exact GKb.mono (by assumption) (by decide) | apply And.intro))) (Nat.le_refl _)
  have g16 : GFb l.prog w K mg base [tt20, tt23] 24 "_law_box" f__law_box := gf_den (lv := 18) V16 m16 B16 _ false sc__law_box rfl rfl (ck__law_box _ _ _) hB (fun z => nomatch z) (by first | (simp only [b__law_box, calSs, calS, calE, calEs, calO, calSrc, true_and, and_true]; done) | (simp only [b__law_box, calSs, calS, calE, calEs, calO, calSrc, true_and, and_true]; repeat' (first | assumption | exact GFb.mono (by assumption) (by decide) | exact GKb.mono (by assumption) (by decide) | apply And.intro))) (Nat.le_refl _)
  have g17 : GFb l.prog w K mg base [tt20, tt23] 24 "_law_dot" f__law_dot := gf_den (lv := 18) V17 m17 B17 _ false sc__law_dot rfl rfl (ck__law_dot _ _) hB (fun z => nomatch z) (by first | (simp only [b__law_dot, calSs, calS, calE, calEs, calO, calSrc, true_and, and_true]; done) | (simp only [b__law_dot, calSs, calS, calE, calEs, calO, calSrc, true_and, and_true]; repeat' (first | assumption | exact GFb.mono (by assumption) (by decide) | exact GKb.mono (by assumption) (by decide) | apply And.intro))) (Nat.le_refl _)
  have g18 : GFb l.prog w K mg base [tt20, tt23] 30 "_law_answer" f__law_answer := gf_den (lv := 24) V18 m18 B18 _ false sc__law_answer rfl rfl (ck__law_answer _ _ _) hB (fun z => nomatch z) (by first | (simp only [b__law_answer, calSs, calS, calE, calEs, calO, calSrc, true_and, and_true]; done) | (simp only [b__law_answer, calSs, calS, calE, calEs, calO, calSrc, true_and, and_true]; repeat' (first | assumption | exact GFb.mono (by assumption) (by decide) | exact GKb.mono (by assumption) (by decide) | apply And.intro))) (Nat.le_refl _)
  have g19 : GFb l.prog w K mg base [tt20, tt23] 24 "_law_draw_row" f__law_draw_row := gf_den (lv := 18) V19 m19 B19 _ false sc__law_draw_row rfl rfl (ck__law_draw_row _) hB (fun z => nomatch z) (by first | (simp only [b__law_draw_row, calSs, calS, calE, calEs, calO, calSrc, true_and, and_true]; done) | (simp only [b__law_draw_row, calSs, calS, calE, calEs, calO, calSrc, true_and, and_true]; repeat' (first | assumption | exact GFb.mono (by assumption) (by decide) | exact GKb.mono (by assumption) (by decide) | apply And.intro))) (Nat.le_refl _)
  have g20 : GFb l.prog w K mg base [tt20, tt23] 24 "scaled_row" f_scaled_row := gf_den (lv := 18) V20 m20 B20 _ true sc_scaled_row rfl rfl (ck_scaled_row _) hB (fun _ => ⟨cc20, tt20, rfl, T20, by simp⟩) (by first | (simp only [b_scaled_row, calSs, calS, calE, calEs, calO, calSrc, true_and, and_true]; done) | (simp only [b_scaled_row, calSs, calS, calE, calEs, calO, calSrc, true_and, and_true]; repeat' (first | assumption | exact GFb.mono (by assumption) (by decide) | exact GKb.mono (by assumption) (by decide) | apply And.intro))) (Nat.le_refl _)
  have g21 : GFb l.prog w K mg base [tt20, tt23] 12 "multiple" f_multiple := gf_den (lv := 6) V21 m21 B21 _ false sc_multiple rfl rfl (ck_multiple _) hB (fun z => nomatch z) (by first | (simp only [b_multiple, calSs, calS, calE, calEs, calO, calSrc, true_and, and_true]; done) | (simp only [b_multiple, calSs, calS, calE, calEs, calO, calSrc, true_and, and_true]; repeat' (first | assumption | exact GFb.mono (by assumption) (by decide) | exact GKb.mono (by assumption) (by decide) | apply And.intro))) (Nat.le_refl _)
  have g22 : GFb l.prog w K mg base [tt20, tt23] 18 "common_below" f_common_below := gf_den (lv := 12) V22 m22 B22 _ false sc_common_below rfl rfl (ck_common_below _) hB (fun z => nomatch z) (by first | (simp only [b_common_below, calSs, calS, calE, calEs, calO, calSrc, true_and, and_true]; done) | (simp only [b_common_below, calSs, calS, calE, calEs, calO, calSrc, true_and, and_true]; repeat' (first | assumption | exact GFb.mono (by assumption) (by decide) | exact GKb.mono (by assumption) (by decide) | apply And.intro))) (Nat.le_refl _)
  have g23 : GFb l.prog w K mg base [tt20, tt23] 30 "as_whole" f_as_whole := gf_den (lv := 24) V23 m23 B23 _ true sc_as_whole rfl rfl (ck_as_whole _ _ _ _) hB (fun _ => ⟨cc23, tt23, rfl, T23, by simp⟩) (by first | (simp only [b_as_whole, calSs, calS, calE, calEs, calO, calSrc, true_and, and_true]; done) | (simp only [b_as_whole, calSs, calS, calE, calEs, calO, calSrc, true_and, and_true]; repeat' (first | assumption | exact GFb.mono (by assumption) (by decide) | exact GKb.mono (by assumption) (by decide) | apply And.intro))) (Nat.le_refl _)
  have gk23_0 : GKb l.prog w K mg base [tt20, tt23] 30 "as_whole" f_as_whole 0 ["net"] [0] := gk_den (lv := 24) V23 m23 (fun _ _ _ _ _ _ us ws h1 h2 => match us, ws, h1, h2 with | [], [_], _, _ => rfl) _ true sc_as_whole rfl rfl (ck_as_whole _ _ _ _) hB (fun _ => ⟨cc23, tt23, rfl, T23, by simp⟩) (by first | (simp only [b_as_whole, calSs, calS, calE, calEs, calO, calSrc, true_and, and_true]; done) | (simp only [b_as_whole, calSs, calS, calE, calEs, calO, calSrc, true_and, and_true]; repeat' (first | assumption | exact GFb.mono (by assumption) (by decide) | exact GKb.mono (by assumption) (by decide) | apply And.intro))) (Nat.le_refl _)
  have g24 : GFb l.prog w K mg base [tt20, tt23] 24 "_law_taken" f__law_taken := gf_den (lv := 18) V24 m24 B24 _ false sc__law_taken rfl rfl (ck__law_taken _) hB (fun z => nomatch z) (by first | (simp only [b__law_taken, calSs, calS, calE, calEs, calO, calSrc, true_and, and_true]; done) | (simp only [b__law_taken, calSs, calS, calE, calEs, calO, calSrc, true_and, and_true]; repeat' (first | assumption | exact GFb.mono (by assumption) (by decide) | exact GKb.mono (by assumption) (by decide) | apply And.intro))) (Nat.le_refl _)
  have g25 : GFb l.prog w K mg base [tt20, tt23] 12 "_law_times_all" f__law_times_all := gf_den (lv := 6) V25 m25 B25 _ false sc__law_times_all rfl rfl (ck__law_times_all _) hB (fun z => nomatch z) (by first | (simp only [b__law_times_all, calSs, calS, calE, calEs, calO, calSrc, true_and, and_true]; done) | (simp only [b__law_times_all, calSs, calS, calE, calEs, calO, calSrc, true_and, and_true]; repeat' (first | assumption | exact GFb.mono (by assumption) (by decide) | exact GKb.mono (by assumption) (by decide) | apply And.intro))) (Nat.le_refl _)
  have g26 : GFb l.prog w K mg base [tt20, tt23] 30 "_law_whole" f__law_whole := gf_den (lv := 24) V26 m26 B26 _ false sc__law_whole rfl rfl (ck__law_whole _ _ _) hB (fun z => nomatch z) (by first | (simp only [b__law_whole, calSs, calS, calE, calEs, calO, calSrc, true_and, and_true]; done) | (simp only [b__law_whole, calSs, calS, calE, calEs, calO, calSrc, true_and, and_true]; repeat' (first | assumption | exact GFb.mono (by assumption) (by decide) | exact GKb.mono (by assumption) (by decide) | apply And.intro))) (Nat.le_refl _)
  have g27 : GFb l.prog w K mg base [tt20, tt23] 30 "_law_net" f__law_net := gf_den (lv := 24) V27 m27 B27 _ false sc__law_net rfl rfl (ck__law_net _ _ _ _ _ _) hB (fun z => nomatch z) (by first | (simp only [b__law_net, calSs, calS, calE, calEs, calO, calSrc, true_and, and_true]; done) | (simp only [b__law_net, calSs, calS, calE, calEs, calO, calSrc, true_and, and_true]; repeat' (first | assumption | exact GFb.mono (by assumption) (by decide) | exact GKb.mono (by assumption) (by decide) | apply And.intro))) (Nat.le_refl _)
  have g28 : GFb l.prog w K mg base [tt20, tt23] 6 "_law_bag" f__law_bag := gf_den (lv := 0) V28 m28 B28 _ false sc__law_bag rfl rfl (ck__law_bag) hB (fun z => nomatch z) (by first | (simp only [b__law_bag, calSs, calS, calE, calEs, calO, calSrc, true_and, and_true]; done) | (simp only [b__law_bag, calSs, calS, calE, calEs, calO, calSrc, true_and, and_true]; repeat' (first | assumption | exact GFb.mono (by assumption) (by decide) | exact GKb.mono (by assumption) (by decide) | apply And.intro))) (Nat.le_refl _)
  exact fn_den V29 _ false sc_law rfl rfl (ck_law _ _ _ _ _ _ _ _ _ _ _ _ _) hB (fun z => nomatch z) (by first | (simp only [b_law, calSs, calS, calE, calEs, calO, calSrc, true_and, and_true]; done) | (simp only [b_law, calSs, calS, calE, calEs, calO, calSrc, true_and, and_true]; repeat' (first | assumption | exact GFb.mono (by assumption) (by decide) | exact GKb.mono (by assumption) (by decide) | apply And.intro)))
end Law
end
section
set_option maxRecDepth 100000
set_option Elab.async false
namespace Law
open Calc
theorem law_den : LawDen f_law 63 := fun ns h _ => law_den0 ns h
end Law
-- END
open PySem PySem.W PyProof.Rows
set_option maxHeartbeats 0 in
theorem PySem.Challenge.cw_hingelayer_k75_whole_numbers_and_bounds_holds : PySem.Challenge.rw_hingelayer_k75_whole_numbers_and_bounds.Holds := by
  w_on; o_law; k_head; (case hw => w_witness2)
  k_fill
  refine Calc.walk_tabs (l := PySem.Challenge.rw_hingelayer_k75_whole_numbers_and_bounds) (n := 63) (k := 48) (x := "script") rfl (by decide) rfl ⟨rfl, by decide, by decide⟩ (fun w h Y => PySem.W.kIn_of Y) ?F
  case F =>
    intro w mg fa h KX G hmg
    refine' Law.facts Law.law_den KX G hmg ?a0 ?l0 ?c0 ?k0 ?a1 ?l1 ?c1 ?k1 ?a2 ?l2 ?c2 ?k2 ?a3 ?l3 ?c3 ?k3 ?a4 ?l4 ?c4 ?k4 ?a5 ?l5 ?c5 ?k5 ?a6 ?l6 ?c6 ?k6 ?a7 ?l7 ?c7 ?k7 ?a8 ?l8 ?c8 ?k8 ?a9 ?l9 ?c9 ?k9 ?a10 ?l10 ?c10 ?k10 ?a11 ?l11 ?c11 ?k11 ?a12 ?l12 ?c12 ?k12 ?a13 ?l13 ?c13 ?k13 ?a14 ?l14 ?c14 ?k14 ?a15 ?l15 ?c15 ?k15 ?a16 ?l16 ?c16 ?k16 ?a17 ?l17 ?c17 ?k17 ?a18 ?l18 ?c18 ?k18 ?a19 ?l19 ?c19 ?k19 ?a20 ?l20 ?c20 ?k20 ?r20 ?t20 ?u20 ?a21 ?l21 ?c21 ?k21 ?a22 ?l22 ?c22 ?k22 ?a23 ?l23 ?c23 ?k23 ?r23 ?t23 ?u23 ?a24 ?l24 ?c24 ?k24 ?a25 ?l25 ?c25 ?k25 ?a26 ?l26 ?c26 ?k26 ?a27 ?l27 ?c27 ?k27 ?a28 ?l28 ?c28 ?k28 ?a29 ?l29 ?c29 ?k29 ?z0 ?z1 ?z2 ?z3 ?z4 ?z5 ?z6 ?z7 ?z8 ?z9 ?z10 ?z11 ?z12
    (case a0 => k_is); (case l0 => k_is); (case c0 => k_is); (case k0 => k_is); (case a1 => k_is); (case l1 => k_is); (case c1 => k_is); (case k1 => k_is); (case a2 => k_is); (case l2 => k_is); (case c2 => k_is); (case k2 => k_is); (case a3 => k_is); (case l3 => k_is); (case c3 => k_is); (case k3 => k_is); (case a4 => k_is); (case l4 => k_is); (case c4 => k_is); (case k4 => k_is); (case a5 => k_is); (case l5 => k_is); (case c5 => k_is); (case k5 => k_is); (case a6 => k_is); (case l6 => k_is); (case c6 => k_is); (case k6 => k_is); (case a7 => k_is); (case l7 => k_is); (case c7 => k_is); (case k7 => k_is); (case a8 => k_is); (case l8 => k_is); (case c8 => k_is); (case k8 => k_is); (case a9 => k_is); (case l9 => k_is); (case c9 => k_is); (case k9 => k_is); (case a10 => k_is); (case l10 => k_is); (case c10 => k_is); (case k10 => k_is); (case a11 => k_is); (case l11 => k_is); (case c11 => k_is); (case k11 => k_is); (case a12 => k_is); (case l12 => k_is); (case c12 => k_is); (case k12 => k_is); (case a13 => k_is); (case l13 => k_is); (case c13 => k_is); (case k13 => k_is); (case a14 => k_is); (case l14 => k_is); (case c14 => k_is); (case k14 => k_is); (case a15 => k_is); (case l15 => k_is); (case c15 => k_is); (case k15 => k_is); (case a16 => k_is); (case l16 => k_is); (case c16 => k_is); (case k16 => k_is); (case a17 => k_is); (case l17 => k_is); (case c17 => k_is); (case k17 => k_is); (case a18 => k_is); (case l18 => k_is); (case c18 => k_is); (case k18 => k_is); (case a19 => k_is); (case l19 => k_is); (case c19 => k_is); (case k19 => k_is); (case a20 => k_is); (case l20 => k_is); (case c20 => k_is); (case k20 => k_is); (case r20 => exact rfl); (case t20 => first | k_is | with_unfolding_all exact rfl); (case u20 => first | k_is | kernel_rfl); (case a21 => k_is); (case l21 => k_is); (case c21 => k_is); (case k21 => k_is); (case a22 => k_is); (case l22 => k_is); (case c22 => k_is); (case k22 => k_is); (case a23 => k_is); (case l23 => k_is); (case c23 => k_is); (case k23 => k_is); (case r23 => exact rfl); (case t23 => first | k_is | with_unfolding_all exact rfl); (case u23 => first | k_is | kernel_rfl); (case a24 => k_is); (case l24 => k_is); (case c24 => k_is); (case k24 => k_is); (case a25 => k_is); (case l25 => k_is); (case c25 => k_is); (case k25 => k_is); (case a26 => k_is); (case l26 => k_is); (case c26 => k_is); (case k26 => k_is); (case a27 => k_is); (case l27 => k_is); (case c27 => k_is); (case k27 => k_is); (case a28 => k_is); (case l28 => k_is); (case c28 => k_is); (case k28 => k_is); (case a29 => k_is); (case l29 => k_is); (case c29 => k_is); (case k29 => k_is); (case z0 => k_is); (case z1 => k_is); (case z2 => k_is); (case z3 => k_is); (case z4 => k_is); (case z5 => k_is); (case z6 => k_is); (case z7 => k_is); (case z8 => k_is); (case z9 => k_is); (case z10 => k_is); (case z11 => k_is); (case z12 => k_is)
end
