import PyProof.Rows.All
import Wide.All
import OpenK.AllK
import Wide.FinOn
import HandS.ForMost
import HandS.ForExc
import HandS.IsInst
import HandS.ExcIs
import HandS.TryMany
import HandS.SortInts
import HandS.Wide
import HandS.Style
import HandS.TryOnly
import HandS.Dict
import PyProof.MaxThree
import HandS.ExcOwn
import HandS.Small
import HandS.Text
import HandS.RaiseMore
import PyProof.StrBlock2
import HandS.More
import HandS.SetFor
import HandS.Strs
import HandS.TupAny
import HandS.HeadWalk
import HandS.Conv
import HandS.TupMul
import KE.KDictDisplayH
import KE.KDictCopyH
import PySem.Challenge.RW_turnrows_k49_whole_two_rows
set_option Elab.async false
set_option linter.all false
set_option maxRecDepth 100000
/-! T: own syntax of the defs, its meaning over plain data as weakest preconditions. -/
namespace T
open PySem L2

/-- plain data; ref: something that is tracked in the map of cells -/
inductive D where
  | non | bl (b : Bool) | int (i : Int) | str (s : Str) | lst (l : List D) | tup (l : List D) | ref (a : Addr)
  /-- a list that is handed in from outside: read, never changed -/
  | scr (l : List D)
  /-- a def of the top as a value -/
  | fnm (x : Str)

/-- what a reference leads to: a list of two whole numbers of which nothing is known; a list that may be changed -/
inductive Cell where
  /-- lim: the second one is small -/
  | pot (lim : Bool)
  | lst (l : List D)
  /-- an exception that was caught: its class -/
  | exc (c : Str)
  /-- an instance of a class of the text: its fields -/
  | ins (c : Str) (fs : List (Str × D))
  /-- a dict by whole numbers and texts -/
  | dct (kvs : List (Key × D))
  /-- a dict by tuples of truths, each of which leads to True -/
  | bdt (ks : List (List Bool))

abbrev Mp := Addr → Option Cell
def mset (M : Mp) (a : Addr) (c : Cell) : Mp := fun b => if b = a then some c else M b
def mdel (M : Mp) (a : Addr) : Mp := fun b => if b = a then none else M b
theorem mset_same {M : Mp} {a : Addr} {c : Cell} : mset M a c a = some c := by unfold mset; rw [if_pos rfl]
theorem mset_ne {M : Mp} {a b : Addr} {c : Cell} (h : b ≠ a) : mset M a c b = M b := by unfold mset; rw [if_neg h]
theorem mset_mset {M : Mp} {a : Addr} {c d : Cell} : mset (mset M a c) a d = mset M a d := by
  funext b; unfold mset; split <;> rfl

abbrev DK := D → Mp → Prop
abbrev XP := Str → Mp → Prop
abbrev Spec := List D → Mp → DK → XP → Prop
abbrev Env := List (Option D)
def nth : Env → Nat → Option D
  | [], _ => none
  | x :: _, 0 => x
  | _ :: l, n + 1 => nth l n
def put : Env → Nat → Option D → Env
  | [], _, _ => []
  | _ :: l, 0, d => d :: l
  | x :: l, n + 1, d => x :: put l n d
def wipeE (ρ : Env) : List Nat → Env
  | [] => ρ
  | v :: vs => put (wipeE ρ vs) v none

/-! ### data -/
mutual
def D.py : D → PyData
  | .non => .none
  | .bl b => .bool b
  | .int i => .int i
  | .str s => .str s
  | .lst l => .list (D.pys l)
  | .tup l => .tuple (D.pys l)
  | .ref _ => .none
  | .scr _ => .none
  | .fnm _ => .none
def D.pys : List D → List PyData
  | [] => []
  | x :: l => D.py x :: D.pys l
end
mutual
/-- no reference within -/
def D.pure : D → Bool
  | .lst l => D.pures l
  | .tup l => D.pures l
  | .ref _ => false
  | .scr _ => false
  | .fnm _ => false
  | .non => true
  | .bl _ => true
  | .int _ => true
  | .str _ => true
def D.pures : List D → Bool
  | [] => true
  | x :: l => D.pure x && D.pures l
end
/-- may be compared by == -/
def D.eqok (d : D) : Bool := d.pure && SeqAt.shaped d.py
def D.eqv (a b : D) : Bool := PyData.eqv a.py b.py
/-- a flat value -/
def D.v : D → V
  | .non => .non
  | .bl b => .bl b
  | .int i => .int i
  | .str s => .str s
  | .lst _ => .non
  | .tup _ => .non
  | .ref a => .ref a
  | .scr _ => .non
  | .fnm _ => .non
def D.flat : D → Bool
  | .non => true
  | .bl _ => true
  | .int _ => true
  | .str _ => true
  | .lst _ => false
  | .tup _ => false
  | .ref _ => false
  | .scr _ => false
  | .fnm _ => false
def intsOf : List D → Option (List Int)
  | [] => some []
  | .int i :: l => (intsOf l).map (i :: ·)
  | _ :: _ => none
def strsOf : List D → Option (List Str)
  | [] => some []
  | .str i :: l => (strsOf l).map (i :: ·)
  | _ :: _ => none
def blsOf : List D → Option (List Bool)
  | [] => some []
  | .bl i :: l => (blsOf l).map (i :: ·)
  | _ :: _ => none
theorem blsOf_map : ∀ ns : List Bool, blsOf (ns.map D.bl) = some ns
  | [] => rfl
  | i :: l => by
    show (blsOf (l.map D.bl)).map (i :: ·) = _
    rw [blsOf_map l]; rfl
theorem intsOf_map : ∀ ns : List Int, intsOf (ns.map D.int) = some ns
  | [] => rfl
  | i :: l => by
    show (intsOf (l.map D.int)).map (i :: ·) = _
    rw [intsOf_map l]; rfl
theorem strsOf_map : ∀ ns : List Str, strsOf (ns.map D.str) = some ns
  | [] => rfl
  | i :: l => by
    show (strsOf (l.map D.str)).map (i :: ·) = _
    rw [strsOf_map l]; rfl

/-! ### syntax -/
inductive BOp where
  | add | sub | mul | mulW | fdiv | fdivW | mod | modN | pow | shl | shr | band | bor | bxor | catS | repS
inductive UOp where
  | neg | inv
inductive COp where
  | lt | le | gt | ge | eq | ne | inn | nin | inS | ninS
/-- built-ins that tell a plain value -/
inductive BF where
  | len | min2 | max2 | min3 | max3 | abs | int | str | sum | maxL
mutual
inductive E where
  | var (i : Nat) | int (i : Int) | str (s : Str) | bl (b : Bool) | non
  | bin (o : BOp) (a b : E) | un (o : UOp) (a : E)
  | cmp (o : COp) (a b : E) | ch2 (o1 o2 : COp) (a b c : E) | ch3 (o1 o2 o3 : COp) (a b c d : E)
  | isN (neg : Bool) (a : E)
  | and (a b : E) | or (a b : E) | one (a : E) | not (a : E)
  | ite (c a b : E)
  | idx (a b : E) | slc (m : Bool) (a : E) (lo hi : A)
  | tup (as : A) | lst (m : Bool) (as : A)
  | cat (m : Bool) (a b : E) | rep (m : Bool) (a b : E) | catT (a b : E)
  | cpy (m : Bool) (a : E) | srt (m : Bool) (a : E)
  | call (g : Str) (F : Spec) (as : A)
  | blt (f : BF) (as : A)
  | isi (a : E) (ty : String)
  | comp (m : Bool) (own : List (Str × Nat)) (tg : List Nat) (tup : Bool) (it : I) (c : A) (e : E)
  | frz (a : E)
  | isB (neg v : Bool) (a : E)
  /-- a display of a dict of which one item is asked at once -/
  | dsp (ks : List Key) (vs : A) (a : E)
  | rev (m : Bool) (a : E)
  | cnt (v : Bool) (a : E)
  | glb (x : Str) (d : D)
  /-- sorted(set(a)) -/
  | sset (m : Bool) (a : E)
  /-- a[lo::2] -/
  | stp (m : Bool) (a : E) (lo : A)
  /-- a tuple and a tuple, empty ones too -/
  | catA (a b : E)
  /-- isinstance(a, (t, u)) -/
  | isi2 (a : E) (ty ty2 : String)
  /-- a.f, a an instance of the class c -/
  | fld (c f : Str) (a : E)
  /-- a.m(..) -/
  | meth (c m : Str) (F : Spec) (a : E) (as : A)
  /-- c(..), c a class of the text -/
  | make (c : Str) (F : Spec) (as : A)
  /-- isinstance(a, cl), a an exception of one of the classes cs, or None -/
  | isE (cs : List Str) (cl : Str) (a : E)
  /-- .. of one of the classes cls -/
  | isEs (cs cls : List Str) (a : E)
  /-- a.pop() -/
  | popE (a : E)
  | fnv (x : Str)
  /-- a call of what stands at a name -/
  | callV (i : Nat) (Fs : List (Str × Spec)) (as : A)
  /-- a dict that is displayed -/
  | dlit (ks : List Key) (vs : A)
  /-- d[k]; k in d -/
  | dget (a b : E) | dhas (neg : Bool) (a b : E)
  | lrg (a b : E) (c : Int)
  | join (a b : E) | splt (m : Bool) (a b : E)
  /-- a.upper() -/
  | upp (a : E)
  /-- d.get(k, x) -/
  | dgetd (a b c : E)
  /-- {k: v}, k any expression -/
  | dl1 (a b : E)
  /-- list(d), d a dict -/
  | dkeys (m : Bool) (a : E)
  /-- a tuple cut -/
  | slcT (a : E) (lo hi : A)
  /-- a tuple repeated; tuple(a), a list; dict(a), a list of pairs; sorted(d) -/
  | repT (a b : E) | tupO (a : E) | dictP (a : E) | srtk (m : Bool) (a : E)
  /-- {k: True}, k a tuple of truths; k not in d -/
  | bl1 (a b : E) | bnot (a b : E)
  /-- a in X, X[a]: X a dict of the top, from texts to truths -/
  | kin (x : Str) (kvs : List (Str × Bool)) (a : E) | kget (x : Str) (kvs : List (Str × Bool)) (a : E)
inductive A where
  | nil | cons (e : E) (as : A)
inductive I where
  | r1 (a : E) | r2 (a b : E) | r3 (a b : E) (c : Int) | lst (a : E) | tup (a : E) | enum (a : E) | str (a : E)
end
mutual
inductive S where
  | asg (i : Nat) (e : E) | asgC (i : Nat) (e : E) | asgT (is : List Nat) (e : E)
  | setI (i : Nat) (x : E) (e : E)
  | aug (i : Nat) (o : BOp) (e : E)
  | exp (e : E) | app (i : Nat) (e : E) | ext (i : Nat) (e : E)
  | pop (i : Nat) | popTo (j i : Nat) | rem (i : Nat) (e : E) | clr (i : Nat)
  | ret (e : E) | ite (c : E) (a b : B)
  | loop (tg : List Nat) (tup : Bool) (it : I) (b : B) | whl (c : E) (b : B)
  | rais (c : Str)
  | retN
  | asgL (is : List Nat) (e : E)
  | pass
  /-- self.f = e -/
  | setF (c f : Str) (i : Nat) (e : E)
  /-- a.append(e), a an item or a field -/
  | appE (a e : E)
  /-- try: .. except RowError as i: j = [isinstance(i, ..), ..]; j = j + [..]; j.append(not isinstance(i, ..)) -/
  | tryT (cs : List Str) (b : B) (i j : Nat) (l1 l2 : List Str) (l3 : Str)
  /-- try: .. except RowError as i: j = i -/
  | tryK (cs : List Str) (b : B) (i j : Nat)
  /-- d[k] = e, a dict -/
  | setK (a k e : E)
  /-- d[k] = True, k a tuple of truths -/
  | setB (a k e : E)
  /-- try: .. except c: j = None -/
  | tryO (c : Str) (b : B) (j : Nat)
inductive B where
  | nil | cons (s : S) (b : B)
  /-- nothing in the text: the list at a name is changed no more -/
  | frz (i : Nat) (b : B)
end

/-! ### meaning -/
/-- what stands behind a list that may be changed -/
def vw (M : Mp) : D → D
  | .ref a => match M a with
    | some (.lst l) => .lst l
    | _ => .ref a
  | .scr l => .lst l
  | d => d
/-- the same, but of what is handed in -/
def sw (M : Mp) : D → D
  | .ref a => match M a with
    | some (.lst l) => .lst l
    | _ => .ref a
  | d => d
def bop : BOp → D → D → (D → Prop) → Prop
  | .add, .int i, .int j, k => k (.int (i + j))
  | .sub, .int i, .int j, k => k (.int (i - j))
  | .mul, .int i, .int j, k => CMul i j ∧ k (.int (i * j))
  | .mulW, .int i, .int j, k => CMulW i j ∧ k (.int (i * j))
  | .fdiv, .int i, .int j, k => CDiv i j ∧ k (.int (i / j))
  | .fdivW, .int i, .int j, k => CDivW i j ∧ k (.int (i / j))
  | .mod, .int i, .int j, k => 0 < j ∧ k (.int (i % j))
  | .modN, .int i, .int j, k => j ≠ 0 ∧ k (.int (i.fmod j))
  | .pow, .int i, .int j, k => CPow i j ∧ k (.int (i ^ j.toNat))
  | .shl, .int i, .int j, k => CPow i j ∧ k (.int (i * 2 ^ j.toNat))
  | .shr, .int i, .int j, k => 0 ≤ j ∧ k (.int (i / 2 ^ j.toNat))
  | .band, .int i, .int j, k => k (.int (Builtin.bitAnd i j))
  | .bor, .int i, .int j, k => k (.int (Builtin.bitOr i j))
  | .bxor, .int i, .int j, k => k (.int (Builtin.bitXor i j))
  | .catS, .str s, .str t, k => s.length + t.length ≤ sizeLine ∧ k (.str (s ++ t))
  | .repS, .str s, .int j, k => (-(2 ^ 63) ≤ j ∧ j < 2 ^ 63 ∧ s.length * j.toNat ≤ sizeLine) ∧ k (.str (PySem.Txt.mul s j))
  | _, _, _, _ => False
def uop : UOp → D → (D → Prop) → Prop
  | .neg, .int i, k => k (.int (-i))
  | .inv, .int i, k => k (.int (Builtin.bitNot i))
  | _, _, _ => False
def cop : COp → D → D → (Bool → Prop) → Prop
  | .lt, .int i, .int j, k => k (decide (i < j))
  | .le, .int i, .int j, k => k (decide (i ≤ j))
  | .gt, .int i, .int j, k => k (decide (j < i))
  | .ge, .int i, .int j, k => k (decide (j ≤ i))
  | .eq, a, b, k => (a.eqok = true ∧ b.eqok = true) ∧ k (D.eqv a b)
  | .ne, a, b, k => (a.eqok = true ∧ b.eqok = true) ∧ k (!D.eqv a b)
  | .inn, x, .lst l, k => (x.flat = true ∧ l.all D.flat = true) ∧ k (inV x.v (l.map D.v))
  | .inn, x, .tup l, k => (x.flat = true ∧ l.all D.flat = true) ∧ k (inV x.v (l.map D.v))
  | .nin, x, .lst l, k => (x.flat = true ∧ l.all D.flat = true) ∧ k (!inV x.v (l.map D.v))
  | .nin, x, .tup l, k => (x.flat = true ∧ l.all D.flat = true) ∧ k (!inV x.v (l.map D.v))
  | .inS, .str w, .str z, k => ∃ c, w = ⟨#[c]⟩ ∧ k (decide (c ∈ z.cps.toList))
  | .ninS, .str w, .str z, k => ∃ c, w = ⟨#[c]⟩ ∧ k (!decide (c ∈ z.cps.toList))
  | _, _, _, _ => False
def bf1 : BF → D → (D → Prop) → Prop
  | .len, .lst l, k => k (.int l.length)
  | .len, .tup l, k => k (.int l.length)
  | .len, .str s, k => s.length ≤ sizeLine ∧ k (.int s.length)
  | .abs, .int i, k => k (.int (if i < 0 then -i else i))
  | .int, .int i, k => k (.int i)
  | .int, .bl b, k => k (.int (if b = true then 1 else 0))
  | .str, .int i, k => i.natAbs.log2 < 1920 ∧ k (.str (toString i))
  | .str, .str s, k => k (.str s)
  | .int, .str s, k => ∃ n, PySem.intText? s = some n ∧ s.length ≤ 640 ∧ k (.int n)
  | .sum, .lst l, k => ∃ ns, intsOf l = some ns ∧ k (.int ns.sum)
  | .maxL, .lst l, k => ∃ ns, intsOf l = some ns ∧ 0 < ns.length ∧ ∀ m, m ∈ ns → (∀ y, y ∈ ns → y ≤ m) → k (.int m)
  | _, _, _ => False
def bf2 : BF → D → D → (D → Prop) → Prop
  | .min2, .int i, .int j, k => k (.int (if j < i then j else i))
  | .max2, .int i, .int j, k => k (.int (if j > i then j else i))
  | _, _, _, _ => False
def bf3 : BF → D → D → D → (D → Prop) → Prop
  | .min3, .int a, .int b, .int c, k => k (.int (if b < a then (if c < b then c else b) else (if c < a then c else a)))
  | .max3, .int a, .int b, .int c, k => k (.int (if b > a then (if c > b then c else b) else (if c > a then c else a)))
  | _, _, _, _, _ => False
def bfn (f : BF) (l : List D) (k : D → Prop) : Prop :=
  match l with
  | [d] => bf1 f d k
  | [d, e] => bf2 f d e k
  | [d, e, g] => bf3 f d e g k
  | _ => False
/-- is an exception of the class c one of cl -/
def excSub (c cl : Str) : Bool := decide (c = cl) || decide (cl = "RowError") || decide (cl = "ValueError")
def excAny (c : Str) (cls : List Str) : Bool := cls.any (excSub c)
def flags (c : Str) (l1 l2 : List Str) (l3 : Str) : List D := (l1 ++ l2).map (fun cl => D.bl (excSub c cl)) ++ [.bl (!excSub c l3)]
def putA {α β : Type} [DecidableEq α] (f : α) (v : β) : List (α × β) → List (α × β)
  | [] => [(f, v)]
  | (g, x) :: r => if g = f then (g, v) :: r else (g, x) :: putA f v r
def putM {α β : Type} [DecidableEq α] (f : α) (v : β) (kvs : List (α × β)) : List (α × β) :=
  if (kvs.any fun kv => decide (kv.1 = f)) = true then kvs.map (fun kv => if kv.1 = f then (kv.1, v) else kv) else kvs ++ [(f, v)]
def getA {α β : Type} [DecidableEq α] (f : α) : List (α × β) → Option β
  | [] => none
  | (g, x) :: r => if g = f then some x else getA f r
def isBv (neg v t : Bool) : Bool := if neg = true then !decide (t = v) else decide (t = v)
/-- a key is this value -/
def hit : Key → D → Bool
  | .inl i, .int j => decide (i = j)
  | .inr s, .str t => decide (s = t)
  | _, _ => false
def dget : List Key → List D → D → Option D
  | k :: ks, d :: ds, x => if hit k x = true then some d else dget ks ds x
  | _, _, _ => none
/-- the name of a value's type -/
def D.ty : D → Option String
  | .non => some "NoneType"
  | .bl _ => some "bool"
  | .int _ => some "int"
  | .str _ => some "str"
  | .lst _ => some "list"
  | .tup _ => some "tuple"
  | .ref _ => none
  | .scr _ => none
  | .fnm _ => none
/-- a[i] -/
def ixD : D → D → (D → Prop) → Prop
  | .lst l, .int i, k => ∃ d, atI l i = some d ∧ k d
  | .tup l, .int i, k => ∃ d, atI l i = some d ∧ k d
  | .str z, .int i, k => ∃ c, (z.length ≤ sizeLine ∧ atI z.cps.toList i = some c) ∧ k (.str ⟨#[c]⟩)
  | _, _, _ => False
def Small (lim : Bool) (n : Int) : Prop := lim = true → 0 ≤ n ∧ n < 2147483648
/-- a[i], a one of the lists of two whole numbers -/
def ixP (M : Mp) (a i : D) (k : D → Prop) : Prop :=
  match a, i with
  | .ref p, .int j => match M p with
    | some (.pot lim) => (j = 0 ∧ ∀ n : Int, k (.int n)) ∨ (j = 1 ∧ ∀ n : Int, Small lim n → k (.int n))
    | some (.lst l) => ixD (.lst l) (.int j) k
    | _ => False
  | .scr l, i => ixD (.lst l) i k
  | a, i => ixD a i k
/-- a field of an instance of the class c -/
def fldD (M : Mp) (d : D) (c f : Str) (k : D → Prop) : Prop :=
  match d with
  | .ref p => match M p with
    | some (.ins c' fs) => c' = c ∧ ∃ y, getA f fs = some y ∧ k y
    | _ => False
  | _ => False
/-- an instance of the class c without an own m -/
def noF (M : Mp) (d : D) (c m : Str) : Prop :=
  match d with
  | .ref p => match M p with
    | some (.ins c' fs) => c' = c ∧ getA m fs = none
    | _ => False
  | _ => False
/-- None, or an exception of one of the classes cs -/
def excD (M : Mp) (cs : List Str) (d : D) (f : Str → Bool) (k : Bool → Prop) : Prop :=
  match d with
  | .non => k false
  | .ref p => match M p with
    | some (.exc c) => c ∈ cs ∧ k (f c)
    | _ => False
  | _ => False
/-- a key -/
def keyD : D → Option Key
  | .int i => some (.inl i)
  | .str s => some (.inr s)
  | _ => none
def dctD (M : Mp) (d : D) (k : List (Key × D) → Prop) : Prop :=
  match d with
  | .ref p => match M p with
    | some (.dct kvs) => k kvs
    | _ => False
  | _ => False
def bdtD (M : Mp) (d : D) (k : List (List Bool) → Prop) : Prop :=
  match d with
  | .ref p => match M p with
    | some (.bdt ks) => k ks
    | _ => False
  | _ => False
/-- what a table of texts holds -/
def lkB (z : Str) : List (Str × Bool) → Option Bool
  | [] => none
  | (x, b) :: l => if x = z then some b else lkB z l
/-- dict(..) of pairs -/
def mergeM {α β : Type} [DecidableEq α] (acc more : List (α × β)) : List (α × β) := more.foldl (fun acc kv => putM kv.1 kv.2 acc) acc
def specOf : List (Str × Spec) → Str → Option Spec
  | [], _ => none
  | (y, F) :: l, x => if y = x then some F else specOf l x
/-- the items of a range with a step -/
def rangeN (i j c : Int) : Nat := if 0 < c then ((j - i + c - 1) / c).toNat else ((i - j - c - 1) / -c).toNat
def rangeS (i j c : Int) : List D := (List.range (rangeN i j c)).map fun n => D.int (i + (n : Nat) * c)
def cutD (xs : List D) (lo hi : Option Int) : List D := (xs.drop (HT.sIx xs.length 0 lo)).take (HT.sIx xs.length xs.length hi - HT.sIx xs.length 0 lo)
/-- a new list: one that may be changed (m), or one that stays -/
def newL (m : Bool) (l : List D) (M : Mp) (k : DK) : Prop :=
  match m with
  | true => ∀ a, M a = none → k (.ref a) (mset M a (.lst l))
  | false => k (.lst l) M
def slD (m : Bool) (d : D) (lo hi : Option Int) (M : Mp) (k : DK) : Prop :=
  match d with
  | .lst l => newL m (cutD l lo hi) M k
  | .tup l => ¬ (HT.sIx l.length 0 lo = 0 ∧ HT.sIx l.length l.length hi = l.length) ∧ k (.tup (cutD l lo hi)) M
  | .str s => s.length ≤ sizeLine ∧ k (.str (cutS s lo hi)) M
  | _ => False
def asBl (d : D) (k : Bool → Prop) : Prop :=
  match d with
  | .bl b => k b
  | _ => False
def asInt (d : D) (k : Int → Prop) : Prop :=
  match d with
  | .int b => k b
  | _ => False
def asL (d : D) (k : List D → Prop) : Prop :=
  match d with
  | .lst b => k b
  | _ => False
def asT (d : D) (k : List D → Prop) : Prop :=
  match d with
  | .tup b => k b
  | _ => False
/-- a loop's target: one name; the names of a tuple -/
def target (ρ : Env) : List Nat → Bool → D → (Env → Prop) → Prop
  | [i], false, d, k => k (put ρ i (some d))
  | is, true, .tup l, k => is.length = l.length ∧ k ((is.zip l).foldl (fun r p => put r p.1 (some p.2)) ρ)
  | _, _, _, _ => False
def rangeD (i j : Int) : List D := (List.range (j - i).toNat).map fun n => D.int (i + (n : Nat))
/-- the signs of a text -/
def signsD (s : Str) : List D := s.cps.toList.map fun c => D.str ⟨#[c]⟩
/-- a key as a value -/
def keyV : Key → D
  | .inl i => .int i
  | .inr s => .str s
def enumD (l : List D) : List D := l.zipIdx.map fun p => D.tup [.int (p.2 : Nat), p.1]
def inB (i : Int) : Prop := -(2 ^ 62) ≤ i ∧ i < 2 ^ 62
/-- the turns of a comprehension; g: what is walked stands -/
def turns (g : Mp → Prop) (step : D → Mp → (Option D → Mp → Prop) → Prop) : List D → List D → Mp → (List D → Mp → Prop) → Prop
  | [], acc, M, k => g M ∧ k acc M
  | x :: xs, acc, M, k => g M ∧ step x M fun o M1 => match o with
    | some d => turns g step xs (acc ++ [d]) M1 k
    | none => turns g step xs acc M1 k
/-- the turns of a for -/
def floop (g : Mp → Prop) (step : D → Env → Mp → (Env → Mp → Prop) → Prop) : List D → Env → Mp → (Env → Mp → Prop) → Prop
  | [], ρ, M, n => g M ∧ n ρ M
  | x :: xs, ρ, M, n => g M ∧ step x ρ M fun ρ1 M1 => floop g step xs ρ1 M1 n
/-- at most so many turns of a while -/
def wloop (test : Env → Mp → (Bool → Mp → Prop) → Prop) (step : Env → Mp → (Env → Mp → Prop) → Prop) (n : Env → Mp → Prop) : Nat → Env → Mp → Prop
  | 0, _, _ => False
  | f + 1, ρ, M => test ρ M fun b M1 => if b = true then step ρ M1 (wloop test step n f) else n ρ M1
/-- what a list that is walked must be at each turn -/
def evens {α : Type} : List α → List α
  | [] => []
  | [a] => [a]
  | a :: _ :: l => a :: evens l
def guardD (M : Mp) : D → Mp → Prop
  | .ref a => fun M1 => M1 a = M a
  | _ => fun _ => True
/-- the last item of a list goes -/
def popD (M : Mp) (a : D) (k : DK) : Prop :=
  match a with
  | .ref p => match M p with
    | some (.lst l) => ∃ d, l[l.length - 1]? = some d ∧ k d (mset M p (.lst l.dropLast))
    | _ => False
  | _ => False
mutual
def wpE : E → Env → Mp → DK → XP → Prop
  | .var i, ρ, M, k, _ => match nth ρ i with
    | some d => k d M
    | none => False
  | .int i, _, M, k, _ => k (.int i) M
  | .str s, _, M, k, _ => k (.str s) M
  | .bl b, _, M, k, _ => k (.bl b) M
  | .non, _, M, k, _ => k .non M
  | .bin o a b, ρ, M, k, x => wpE a ρ M (fun d1 M1 => wpE b ρ M1 (fun d2 M2 => bop o d1 d2 fun d => k d M2) x) x
  | .un o a, ρ, M, k, x => wpE a ρ M (fun d1 M1 => uop o d1 fun d => k d M1) x
  | .cmp o a b, ρ, M, k, x => wpE a ρ M (fun d1 M1 => wpE b ρ M1 (fun d2 M2 => cop o (vw M2 d1) (vw M2 d2) fun d => k (.bl d) M2) x) x
  | .ch2 o1 o2 a b c, ρ, M, k, x => wpE a ρ M (fun d1 M1 => wpE b ρ M1 (fun d2 M2 => cop o1 d1 d2 fun t =>
      if t = true then wpE c ρ M2 (fun d3 M3 => cop o2 d2 d3 fun d => k (.bl d) M3) x else k (.bl false) M2) x) x
  | .ch3 o1 o2 o3 a b c e, ρ, M, k, x => wpE a ρ M (fun d1 M1 => wpE b ρ M1 (fun d2 M2 => cop o1 d1 d2 fun t =>
      if t = true then wpE c ρ M2 (fun d3 M3 => cop o2 d2 d3 fun t =>
        if t = true then wpE e ρ M3 (fun d4 M4 => cop o3 d3 d4 fun d => k (.bl d) M4) x else k (.bl false) M3) x else k (.bl false) M2) x) x
  | .isN neg a, ρ, M, k, x => wpE a ρ M (fun d M1 => match d with
    | .non => k (.bl (!neg)) M1
    | _ => k (.bl neg) M1) x
  | .and a b, ρ, M, k, x => wpE a ρ M (fun d M1 => asBl d fun t => if t = true then wpE b ρ M1 k x else k (.bl false) M1) x
  | .or a b, ρ, M, k, x => wpE a ρ M (fun d M1 => asBl d fun t => if t = true then k (.bl true) M1 else wpE b ρ M1 k x) x
  | .one a, ρ, M, k, x => wpE a ρ M k x
  | .not a, ρ, M, k, x => wpE a ρ M (fun d M1 => asBl d fun t => k (.bl (!t)) M1) x
  | .ite c a b, ρ, M, k, x => wpE c ρ M (fun d M1 => asBl d fun t => if t = true then wpE a ρ M1 k x else wpE b ρ M1 k x) x
  | .idx a b, ρ, M, k, x => wpE a ρ M (fun d1 M1 => wpE b ρ M1 (fun d2 M2 => ixP M2 d1 d2 fun d => k d M2) x) x
  | .slc m a lo hi, ρ, M, k, x => wpE a ρ M (fun d1 M1 => wpO lo ρ M1 (fun l M2 => wpO hi ρ M2 (fun h M3 => slD m (vw M3 d1) l h M3 k) x) x) x
  | .tup as, ρ, M, k, x => wpA as ρ M (fun ds M1 => ds.length ≤ sizeLine ∧ k (.tup ds) M1) x
  | .lst m as, ρ, M, k, x => wpA as ρ M (fun ds M1 => ds.length ≤ sizeLine ∧ newL m ds M1 k) x
  | .cat m a b, ρ, M, k, x => wpE a ρ M (fun d1 M1 => wpE b ρ M1 (fun d2 M2 => asL (sw M2 d1) fun l1 => asL (sw M2 d2) fun l2 =>
      l1.length + l2.length ≤ sizeLine ∧ newL m (l1 ++ l2) M2 k) x) x
  | .rep m a b, ρ, M, k, x => wpE a ρ M (fun d1 M1 => wpE b ρ M1 (fun d2 M2 => asL (sw M2 d1) fun l => asInt d2 fun j =>
      (-(2 ^ 63) ≤ j ∧ j < 2 ^ 63 ∧ l.length * j.toNat ≤ sizeLine) ∧ newL m (List.replicate j.toNat l).flatten M2 k) x) x
  | .catT a b, ρ, M, k, x => wpE a ρ M (fun d1 M1 => wpE b ρ M1 (fun d2 M2 => asT d1 fun l1 => asT d2 fun l2 =>
      (l1 ≠ [] ∧ l2 ≠ [] ∧ l1.length + l2.length ≤ sizeLine) ∧ k (.tup (l1 ++ l2)) M2) x) x
  | .cpy m a, ρ, M, k, x => wpE a ρ M (fun d M1 => match vw M1 d with
    | .lst l => newL m l M1 k
    | .tup l => newL m l M1 k
    | _ => False) x
  | .srt m a, ρ, M, k, x => wpE a ρ M (fun d M1 => asL (vw M1 d) fun l => ∃ ns, intsOf l = some ns ∧
      ∀ ms : List Int, ms.Perm ns → ms.Pairwise (· ≤ ·) → newL m (ms.map D.int) M1 k) x
  | .call _ F as, ρ, M, k, x => wpA as ρ M (fun ds M1 => F ds M1 k x) x
  | .blt f as, ρ, M, k, x => wpA as ρ M (fun ds M1 => bfn f (ds.map (vw M1)) fun d => k d M1) x
  | .isi a ty, ρ, M, k, x => wpE a ρ M (fun d M1 => ∃ t b, (vw M1 d).ty = some t ∧ kitB t ty = some b ∧ k (.bl b) M1) x
  | .comp m own tg tup it c e, ρ, M, k, x => wpI it ρ M (fun ds g M1 => ds.length ≤ sizeLine ∧
      turns g (fun d M2 q => target (wipeE ρ (own.map (·.2))) tg tup d fun ρ2 => wpT c ρ2 M2 fun b M3 =>
        if b = true then wpE e ρ2 M3 (fun y M4 => q (some y) M4) (fun _ _ => False) else q none M3) ds [] M1 fun l M2 => newL m l M2 k) x
  | .frz a, ρ, M, k, x => wpE a ρ M (fun d M1 => match d with
    | .ref p => match M1 p with
      | some (.lst l) => k (.lst l) (mdel M1 p)
      | _ => False
    | d => k d M1) x
  | .isB neg v a, ρ, M, k, x => wpE a ρ M (fun d M1 => asBl d fun t => k (.bl (isBv neg v t)) M1) x
  | .dsp ks vs a, ρ, M, k, x => wpA vs ρ M (fun ds M1 => wpE a ρ M1 (fun d M2 => ∃ y, dget ks ds d = some y ∧ k y M2) x) x
  | .rev m a, ρ, M, k, x => wpE a ρ M (fun d M1 => asL (vw M1 d) fun l => newL m l.reverse M1 k) x
  | .cnt v a, ρ, M, k, x => wpE a ρ M (fun d M1 => asL (vw M1 d) fun l => ∃ bs, blsOf l = some bs ∧ k (.int (bs.count v : Nat)) M1) x
  | .glb _ d, _, M, k, _ => k d M
  | .sset m a, ρ, M, k, x => wpE a ρ M (fun d M1 => asL (vw M1 d) fun l => ∃ ns, intsOf l = some ns ∧ ns.length ≤ 4000 ∧
      ∀ out : List Int, out.Pairwise (· < ·) → (∀ j : Int, j ∈ out ↔ j ∈ ns) → newL m (out.map D.int) M1 k) x
  | .stp m a lo, ρ, M, k, x => wpE a ρ M (fun d1 M1 => wpO lo ρ M1 (fun o M2 => ∃ i, o = some i ∧ 0 ≤ i ∧ asL (vw M2 d1) fun l => newL m (evens (l.drop i.toNat)) M2 k) x) x
  | .catA a b, ρ, M, k, x => wpE a ρ M (fun d1 M1 => wpE b ρ M1 (fun d2 M2 => asT d1 fun l1 => asT d2 fun l2 => l1.length + l2.length ≤ sizeLine ∧ k (.tup (l1 ++ l2)) M2) x) x
  | .isi2 a ty ty2, ρ, M, k, x => wpE a ρ M (fun d M1 => ∃ t b b2, (vw M1 d).ty = some t ∧ kitB t ty = some b ∧ kitB t ty2 = some b2 ∧ k (.bl (b || b2)) M1) x
  | .fld c f a, ρ, M, k, x => wpE a ρ M (fun d M1 => fldD M1 d c f fun y => k y M1) x
  | .meth c m F a as, ρ, M, k, x => wpE a ρ M (fun d M1 => noF M1 d c m ∧ wpA as ρ M1 (fun ds M2 => F (d :: ds) M2 k x) x) x
  | .make c F as, ρ, M, k, x => wpA as ρ M (fun ds M1 => ∀ a, M1 a = none → F (.ref a :: ds) (mset M1 a (.ins c [])) (fun d M2 => d = .non ∧ k (.ref a) M2) x) x
  | .isE cs cl a, ρ, M, k, x => wpE a ρ M (fun d M1 => excD M1 cs d (fun c => excSub c cl) fun b => k (.bl b) M1) x
  | .isEs cs cls a, ρ, M, k, x => wpE a ρ M (fun d M1 => excD M1 cs d (fun c => excAny c cls) fun b => k (.bl b) M1) x
  | .popE a, ρ, M, k, x => wpE a ρ M (fun d M1 => popD M1 d k) x
  | .fnv x, _, M, k, _ => k (.fnm x) M
  | .callV i Fs as, ρ, M, k, x => ∃ g F, nth ρ i = some (.fnm g) ∧ specOf Fs g = some F ∧ wpA as ρ M (fun ds M1 => F ds M1 k x) x
  | .dlit ks vs, ρ, M, k, x => wpA vs ρ M (fun ds M1 => ∀ a, M1 a = none → k (.ref a) (mset M1 a (.dct (ks.zip ds)))) x
  | .dget a b, ρ, M, k, x => wpE a ρ M (fun d M1 => wpE b ρ M1 (fun d2 M2 => dctD M2 d fun kvs => ∃ y v, keyD d2 = some y ∧ getA y kvs = some v ∧ k v M2) x) x
  | .dhas neg a b, ρ, M, k, x => wpE a ρ M (fun d M1 => wpE b ρ M1 (fun d2 M2 => dctD M2 d2 fun kvs => ∃ y, keyD d = some y ∧ k (.bl (if neg = true then !(getA y kvs).isSome else (getA y kvs).isSome)) M2) x) x
  | .join a b, ρ, M, k, x => wpE a ρ M (fun d M1 => ∃ s, d = .str s ∧ wpE b ρ M1 (fun d2 M2 => asL (vw M2 d2) fun l => ∃ ys, strsOf l = some ys ∧
      (ys.map (·.length)).sum + ys.length * s.length ≤ 16777216 ∧ k (.str (PySem.Txt.join s ys)) M2) x) x
  | .splt m a b, ρ, M, k, x => wpE a ρ M (fun d M1 => ∃ s, d = .str s ∧ wpE b ρ M1 (fun d2 M2 => ∃ t, d2 = .str t ∧ ((t.length == 0) = false ∧ s.length + 2 ≤ sizeLine) ∧ newL m ((PySem.Txt.split s t).map .str) M2 k) x) x
  | .upp a, ρ, M, k, x => wpE a ρ M (fun d M1 => ∃ s, d = .str s ∧ s.length ≤ 5592405 ∧ k (.str (PySem.Txt.upper s)) M1) x
  | .dgetd a b c, ρ, M, k, x => wpE a ρ M (fun d M1 => (dctD M1 d fun _ => True) ∧ wpE b ρ M1 (fun d2 M2 => wpE c ρ M2 (fun d3 M3 => dctD M3 d fun kvs => ∃ y, keyD d2 = some y ∧ k ((getA y kvs).getD d3) M3) x) x) x
  | .dl1 a b, ρ, M, k, x => wpE a ρ M (fun d1 M1 => wpE b ρ M1 (fun d2 M2 => ∃ y, keyD d1 = some y ∧ ∀ p, M2 p = none → k (.ref p) (mset M2 p (.dct [(y, d2)]))) x) x
  | .dkeys m a, ρ, M, k, x => wpE a ρ M (fun d M1 => dctD M1 d fun kvs => newL m (kvs.map fun kv => keyV kv.1) M1 k) x
  | .slcT a lo hi, ρ, M, k, x => wpE a ρ M (fun d1 M1 => wpO lo ρ M1 (fun l M2 => wpO hi ρ M2 (fun h M3 => asT d1 fun xs => k (.tup (cutD xs l h)) M3) x) x) x
  | .repT a b, ρ, M, k, x => wpE a ρ M (fun d1 M1 => wpE b ρ M1 (fun d2 M2 => asT d1 fun l => asInt d2 fun j => (l ≠ [] ∧ 1 ≤ j ∧ j ≤ 1000 ∧ l.length ≤ 1000) ∧ k (.tup (List.replicate j.toNat l).flatten) M2) x) x
  | .tupO a, ρ, M, k, x => wpE a ρ M (fun d M1 => asL (vw M1 d) fun l => k (.tup l) M1) x
  | .dictP a, ρ, M, k, x => wpE a ρ M (fun d M1 => asL (vw M1 d) fun l => ∃ kvs : List (Key × D), l = kvs.map (fun kv => D.tup [keyV kv.1, kv.2]) ∧ ∀ p, M1 p = none → k (.ref p) (mset M1 p (.dct (mergeM [] kvs)))) x
  | .srtk m a, ρ, M, k, x => wpE a ρ M (fun d M1 => dctD M1 d fun kvs => ∃ ns : List Int, kvs.map (·.1) = ns.map Sum.inl ∧ ns.length ≤ 100000 ∧
      ∀ ms : List Int, ms.Perm ns → ms.Pairwise (· ≤ ·) → newL m (ms.map D.int) M1 k) x
  | .kin _ kvs a, ρ, M, k, x => wpE a ρ M (fun d M1 => ∃ s, d = .str s ∧ k (.bl (lkB s kvs).isSome) M1) x
  | .kget _ kvs a, ρ, M, k, x => wpE a ρ M (fun d M1 => ∃ s b, d = .str s ∧ lkB s kvs = some b ∧ k (.bl b) M1) x
  | .bl1 a b, ρ, M, k, x => wpE a ρ M (fun d1 M1 => wpE b ρ M1 (fun d2 M2 => ∃ bs : List Bool, d1 = .tup (bs.map .bl) ∧ d2 = .bl true ∧ ∀ p, M2 p = none → k (.ref p) (mset M2 p (.bdt [bs]))) x) x
  | .bnot a b, ρ, M, k, x => wpE a ρ M (fun d1 M1 => wpE b ρ M1 (fun d2 M2 => bdtD M2 d2 fun ks => ∃ bs : List Bool, d1 = .tup (bs.map .bl) ∧ k (.bl (!decide (bs ∈ ks))) M2) x) x
  | .lrg a b c, ρ, M, k, x => wpE a ρ M (fun d M1 => wpE b ρ M1 (fun d2 M2 => asInt d fun i => asInt d2 fun j =>
      (c ≠ 0 ∧ -1000 ≤ c ∧ c < 1000 ∧ -1000000 ≤ i ∧ i < 1000000 ∧ -1000000 ≤ j ∧ j < 1000000) ∧ k (.lst (rangeS i j c)) M2) x) x
/-- a part of a slice -/
def wpO : A → Env → Mp → (Option Int → Mp → Prop) → XP → Prop
  | .nil, _, M, k, _ => k none M
  | .cons e _, ρ, M, k, x => wpE e ρ M (fun d M1 => asInt d fun i => k (some i) M1) x
/-- a comprehension's test: none, or one -/
def wpT : A → Env → Mp → (Bool → Mp → Prop) → Prop
  | .nil, _, M, k => k true M
  | .cons c _, ρ, M, k => wpE c ρ M (fun d M1 => asBl d fun b => k b M1) (fun _ _ => False)
def wpA : A → Env → Mp → (List D → Mp → Prop) → XP → Prop
  | .nil, _, M, k, _ => k [] M
  | .cons e as, ρ, M, k, x => wpE e ρ M (fun d M1 => wpA as ρ M1 (fun ds M2 => k (d :: ds) M2) x) x
def wpI : I → Env → Mp → (List D → (Mp → Prop) → Mp → Prop) → XP → Prop
  | .r1 a, ρ, M, k, x => wpE a ρ M (fun d M1 => asInt d fun j => inB j ∧ k (rangeD 0 j) (fun _ => True) M1) x
  | .r2 a b, ρ, M, k, x => wpE a ρ M (fun d M1 => wpE b ρ M1 (fun d2 M2 => asInt d fun i => asInt d2 fun j =>
      (inB i ∧ inB j) ∧ k (rangeD i j) (fun _ => True) M2) x) x
  | .r3 a b c, ρ, M, k, x => wpE a ρ M (fun d M1 => wpE b ρ M1 (fun d2 M2 => asInt d fun i => asInt d2 fun j =>
      (c ≠ 0 ∧ -1000 ≤ c ∧ c < 1000 ∧ -1000000 ≤ i ∧ i < 1000000 ∧ -1000000 ≤ j ∧ j < 1000000) ∧ k (rangeS i j c) (fun _ => True) M2) x) x
  | .lst a, ρ, M, k, x => wpE a ρ M (fun d M1 => asL (vw M1 d) fun l => k l (guardD M1 d) M1) x
  | .tup a, ρ, M, k, x => wpE a ρ M (fun d M1 => asT d fun l => k l (fun _ => True) M1) x
  | .enum a, ρ, M, k, x => wpE a ρ M (fun d M1 => asL (vw M1 d) fun l => k (enumD l) (guardD M1 d) M1) x
  | .str a, ρ, M, k, x => wpE a ρ M (fun d M1 => ∃ s, d = .str s ∧ k (signsD s) (fun _ => True) M1) x
end
/-- put a value into the map at a name's list -/
def setD (M : Mp) (a i d : D) (k : Mp → Prop) : Prop :=
  match a, i with
  | .ref p, .int j => match M p with
    | some (.pot lim) => (j = 0 ∧ asInt d fun _ => k M) ∨ (j = 1 ∧ asInt d fun n => Small lim n ∧ k M)
    | some (.lst l) => ∃ n, ixN l.length j = some n ∧ k (mset M p (.lst (l.set n d)))
    | _ => False
  | _, _ => False
def appD (M : Mp) (a : D) (ds : List D) (k : Mp → Prop) : Prop :=
  match a with
  | .ref p => match M p with
    | some (.lst l) => l.length + ds.length ≤ 1000000 ∧ k (mset M p (.lst (l ++ ds)))
    | _ => False
  | _ => False
/-- a field is stored -/
def setFD (M : Mp) (a : D) (c f : Str) (d : D) (k : Mp → Prop) : Prop :=
  match a with
  | .ref p => match M p with
    | some (.ins c' fs) => c' = c ∧ fs.length < 1000 ∧ k (mset M p (.ins c (putA f d fs)))
    | _ => False
  | _ => False
/-- an item of a dict is stored -/
def setKD (M : Mp) (a y d : D) (k : Mp → Prop) : Prop :=
  match a with
  | .ref p => match M p with
    | some (.dct kvs) => ∃ key, keyD y = some key ∧ kvs.length < 1000000 ∧ k (mset M p (.dct (putM key d kvs)))
    | _ => False
  | _ => False
def setBD (M : Mp) (a y d : D) (k : Mp → Prop) : Prop :=
  match a with
  | .ref p => match M p with
    | some (.bdt ks) => ∃ bs : List Bool, y = .tup (bs.map .bl) ∧ d = .bl true ∧ bs ∉ ks ∧ ks.length < 1000000 ∧ k (mset M p (.bdt (ks ++ [bs])))
    | _ => False
  | _ => False
def clrD (M : Mp) (a : D) (k : Mp → Prop) : Prop :=
  match a with
  | .ref p => match M p with
    | some (.lst _) => k (mset M p (.lst []))
    | _ => False
  | _ => False
/-- the first of the items, all whole numbers, that is d -/
def remD (M : Mp) (a d : D) (k : Mp → Prop) : Prop :=
  match a, d with
  | .ref p, .int z => match M p with
    | some (.lst l) => ∃ ns j, intsOf l = some ns ∧ ns[j]? = some z ∧ (∀ m : Nat, m < j → ns[m]? ≠ some z) ∧ k (mset M p (.lst ((ns.eraseIdx j).map D.int)))
    | _ => False
  | _, _ => False
/-- a list that may be changed -/
def isL (M : Mp) (a : D) : Prop :=
  match a with
  | .ref p => match M p with
    | some (.lst _) => True
    | _ => False
  | _ => False
def frzD (M : Mp) (d : D) (k : DK) : Prop :=
  match d with
  | .ref p => match M p with
    | some (.lst l) => k (.lst l) (mdel M p)
    | _ => False
  | _ => False
abbrev NK := Env → Mp → Prop
abbrev XS := Str → Env → Mp → Prop
def atV (ρ : Env) (i : Nat) (k : D → Prop) : Prop :=
  match nth ρ i with
  | some d => k d
  | none => False
mutual
def wpS : S → Env → Mp → NK → DK → XS → Prop
  | .asg i e, ρ, M, n, _, x => wpE e ρ M (fun d M1 => n (put ρ i (some d)) M1) (fun c => x c ρ)
  | .asgC i e, ρ, M, n, _, x => wpE e ρ M (fun d M1 => n (put ρ i (some d)) M1) (fun c => x c ρ)
  | .asgT is e, ρ, M, n, _, x => wpE e ρ M (fun d M1 => target ρ is true d fun ρ1 => n ρ1 M1) (fun c => x c ρ)
  | .setI i j e, ρ, M, n, _, x => wpE e ρ M (fun d M1 => atV ρ i fun a => wpE j ρ M1 (fun dj M2 => setD M2 a dj d fun M3 => n ρ M3) (fun c => x c ρ)) (fun c => x c ρ)
  | .aug i o e, ρ, M, n, _, x => atV ρ i fun a => wpE e ρ M (fun d M1 => bop o a d fun z => n (put ρ i (some z)) M1) (fun c => x c ρ)
  | .exp e, ρ, M, n, _, x => wpE e ρ M (fun _ M1 => n ρ M1) (fun c => x c ρ)
  | .app i e, ρ, M, n, _, x => atV ρ i fun a => isL M a ∧ wpE e ρ M (fun d M1 => appD M1 a [d] fun M2 => n ρ M2) (fun c => x c ρ)
  | .ext i e, ρ, M, n, _, x => atV ρ i fun a => isL M a ∧ wpE e ρ M (fun d M1 => asL (sw M1 d) fun l => appD M1 a l fun M2 => n ρ M2) (fun c => x c ρ)
  | .pop i, ρ, M, n, _, _ => atV ρ i fun a => popD M a fun _ M1 => n ρ M1
  | .popTo j i, ρ, M, n, _, _ => atV ρ i fun a => popD M a fun d M1 => n (put ρ j (some d)) M1
  | .rem i e, ρ, M, n, _, x => atV ρ i fun a => isL M a ∧ wpE e ρ M (fun d M1 => remD M1 a d fun M2 => n ρ M2) (fun c => x c ρ)
  | .clr i, ρ, M, n, _, _ => atV ρ i fun a => clrD M a fun M1 => n ρ M1
  | .ret e, ρ, M, _, r, x => wpE e ρ M r (fun c => x c ρ)
  | .ite c a b, ρ, M, n, r, x => wpE c ρ M (fun d M1 => asBl d fun t => if t = true then wpB a ρ M1 n r x else wpB b ρ M1 n r x) (fun c => x c ρ)
  | .loop tg tup it b, ρ, M, n, r, x => wpI it ρ M (fun ds g M1 => floop g (fun d ρ1 M2 n1 => target ρ1 tg tup d fun ρ2 => wpB b ρ2 M2 n1 r x) ds ρ M1 n) (fun c => x c ρ)
  | .whl c b, ρ, M, n, r, x => ∃ f, wloop (fun ρ1 M1 q => wpE c ρ1 M1 (fun d M2 => asBl d fun t => q t M2) (fun c => x c ρ1)) (fun ρ1 M1 n1 => wpB b ρ1 M1 n1 r x) n f ρ M
  | .rais c, ρ, M, _, _, x => x c ρ M
  | .retN, _, M, _, r, _ => r .non M
  | .asgL is e, ρ, M, n, _, x => wpE e ρ M (fun d M1 => asL (vw M1 d) fun l => target ρ is true (.tup l) fun ρ1 => n ρ1 M1) (fun c => x c ρ)
  | .pass, ρ, M, n, _, _ => n ρ M
  | .setF c f i e, ρ, M, n, _, x => wpE e ρ M (fun d M1 => atV ρ i fun a => setFD M1 a c f d fun M2 => n ρ M2) (fun c => x c ρ)
  | .appE a e, ρ, M, n, _, x => wpE a ρ M (fun d M1 => isL M1 d ∧ wpE e ρ M1 (fun d2 M2 => appD M2 d [d2] fun M3 => n ρ M3) (fun c => x c ρ)) (fun c => x c ρ)
  | .tryT cs b i j l1 l2 l3, ρ, M, n, r, _ => wpB b ρ M n r (fun c ρ' M' => c ∈ cs ∧ ∀ a, M' a = none → n (put (put ρ' j (some (.ref a))) i none) (mset M' a (.lst (flags c l1 l2 l3))))
  | .tryK cs b i j, ρ, M, n, r, _ => wpB b ρ M n r (fun c ρ' M' => c ∈ cs ∧ ∀ a, M' a = none → n (put (put ρ' j (some (.ref a))) i none) (mset M' a (.exc c)))
  | .setK a y e, ρ, M, n, _, x => wpE e ρ M (fun d M1 => wpE a ρ M1 (fun d1 M2 => wpE y ρ M2 (fun d2 M3 => setKD M3 d1 d2 d fun M4 => n ρ M4) (fun c => x c ρ)) (fun c => x c ρ)) (fun c => x c ρ)
  | .tryO c b j, ρ, M, n, r, _ => wpB b ρ M n r (fun c' ρ' M' => c' = c ∧ n (put ρ' j (some .non)) M')
  | .setB a y e, ρ, M, n, _, x => wpE e ρ M (fun d M1 => wpE a ρ M1 (fun d1 M2 => wpE y ρ M2 (fun d2 M3 => setBD M3 d1 d2 d fun M4 => n ρ M4) (fun c => x c ρ)) (fun c => x c ρ)) (fun c => x c ρ)
def wpB : B → Env → Mp → NK → DK → XS → Prop
  | .nil, ρ, M, n, _, _ => n ρ M
  | .cons s b, ρ, M, n, r, x => wpS s ρ M (fun ρ1 M1 => wpB b ρ1 M1 n r x) r x
  | .frz i b, ρ, M, n, r, x => atV ρ i fun a => frzD M a fun d M1 => wpB b (put ρ i (some d)) M1 n r x
end
end T

/-! T: how data stands in the heap; the relation of the plain state and the layer's; the operators' rules over data. -/
namespace T
open PySem L2 PyProof.Rows
abbrev Frag := PySem.W.Frag
def Ex (H H' : Hp) : Prop := ∀ a o, H a = some o → H' a = some o
theorem Ex.refl (H : Hp) : Ex H H := fun _ _ h => h
theorem Ex.trans {H H1 H2 : Hp} (a : Ex H H1) (b : Ex H1 H2) : Ex H H2 := fun x o h => b x o (a x o h)
theorem Ex.new {H : Hp} {p : Addr} {o : HO} (h : H p = none) : Ex H (upd H p o) := fun a u e => by
  rw [upd_ne (ne_of_none e h)]
  exact e
theorem ex_rd {H H' : Hp} {a : Addr} {u : HO} (e : Ex H H') (h : Rd H a u) : Rd H' a u := by
  rcases h with h | ⟨o, h⟩
  · exact Or.inl (e a _ h)
  · exact Or.inr ⟨o, e a _ h⟩
theorem ex_t {K : Frag} {H H' : Hp} {a : Addr} {xs : List V} (e : Ex H H') (h : SqT K H a xs) : SqT K H' a xs := by
  rcases h with h | h
  · exact Or.inl (ex_rd e h)
  · exact Or.inr h
theorem ex_l {K : Frag} {H H' : Hp} {a : Addr} {xs : List V} (e : Ex H H') (h : SqL K H a xs) : SqL K H' a xs := by
  rcases h with h | h
  · exact Or.inl (ex_rd e h)
  · exact Or.inr h
theorem rd_sq {K : Frag} {H : Hp} {a : Addr} {xs : List V} (h : Rd H a (.lst xs)) : SqL K H a xs := Or.inl h

mutual
inductive Rep (K : Frag) (G : Hp) : V → D → Prop
  | non : Rep K G .non .non
  | bl (b : Bool) : Rep K G (.bl b) (.bl b)
  | int (i : Int) : Rep K G (.int i) (.int i)
  | str (s : Str) : Rep K G (.str s) (.str s)
  | lst {a : Addr} {xs : List V} {ds : List D} : G a = some (.lst xs) → Reps K G xs ds → Rep K G (.ref a) (.lst ds)
  | tup {a : Addr} {xs : List V} {ds : List D} : SqT K G a xs → Reps K G xs ds → Rep K G (.ref a) (.tup ds)
  | ref (a : Addr) : Rep K G (.ref a) (.ref a)
  | scr {a : Addr} {xs : List V} {ds : List D} : SqL K G a xs → Reps K G xs ds → Rep K G (.ref a) (.scr ds)
  | fnm {f : Addr} {x : Str} : PySem.W.nsIn K mainGlobals x = some (some (.ref f)) → Rep K G (.ref f) (.fnm x)
inductive Reps (K : Frag) (G : Hp) : List V → List D → Prop
  | nil : Reps K G [] []
  | cons {v : V} {vs : List V} {d : D} {ds : List D} : Rep K G v d → Reps K G vs ds → Reps K G (v :: vs) (d :: ds)
end
section
variable {K : Frag} {G G' H : Hp}
mutual
theorem Rep.mono (e : Ex G G') : ∀ (d : D) (v : V), Rep K G v d → Rep K G' v d
  | .non, _, h => by cases h; exact .non
  | .bl b, _, h => by cases h; exact .bl b
  | .int b, _, h => by cases h; exact .int b
  | .str b, _, h => by cases h; exact .str b
  | .ref b, _, h => by cases h; exact .ref b
  | .lst l, _, h => by
    cases h with
    | lst h1 h2 => exact .lst (e _ _ h1) (Reps.mono e l _ h2)
  | .tup l, _, h => by
    cases h with
    | tup h1 h2 => exact .tup (ex_t e h1) (Reps.mono e l _ h2)
  | .scr l, _, h => by
    cases h with
    | scr h1 h2 => exact .scr (ex_l e h1) (Reps.mono e l _ h2)
  | .fnm x, _, h => by
    cases h with
    | fnm h1 => exact .fnm h1
theorem Reps.mono (e : Ex G G') : ∀ (ds : List D) (vs : List V), Reps K G vs ds → Reps K G' vs ds
  | [], _, h => by cases h; exact .nil
  | d :: ds, _, h => by
    cases h with
    | cons h1 h2 => exact .cons (Rep.mono e d _ h1) (Reps.mono e ds _ h2)
end
theorem Rep.up {v : V} {d : D} (h : Rep K G v d) (e : Ex G G') : Rep K G' v d := h.mono e
theorem Reps.up {v : List V} {d : List D} (h : Reps K G v d) (e : Ex G G') : Reps K G' v d := h.mono e
theorem Reps.length : ∀ {vs : List V} {ds : List D}, Reps K G vs ds → vs.length = ds.length
  | [], [], .nil => rfl
  | _ :: vs, _ :: ds, .cons _ h => by rw [List.length_cons, List.length_cons, Reps.length h]
theorem Reps.get : ∀ {vs : List V} {ds : List D} {i : Nat} {d : D}, Reps K G vs ds → ds[i]? = some d → ∃ v, vs[i]? = some v ∧ Rep K G v d
  | _, _, 0, d, .cons h _, e => by
    rw [List.getElem?_cons_zero] at e
    cases e
    exact ⟨_, rfl, h⟩
  | _, _, i + 1, d, .cons _ h, e => by
    rw [List.getElem?_cons_succ] at e
    obtain ⟨v, h1, h2⟩ := Reps.get h e
    exact ⟨v, by rw [List.getElem?_cons_succ]; exact h1, h2⟩
  | _, _, i, d, .nil, e => by simp at e
theorem Reps.get' : ∀ {vs : List V} {ds : List D} {i : Nat} {v : V}, Reps K G vs ds → vs[i]? = some v → ∃ d, ds[i]? = some d ∧ Rep K G v d
  | _, _, 0, d, .cons h _, e => by
    rw [List.getElem?_cons_zero] at e
    cases e
    exact ⟨_, rfl, h⟩
  | _, _, i + 1, d, .cons _ h, e => by
    rw [List.getElem?_cons_succ] at e
    obtain ⟨v, h1, h2⟩ := Reps.get' h e
    exact ⟨v, by rw [List.getElem?_cons_succ]; exact h1, h2⟩
  | _, _, i, d, .nil, e => by simp at e
theorem Reps.append : ∀ {vs ws : List V} {ds es : List D}, Reps K G vs ds → Reps K G ws es → Reps K G (vs ++ ws) (ds ++ es)
  | _, _, _, _, .nil, h => h
  | _, _, _, _, .cons h1 h2, h => .cons h1 (Reps.append h2 h)
theorem Reps.rev : ∀ {vs : List V} {ds : List D}, Reps K G vs ds → Reps K G vs.reverse ds.reverse
  | _, _, .nil => .nil
  | _, _, .cons h t => by
    rw [List.reverse_cons, List.reverse_cons]
    exact t.rev.append (.cons h .nil)
theorem Reps.take : ∀ {vs : List V} {ds : List D} (n : Nat), Reps K G vs ds → Reps K G (vs.take n) (ds.take n)
  | _, _, 0, _ => .nil
  | _, _, _ + 1, .nil => .nil
  | _, _, n + 1, .cons r t => .cons r (Reps.take n t)
theorem Reps.drop : ∀ {vs : List V} {ds : List D} (n : Nat), Reps K G vs ds → Reps K G (vs.drop n) (ds.drop n)
  | _, _, 0, r => r
  | _, _, _ + 1, .nil => .nil
  | _, _, n + 1, .cons _ t => Reps.drop n t
theorem Reps.set {v : V} {d : D} (h : Rep K G v d) : ∀ {vs : List V} {ds : List D} (i : Nat), Reps K G vs ds → Reps K G (vs.set i v) (ds.set i d)
  | _, _, _, .nil => .nil
  | _, _, 0, .cons _ t => .cons h t
  | _, _, i + 1, .cons q t => .cons q (Reps.set h i t)
theorem Reps.cut {vs : List V} {ds : List D} (h : Reps K G vs ds) (lo hi : Option Int) : Reps K G (cutV vs lo hi) (cutD ds lo hi) := by
  unfold cutV cutD
  rw [h.length]
  exact (h.drop _).take _
theorem Reps.flat : ∀ (n : Nat) {vs : List V} {ds : List D}, Reps K G vs ds → Reps K G (List.replicate n vs).flatten (List.replicate n ds).flatten
  | 0, _, _, _ => .nil
  | n + 1, vs, ds, h => by
    rw [List.replicate_succ, List.replicate_succ, List.flatten_cons, List.flatten_cons]
    exact h.append (Reps.flat n h)
theorem Rep.v {d : D} (hd : d.flat = true) : Rep K G d.v d := by
  cases d with
  | non => exact .non
  | bl b => exact .bl b
  | int b => exact .int b
  | str b => exact .str b
  | lst l => cases hd
  | tup l => cases hd
  | ref a => cases hd
  | scr l => cases hd
  | fnm l => cases hd
theorem Rep.v_eq {d : D} {v : V} (h : Rep K G v d) (hd : d.flat = true) : v = d.v := by
  cases h with
  | non => rfl
  | bl b => rfl
  | int b => rfl
  | str b => rfl
  | lst _ _ => cases hd
  | tup _ _ => cases hd
  | ref a => cases hd
  | scr _ _ => cases hd
  | fnm _ => cases hd
theorem Reps.v_eq : ∀ {ds : List D} {vs : List V}, Reps K G vs ds → ds.all D.flat = true → vs = ds.map D.v
  | _, _, .nil, _ => rfl
  | _, _, .cons h t, e => by
    rw [List.all_cons, Bool.and_eq_true] at e
    rw [h.v_eq e.1, t.v_eq e.2]
    rfl
theorem D.v_flat {d : D} (h : d.flat = true) : flatV d.v = true := by
  cases d <;> first | rfl | cases h
theorem D.vs_flat : ∀ {ds : List D}, ds.all D.flat = true → (ds.map D.v).all flatV = true
  | [], _ => rfl
  | d :: ds, e => by
    rw [List.all_cons, Bool.and_eq_true] at e
    rw [List.map_cons, List.all_cons, D.v_flat e.1, D.vs_flat e.2]
    rfl
theorem Reps.ints : ∀ {ds : List D} {vs : List V} {ns : List Int}, Reps K G vs ds → intsOf ds = some ns → vs = ns.map V.int
  | [], _, ns, h, e => by
    cases h
    have e' : ([] : List Int) = ns := Option.some.inj e
    rw [← e']
    rfl
  | d :: ds, _, ns, h, e => by
    cases h with
    | cons h1 t =>
      cases d with
      | int i =>
        cases h1
        have e2 : (intsOf ds).map (i :: ·) = some ns := e
        cases h : intsOf ds with
        | none =>
          rw [h] at e2
          cases e2
        | some ms =>
          rw [h] at e2
          have e3 : i :: ms = ns := Option.some.inj e2
          rw [← e3, Reps.ints t h]
          rfl
      | _ => cases e
theorem Reps.ofInts : ∀ ns : List Int, Reps K G (ns.map V.int) (ns.map D.int)
  | [] => .nil
  | i :: l => .cons (.int i) (Reps.ofInts l)
theorem Reps.strs : ∀ {ds : List D} {vs : List V} {ns : List Str}, Reps K G vs ds → strsOf ds = some ns → vs = ns.map V.str
  | [], _, ns, h, e => by
    cases h
    have e' : ([] : List Str) = ns := Option.some.inj e
    rw [← e']
    rfl
  | d :: ds, _, ns, h, e => by
    cases h with
    | cons h1 t =>
      cases d with
      | str i =>
        cases h1
        have e2 : (strsOf ds).map (i :: ·) = some ns := e
        cases h : strsOf ds with
        | none =>
          rw [h] at e2
          cases e2
        | some ms =>
          rw [h] at e2
          have e3 : i :: ms = ns := Option.some.inj e2
          rw [← e3, Reps.strs t h]
          rfl
      | _ => cases e
theorem Reps.ofStrs : ∀ ns : List Str, Reps K G (ns.map V.str) (ns.map D.str)
  | [] => .nil
  | i :: l => .cons (.str i) (Reps.ofStrs l)
mutual
theorem Rep.dp : ∀ (d : D) (v : V), Rep K H v d → d.pure = true → Dp K H v d.py
  | .non, _, h, _ => by cases h; exact .non
  | .bl b, _, h, _ => by cases h; exact .bl b
  | .int b, _, h, _ => by cases h; exact .int b
  | .str b, _, h, _ => by cases h; exact .str b
  | .ref b, _, h, e => by cases e
  | .scr b, _, h, e => by cases e
  | .fnm b, _, h, e => by cases e
  | .lst l, _, h, e => by
    cases h with
    | lst h1 h2 => exact .lst (rd_sq (.inl h1)) (Reps.dp l _ h2 e)
  | .tup l, _, h, e => by
    cases h with
    | tup h1 h2 => exact .tup h1 (Reps.dp l _ h2 e)
theorem Reps.dp : ∀ (ds : List D) (vs : List V), Reps K H vs ds → D.pures ds = true → DpAll K H vs (D.pys ds)
  | [], _, h, _ => by cases h; exact .nil
  | d :: ds, _, h, e => by
    have e' : (d.pure && D.pures ds) = true := e
    rw [Bool.and_eq_true] at e'
    cases h with
    | cons h1 h2 => exact .cons (Rep.dp d _ h1 e'.1) (Reps.dp ds _ h2 e'.2)
end
end

/-! ### classes; pairs -/
/-- the class that stands at a name of the top -/
def clsK (K : Frag) (c : Str) : Option Addr :=
  match PySem.W.nsIn K mainGlobals c with
  | some (some (.ref C)) => some C
  | _ => none
/-- an exception object of the class at C -/
def ExcT (C a : Addr) : HO := .ext fun h => ∃ oe, h.get? a = some oe ∧ Zc (.ref C) none oe ∧ ∃ vs, oe.data = .fields vs
structure PReps {α : Type} (K : Frag) (G : Hp) (vs : List (α × V)) (ds : List (α × D)) : Prop where
  k : vs.map Prod.fst = ds.map Prod.fst
  v : Reps K G (vs.map Prod.snd) (ds.map Prod.snd)
section
variable {α : Type} [DecidableEq α] {K : Frag} {G G' : Hp}
theorem PReps.up {vs : List (α × V)} {ds : List (α × D)} (h : PReps K G vs ds) (e : Ex G G') : PReps K G' vs ds := ⟨h.k, h.v.up e⟩
theorem PReps.nil : PReps K G ([] : List (α × V)) [] := ⟨rfl, .nil⟩
theorem PReps.cons {f : α} {v : V} {d : D} {vs : List (α × V)} {ds : List (α × D)} (h : Rep K G v d) (r : PReps K G vs ds) : PReps K G ((f, v) :: vs) ((f, d) :: ds) :=
  ⟨by rw [List.map_cons, List.map_cons, r.k], .cons h r.v⟩
theorem PReps.ind {P : List (α × V) → List (α × D) → Prop} (h0 : P [] []) (h1 : ∀ f v d vs ds, Rep K G v d → PReps K G vs ds → P vs ds → P ((f, v) :: vs) ((f, d) :: ds)) : ∀ (vs : List (α × V)) (ds : List (α × D)), PReps K G vs ds → P vs ds
  | [], [], _ => h0
  | [], _ :: _, h => by
    have := h.k
    cases this
  | _ :: _, [], h => by
    have := h.k
    cases this
  | (f, v) :: vs, (g, d) :: ds, h => by
    have hk := h.k
    rw [List.map_cons, List.map_cons, List.cons.injEq] at hk
    obtain ⟨rfl, hk2⟩ := hk
    have hv := h.v
    cases hv with
    | cons a b => exact h1 _ v d vs ds a ⟨hk2, b⟩ (PReps.ind h0 h1 vs ds ⟨hk2, b⟩)
theorem PReps.len {vs : List (α × V)} {ds : List (α × D)} (h : PReps K G vs ds) : vs.length = ds.length := by
  have := congrArg List.length h.k
  rw [List.length_map, List.length_map] at this
  exact this
theorem PReps.get {f : α} {vs : List (α × V)} {ds : List (α × D)} (h : PReps K G vs ds) : match getA f ds with
    | some d => ∃ v, getA f vs = some v ∧ Rep K G v d
    | none => getA f vs = none := by
  refine PReps.ind (P := fun vs ds => match getA f ds with | some d => ∃ v, getA f vs = some v ∧ Rep K G v d | none => getA f vs = none) rfl (fun g v d vs ds r _ ih => ?_) vs ds h
  unfold getA
  by_cases e : g = f
  · rw [if_pos e, if_pos e]
    exact ⟨v, rfl, r⟩
  · rw [if_neg e, if_neg e]
    exact ih
theorem PReps.some {f : α} {vs : List (α × V)} {ds : List (α × D)} {d : D} (h : PReps K G vs ds) (e : getA f ds = some d) : ∃ v, getA f vs = Option.some v ∧ Rep K G v d := by
  have := h.get (f := f)
  rw [e] at this
  exact this
theorem PReps.none {f : α} {vs : List (α × V)} {ds : List (α × D)} (h : PReps K G vs ds) (e : getA f ds = Option.none) : getA f vs = Option.none := by
  have := h.get (f := f)
  rw [e] at this
  exact this
theorem PReps.isSome {f : α} {vs : List (α × V)} {ds : List (α × D)} (h : PReps K G vs ds) : (getA f vs).isSome = (getA f ds).isSome := by
  cases e : getA f ds with
  | none =>
    rw [h.none e]
    rfl
  | some d =>
    obtain ⟨v, q, _⟩ := h.some e
    rw [q]
    rfl
theorem PReps.putA {f : α} {v : V} {d : D} {vs : List (α × V)} {ds : List (α × D)} (h : PReps K G vs ds) (r : Rep K G v d) : PReps K G (T.putA f v vs) (T.putA f d ds) := by
  refine PReps.ind (P := fun vs ds => PReps K G (T.putA f v vs) (T.putA f d ds)) (.cons r .nil) (fun g w e vs ds q h ih => ?_) vs ds h
  unfold T.putA
  by_cases c : g = f
  · rw [if_pos c, if_pos c]
    exact .cons r h
  · rw [if_neg c, if_neg c]
    exact .cons q ih
theorem PReps.any {f : α} {vs : List (α × V)} {ds : List (α × D)} (h : PReps K G vs ds) : (vs.any fun kv => decide (kv.1 = f)) = (ds.any fun kv => decide (kv.1 = f)) := by
  have e1 : (vs.any fun kv => decide (kv.1 = f)) = ((vs.map Prod.fst).any fun k => decide (k = f)) := by rw [List.any_map]; rfl
  have e2 : (ds.any fun kv => decide (kv.1 = f)) = ((ds.map Prod.fst).any fun k => decide (k = f)) := by rw [List.any_map]; rfl
  rw [e1, e2, h.k]
theorem PReps.putM {f : α} {v : V} {d : D} {vs : List (α × V)} {ds : List (α × D)} (h : PReps K G vs ds) (r : Rep K G v d) : PReps K G (T.putM f v vs) (T.putM f d ds) := by
  unfold T.putM
  rw [h.any]
  by_cases c : (ds.any fun kv => decide (kv.1 = f)) = true
  · rw [if_pos c, if_pos c]
    refine PReps.ind (P := fun vs ds => PReps K G (vs.map fun kv => if kv.1 = f then (kv.1, v) else kv) (ds.map fun kv => if kv.1 = f then (kv.1, d) else kv)) .nil (fun g w e vs ds q _ ih => ?_) vs ds h
    rw [List.map_cons, List.map_cons]
    by_cases c : g = f
    · rw [if_pos c, if_pos c]
      exact .cons r ih
    · rw [if_neg c, if_neg c]
      exact .cons q ih
  · rw [if_neg c, if_neg c]
    exact ⟨by rw [List.map_append, List.map_append, h.k]; rfl, by rw [List.map_append, List.map_append]; exact h.v.append (.cons r .nil)⟩
end
theorem putA_putF (f : Str) (v : V) : ∀ fs : List (Str × V), putF f v fs = putA f v fs
  | [] => rfl
  | (g, x) :: r => by
    unfold putF putA
    rw [putA_putF f v r]
theorem getA_lookup (f : Str) : ∀ fs : List (Str × V), fs.lookup f = getA f fs
  | [] => rfl
  | (g, x) :: r => by
    unfold getA
    by_cases h : g = f
    · have hb : (f == g) = true := beq_iff_eq.mpr h.symm
      simp only [List.lookup, hb, if_pos h]
    · have hb : (f == g) = false := beq_eq_false_iff_ne.mpr fun z => h z.symm
      simp only [List.lookup, hb, if_neg h]
      exact getA_lookup f r
theorem getA_valV (k : Key) : ∀ kvs : List (Key × V), valV kvs k = getA k kvs
  | [] => rfl
  | p :: r => by
    unfold getA
    by_cases h : p.1 = k
    · rw [valV_pos h, if_pos h]
    · rw [valV_neg h, if_neg h]
      exact getA_valV k r
theorem putM_putK (k : Key) (v : V) (kvs : List (Key × V)) : putK kvs k v = putM k v kvs := rfl
/-! ### the map of cells over the heap -/
abbrev BX := List (List Bool × Addr)
def bdE (x : List Bool × Addr) : DictEntry := ⟨reduceHash (Builtin.Tuple.tupleHashOf (x.1.map fun b => hashInt (if b = true then 1 else 0))), .ref x.2, .bool true⟩
/-- the object at a is a dict of tuples of truths, each of which leads to True -/
def BdT (a : Addr) (xs : BX) : HO := .ext fun h => (a == sysModules) = false ∧ xs.length ≤ sizeLine ∧ ∃ o es ep, h.get? a = some o ∧ o.ExactDict ∧ o.data = .dict es ep ∧ es.toList = xs.map bdE ∧ (xs.map (·.1)).Nodup
def CellOk (K : Frag) (G H : Hp) (a : Addr) : Cell → Prop
  | .pot lim => ∃ x y : Int, H a = some (.lst [.int x, .int y]) ∧ Small lim y
  | .lst l => ∃ vs, H a = some (.lst vs) ∧ Reps K G vs l
  | .exc c => ∃ C, clsK K c = some C ∧ H a = some (ExcT C a)
  | .ins c fs => ∃ C dx vs, clsK K c = some C ∧ H a = some (.ins C dx vs) ∧ PReps K G vs fs
  | .dct kvs => ∃ vs, H a = some (.dK vs) ∧ PReps K G vs kvs
  | .bdt ks => ∃ xs : BX, H a = some (BdT a xs) ∧ xs.map (·.1) = ks ∧ ∀ x ∈ xs, SqT K G x.2 (x.1.map V.bl)
structure Base (K : Frag) (G H : Hp) (M : Mp) : Prop where
  ex : Ex G H
  cell : ∀ a c, M a = some c → G a = none ∧ CellOk K G H a c
structure Tr (G H : Hp) (M : Mp) (G' H' : Hp) (M' : Mp) : Prop where
  g : Ex G G'
  new : ∀ a, G a = none → G' a ≠ none → H a = none ∨ M a ≠ none
  keep : ∀ a o, H a = some o → M a = none → H' a = some o
  m : ∀ a, M' a ≠ none → M a ≠ none ∨ H a = none
structure Wd where
  G : Hp
  H : Hp
  M : Mp
structure Rel (K : Frag) (Z : Wd) (G H : Hp) (M : Mp) (σ : L2.St) (ρ : Env) : Prop where
  base : Base K G H M
  tr : Tr Z.G Z.H Z.M G H M
  len : ρ.length = σ.length
  slot : ∀ i d, nth ρ i = some d → ∃ v, σ[i]? = some (some v) ∧ Rep K G v d
section
variable {K : Frag} {Z : Wd} {G G1 H H1 G' H' G2 H2 : Hp} {M M1 M' M2 : Mp} {σ : L2.St} {ρ : Env} {p : Addr} {vs : List V} {ds : List D}
theorem Tr.refl : Tr G H M G H M := ⟨Ex.refl _, fun _ h h' => absurd h h', fun _ _ h _ => h, fun _ h => .inl h⟩
theorem Tr.trans (a : Tr G H M G1 H1 M1) (b : Tr G1 H1 M1 G2 H2 M2) : Tr G H M G2 H2 M2 := by
  refine ⟨a.g.trans b.g, fun x h1 h2 => ?_, fun x o h1 h2 => ?_, fun x h => ?_⟩
  · cases e : G1 x with
    | some o => exact a.new x h1 (by rw [e]; exact Option.some_ne_none _)
    | none =>
      rcases b.new x e h2 with q | q
      · cases e2 : H x with
        | none => exact .inl rfl
        | some o =>
          cases e3 : M x with
          | some c => exact .inr (Option.some_ne_none _)
          | none =>
            rw [a.keep x o e2 e3] at q
            cases q
      · exact (a.m x q).elim .inr .inl
  · have m1 : M1 x = none := by
      cases e : M1 x with
      | none => rfl
      | some c =>
        rcases a.m x (by rw [e]; exact Option.some_ne_none _) with q | q
        · exact absurd h2 q
        · rw [h1] at q; cases q
    exact b.keep x o (a.keep x o h1 h2) m1
  · rcases b.m x h with q | q
    · exact a.m x q
    · cases e2 : H x with
      | none => exact .inr rfl
      | some o =>
        cases e3 : M x with
        | some c => exact .inl (Option.some_ne_none _)
        | none =>
          rw [a.keep x o e2 e3] at q
          cases q
/-- a wider heap is as good for a cell -/
theorem CellOk.up {a : Addr} {c : Cell} (h : CellOk K G H a c) (eg : Ex G G') (e : ∀ o, H a = some o → H' a = some o) : CellOk K G' H' a c := by
  cases c with
  | pot lim =>
    obtain ⟨x, y, h, hs⟩ := h
    exact ⟨x, y, e _ h, hs⟩
  | lst l =>
    obtain ⟨vs, h1, h2⟩ := h
    exact ⟨vs, e _ h1, h2.up eg⟩
  | exc c =>
    obtain ⟨C, h1, h2⟩ := h
    exact ⟨C, h1, e _ h2⟩
  | ins c fs =>
    obtain ⟨C, dx, vs, h1, h2, h3⟩ := h
    exact ⟨C, dx, vs, h1, e _ h2, h3.up eg⟩
  | dct kvs =>
    obtain ⟨vs, h1, h2⟩ := h
    exact ⟨vs, e _ h1, h2.up eg⟩
  | bdt ks =>
    obtain ⟨xs, h1, h2, h3⟩ := h
    exact ⟨xs, e _ h1, h2, fun x hx => ex_t eg (h3 x hx)⟩
theorem CellOk.some {a : Addr} {c : Cell} (h : CellOk K G H a c) : ∃ o, H a = some o := by
  cases c with
  | pot lim =>
    obtain ⟨x, y, h, hs⟩ := h
    exact ⟨_, h⟩
  | lst l =>
    obtain ⟨vs, h1, h2⟩ := h
    exact ⟨_, h1⟩
  | exc c =>
    obtain ⟨C, h1, h2⟩ := h
    exact ⟨_, h2⟩
  | ins c fs =>
    obtain ⟨C, dx, vs, h1, h2, h3⟩ := h
    exact ⟨_, h2⟩
  | dct kvs =>
    obtain ⟨vs, h1, h2⟩ := h
    exact ⟨_, h1⟩
  | bdt ks =>
    obtain ⟨xs, h1, h2⟩ := h
    exact ⟨_, h1⟩
theorem Base.gnone (b : Base K G H M) (h : H p = none) : G p = none := by
  cases e : G p with
  | none => rfl
  | some o =>
    rw [b.ex p o e] at h
    cases h
theorem Base.mnone (b : Base K G H M) (h : H p = none) : M p = none := by
  cases e : M p with
  | none => rfl
  | some c =>
    obtain ⟨o, q⟩ := (b.cell p c e).2.some
    rw [h] at q
    cases q
/-- a new object that stays -/
theorem Base.laid {o : HO} (b : Base K G H M) (h : H p = none) : Base K (upd G p o) (upd H p o) M ∧ Tr G H M (upd G p o) (upd H p o) M := by
  have hg := b.gnone h
  have hm := b.mnone h
  refine ⟨⟨fun a u e => ?_, fun a c e => ?_⟩, ⟨Ex.new hg, fun a h1 h2 => ?_, fun a u e _ => ?_, fun a h => .inl h⟩⟩
  · by_cases q : a = p
    · subst q
      rw [upd_same] at e
      cases e
      exact upd_same
    · rw [upd_ne q] at e
      rw [upd_ne q]
      exact b.ex a u e
  · have q : a ≠ p := fun q => by
      rw [q, hm] at e
      cases e
    obtain ⟨c1, c2⟩ := b.cell a c e
    exact ⟨by rw [upd_ne q]; exact c1, c2.up (Ex.new hg) fun o h => by rw [upd_ne q]; exact h⟩
  · by_cases q : a = p
    · rw [q]
      exact .inl h
    · rw [upd_ne q] at h2
      exact absurd h1 h2
  · rw [upd_ne (ne_of_none e h)]
    exact e
/-- a new list that may be changed -/
theorem Base.laidM (b : Base K G H M) (h : H p = none) (r : Reps K G vs ds) : Base K G (upd H p (.lst vs)) (mset M p (.lst ds)) ∧ Tr G H M G (upd H p (.lst vs)) (mset M p (.lst ds)) := by
  have hg := b.gnone h
  have hm := b.mnone h
  refine ⟨⟨fun a u e => ?_, fun a c e => ?_⟩, ⟨Ex.refl _, fun a h1 h2 => absurd h1 h2, fun a u e _ => ?_, fun a q => ?_⟩⟩
  · rw [upd_ne (ne_of_none e hg)]
    exact b.ex a u e
  · by_cases q : a = p
    · subst q
      rw [mset_same] at e
      cases e
      exact ⟨hg, vs, upd_same, r⟩
    · rw [mset_ne q] at e
      obtain ⟨c1, c2⟩ := b.cell a c e
      exact ⟨c1, c2.up (Ex.refl _) fun o h => by rw [upd_ne q]; exact h⟩
  · rw [upd_ne (ne_of_none e h)]
    exact e
  · by_cases e : a = p
    · rw [e]
      exact .inr h
    · rw [mset_ne e] at q
      exact .inl q
/-- a list that may be changed is changed -/
theorem Base.writ {l : List D} (b : Base K G H M) (h : M p = some (.lst l)) (r : Reps K G vs ds) : Base K G (upd H p (.lst vs)) (mset M p (.lst ds)) ∧ Tr G H M G (upd H p (.lst vs)) (mset M p (.lst ds)) := by
  obtain ⟨hg, _⟩ := b.cell p _ h
  refine ⟨⟨fun a u e => ?_, fun a c e => ?_⟩, ⟨Ex.refl _, fun a h1 h2 => absurd h1 h2, fun a u e m => ?_, fun a q => ?_⟩⟩
  · rw [upd_ne (ne_of_none e hg)]
    exact b.ex a u e
  · by_cases q : a = p
    · subst q
      rw [mset_same] at e
      cases e
      exact ⟨hg, vs, upd_same, r⟩
    · rw [mset_ne q] at e
      obtain ⟨c1, c2⟩ := b.cell a c e
      exact ⟨c1, c2.up (Ex.refl _) fun o h => by rw [upd_ne q]; exact h⟩
  · have q : a ≠ p := fun q => by
      rw [q, h] at m
      cases m
    rw [upd_ne q]
    exact e
  · by_cases e : a = p
    · rw [e, h]
      exact .inl (Option.some_ne_none _)
    · rw [mset_ne e] at q
      exact .inl q
/-- a cell is changed -/
theorem Base.writC {c c2 : Cell} {o : HO} (b : Base K G H M) (h : M p = some c) (r : CellOk K G (upd H p o) p c2) : Base K G (upd H p o) (mset M p c2) ∧ Tr G H M G (upd H p o) (mset M p c2) := by
  obtain ⟨hg, _⟩ := b.cell p _ h
  refine ⟨⟨fun a u e => ?_, fun a c e => ?_⟩, ⟨Ex.refl _, fun a h1 h2 => absurd h1 h2, fun a u e m => ?_, fun a q => ?_⟩⟩
  · rw [upd_ne (ne_of_none e hg)]
    exact b.ex a u e
  · by_cases q : a = p
    · subst q
      rw [mset_same] at e
      cases e
      exact ⟨hg, r⟩
    · rw [mset_ne q] at e
      obtain ⟨c1, c2⟩ := b.cell a c e
      exact ⟨c1, c2.up (Ex.refl _) fun o h => by rw [upd_ne q]; exact h⟩
  · have q : a ≠ p := fun q => by
      rw [q, h] at m
      cases m
    rw [upd_ne q]
    exact e
  · by_cases e : a = p
    · rw [e, h]
      exact .inl (Option.some_ne_none _)
    · rw [mset_ne e] at q
      exact .inl q
/-- a new cell -/
theorem Base.laidC {o : HO} {c2 : Cell} (b : Base K G H M) (h : H p = none) (r : CellOk K G (upd H p o) p c2) : Base K G (upd H p o) (mset M p c2) ∧ Tr G H M G (upd H p o) (mset M p c2) := by
  have hg := b.gnone h
  have hm := b.mnone h
  refine ⟨⟨fun a u e => ?_, fun a c e => ?_⟩, ⟨Ex.refl _, fun a h1 h2 => absurd h1 h2, fun a u e _ => ?_, fun a q => ?_⟩⟩
  · rw [upd_ne (ne_of_none e hg)]
    exact b.ex a u e
  · by_cases q : a = p
    · subst q
      rw [mset_same] at e
      cases e
      exact ⟨hg, r⟩
    · rw [mset_ne q] at e
      obtain ⟨c1, c2⟩ := b.cell a c e
      exact ⟨c1, c2.up (Ex.refl _) fun o h => by rw [upd_ne q]; exact h⟩
  · rw [upd_ne (ne_of_none e h)]
    exact e
  · by_cases e : a = p
    · rw [e]
      exact .inr h
    · rw [mset_ne e] at q
      exact .inl q
theorem Base.pot {x y : Int} {lim : Bool} (b : Base K G H M) (h : M p = some (.pot lim)) (hs : Small lim y) : Base K G (upd H p (.lst [.int x, .int y])) M ∧ Tr G H M G (upd H p (.lst [.int x, .int y])) M := by
  obtain ⟨hg, _⟩ := b.cell p _ h
  refine ⟨⟨fun a u e => ?_, fun a c e => ?_⟩, ⟨Ex.refl _, fun a h1 h2 => absurd h1 h2, fun a u e m => ?_, fun a q => .inl q⟩⟩
  · rw [upd_ne (ne_of_none e hg)]
    exact b.ex a u e
  · by_cases q : a = p
    · subst q
      rw [h] at e
      cases e
      exact ⟨hg, x, y, upd_same, hs⟩
    · obtain ⟨c1, c2⟩ := b.cell a c e
      exact ⟨c1, c2.up (Ex.refl _) fun o h => by rw [upd_ne q]; exact h⟩
  · have q : a ≠ p := fun q => by
      rw [q, h] at m
      cases m
    rw [upd_ne q]
    exact e
/-- a list is changed no more -/
theorem Base.froz {l : List D} (b : Base K G H M) (h : M p = some (.lst l)) : ∃ xs, H p = some (.lst xs) ∧ Base K (upd G p (.lst xs)) H (mdel M p) ∧ Tr G H M (upd G p (.lst xs)) H (mdel M p) ∧ Rep K (upd G p (.lst xs)) (.ref p) (.lst l) := by
  obtain ⟨hg, xs, hh, r⟩ := b.cell p _ h
  refine ⟨xs, hh, ⟨fun a u e => ?_, fun a c e => ?_⟩, ⟨Ex.new hg, fun a h1 h2 => ?_, fun a u e m => e, fun a q => ?_⟩, .lst upd_same (r.up (Ex.new hg))⟩
  · by_cases q : a = p
    · subst q
      rw [upd_same] at e
      cases e
      exact hh
    · rw [upd_ne q] at e
      exact b.ex a u e
  · unfold mdel at e
    by_cases q : a = p
    · rw [if_pos q] at e
      cases e
    · rw [if_neg q] at e
      obtain ⟨c1, c2⟩ := b.cell a c e
      exact ⟨by rw [upd_ne q]; exact c1, c2.up (Ex.new hg) fun o h => h⟩
  · by_cases q : a = p
    · rw [q, h]
      exact .inr (Option.some_ne_none _)
    · rw [upd_ne q] at h2
      exact absurd h1 h2
  · unfold mdel at q
    by_cases e : a = p
    · rw [if_pos e] at q
      exact absurd rfl q
    · rw [if_neg e] at q
      exact .inl q
/-- fewer cells -/
def Less (M1 M : Mp) : Prop := ∀ a c, M1 a = some c → M a = some c ∨ (∃ lim, c = .pot lim ∧ ∃ x y : Int, M a = some (.lst [.int x, .int y]) ∧ Small lim y)
theorem Base.sub (b : Base K G H M) (h : Less M1 M) : Base K G H M1 := ⟨b.ex, fun a c e => by
  rcases h a c e with q | ⟨lim, rfl, x, y, q, hs⟩
  · exact b.cell a c q
  · obtain ⟨h1, vs, h2, h3⟩ := b.cell a _ q
    cases h3 with
    | cons p1 r1 =>
      cases r1 with
      | cons p2 r2 =>
        cases r2
        cases p1
        cases p2
        exact ⟨h1, x, y, h2, hs⟩⟩
theorem Tr.sub (t : Tr G H M G' H' M') (h : Less M1 M') : Tr G H M G' H' M1 := ⟨t.g, t.new, t.keep, fun a q => t.m a (by
  cases e : M1 a with
  | none => exact absurd e q
  | some c =>
    rcases h a c e with z | ⟨_, _, x, y, z, _⟩
    · rw [z]
      exact Option.some_ne_none _
    · rw [z]
      exact Option.some_ne_none _)⟩
theorem Rel.go (r : Rel K Z G H M σ ρ) (b : Base K G' H' M') (t : Tr G H M G' H' M') : Rel K Z G' H' M' σ ρ := ⟨b, r.tr.trans t, r.len, fun i d e => by
  obtain ⟨v, h1, h2⟩ := r.slot i d e
  exact ⟨v, h1, h2.up t.g⟩⟩
/-- a cell that is no list -/
def Cell.other : Cell → Bool
  | .lst _ => false
  | _ => true
theorem vw_oth {a : Addr} {c : Cell} (h : M a = some c) (hc : c.other = true) : vw M (.ref a) = .ref a := by
  cases c <;> first
    | (cases hc; done)
    | simp only [vw, h]
theorem sw_oth {a : Addr} {c : Cell} (h : M a = some c) (hc : c.other = true) : sw M (.ref a) = .ref a := by
  cases c <;> first
    | (cases hc; done)
    | simp only [sw, h]
theorem vw_lst {a : Addr} {l : List D} (h : M a = some (.lst l)) : vw M (.ref a) = .lst l := by simp only [vw, h]
theorem vw_pot {a : Addr} {lim : Bool} (h : M a = some (.pot lim)) : vw M (.ref a) = .ref a := by simp only [vw, h]
theorem vw_none {a : Addr} (h : M a = none) : vw M (.ref a) = .ref a := by simp only [vw, h]
theorem sw_lst {a : Addr} {l : List D} (h : M a = some (.lst l)) : sw M (.ref a) = .lst l := by simp only [sw, h]
theorem sw_pot {a : Addr} {lim : Bool} (h : M a = some (.pot lim)) : sw M (.ref a) = .ref a := by simp only [sw, h]
theorem sw_none {a : Addr} (h : M a = none) : sw M (.ref a) = .ref a := by simp only [sw, h]
/-- a list in the heap as it stands, its items among what stays -/
theorem Base.viewL (b : Base K G H M) {v : V} {d : D} {l : List D} (h : Rep K G v d) (e : vw M d = .lst l) : ∃ a xs, v = .ref a ∧ SqL K H a xs ∧ Reps K G xs l := by
  cases d with
  | ref a =>
    cases h
    cases q : M a with
    | none =>
      rw [vw_none q] at e
      cases e
    | some c =>
      cases c with
      | pot =>
        rw [vw_pot q] at e
        cases e
      | exc _ =>
        rw [vw_oth q rfl] at e
        cases e
      | ins _ _ =>
        rw [vw_oth q rfl] at e
        cases e
      | dct _ =>
        rw [vw_oth q rfl] at e
        cases e
      | bdt _ =>
        rw [vw_oth q rfl] at e
        cases e
      | lst l' =>
        rw [vw_lst q] at e
        cases e
        obtain ⟨_, xs, h1, h2⟩ := b.cell a _ q
        exact ⟨a, xs, rfl, .inl (.inl h1), h2⟩
  | lst l' =>
    cases e
    cases h with
    | lst h1 h2 => exact ⟨_, _, rfl, .inl (.inl (b.ex _ _ h1)), h2⟩
  | scr l' =>
    cases e
    cases h with
    | scr h1 h2 => exact ⟨_, _, rfl, ex_l b.ex h1, h2⟩
  | non => cases e
  | fnm _ => cases e
  | bl _ => cases e
  | int _ => cases e
  | str _ => cases e
  | tup _ => cases e
/-- .. that is not one that was handed in -/
theorem Base.viewS (b : Base K G H M) {v : V} {d : D} {l : List D} (h : Rep K G v d) (e : sw M d = .lst l) : ∃ a xs, v = .ref a ∧ H a = some (.lst xs) ∧ Reps K G xs l := by
  cases d with
  | ref a =>
    cases h
    cases q : M a with
    | none =>
      rw [sw_none q] at e
      cases e
    | some c =>
      cases c with
      | pot =>
        rw [sw_pot q] at e
        cases e
      | exc _ =>
        rw [sw_oth q rfl] at e
        cases e
      | ins _ _ =>
        rw [sw_oth q rfl] at e
        cases e
      | dct _ =>
        rw [sw_oth q rfl] at e
        cases e
      | bdt _ =>
        rw [sw_oth q rfl] at e
        cases e
      | lst l' =>
        rw [sw_lst q] at e
        cases e
        obtain ⟨_, xs, h1, h2⟩ := b.cell a _ q
        exact ⟨a, xs, rfl, h1, h2⟩
  | lst l' =>
    cases e
    cases h with
    | lst h1 h2 => exact ⟨_, _, rfl, b.ex _ _ h1, h2⟩
  | scr _ => cases e
  | non => cases e
  | fnm _ => cases e
  | bl _ => cases e
  | int _ => cases e
  | str _ => cases e
  | tup _ => cases e
theorem Base.viewT (b : Base K G H M) {v : V} {d : D} {l : List D} (h : Rep K G v d) (e : vw M d = .tup l) : ∃ a xs, v = .ref a ∧ SqT K H a xs ∧ Reps K G xs l := by
  cases d with
  | ref a =>
    cases q : M a with
    | none =>
      rw [vw_none q] at e
      cases e
    | some c =>
      cases c with
      | pot =>
        rw [vw_pot q] at e
        cases e
      | exc _ =>
        rw [vw_oth q rfl] at e
        cases e
      | ins _ _ =>
        rw [vw_oth q rfl] at e
        cases e
      | dct _ =>
        rw [vw_oth q rfl] at e
        cases e
      | bdt _ =>
        rw [vw_oth q rfl] at e
        cases e
      | lst l' =>
        rw [vw_lst q] at e
        cases e
  | tup l' =>
    cases e
    cases h with
    | tup h1 h2 => exact ⟨_, _, rfl, ex_t b.ex h1, h2⟩
  | scr _ => cases e
  | non => cases e
  | fnm _ => cases e
  | bl _ => cases e
  | int _ => cases e
  | str _ => cases e
  | lst _ => cases e
end
/-- how a value is seen in the heap as it stands: a list may be one that was handed in -/
def Seen (K : Frag) (H : Hp) (v : V) (d : D) : Prop :=
  match d with
  | .lst l => ∃ a xs, v = .ref a ∧ SqL K H a xs ∧ Reps K H xs l
  | d => Rep K H v d
section
variable {K : Frag} {Z : Wd} {G H : Hp} {M : Mp} {v : V} {d : D}
theorem Base.seen (b : Base K G H M) (h : Rep K G v d) : Seen K H v (vw M d) := by
  cases d with
  | ref a =>
    cases h
    cases q : M a with
    | none =>
      rw [vw_none q]
      exact .ref a
    | some c =>
      cases c with
      | pot =>
        rw [vw_pot q]
        exact .ref a
      | exc _ =>
        rw [vw_oth q rfl]
        exact .ref a
      | ins _ _ =>
        rw [vw_oth q rfl]
        exact .ref a
      | dct _ =>
        rw [vw_oth q rfl]
        exact .ref a
      | bdt _ =>
        rw [vw_oth q rfl]
        exact .ref a
      | lst l' =>
        rw [vw_lst q]
        obtain ⟨_, xs, h1, h2⟩ := b.cell a _ q
        exact ⟨a, xs, rfl, .inl (.inl h1), h2.up b.ex⟩
  | lst l =>
    cases h with
    | lst h1 h2 => exact ⟨_, _, rfl, .inl (.inl (b.ex _ _ h1)), h2.up b.ex⟩
  | scr l =>
    cases h with
    | scr h1 h2 => exact ⟨_, _, rfl, ex_l b.ex h1, h2.up b.ex⟩
  | tup l => exact h.up b.ex
  | fnm _ => exact h.up b.ex
  | non => exact h.up b.ex
  | bl _ => exact h.up b.ex
  | int _ => exact h.up b.ex
  | str _ => exact h.up b.ex
theorem Seen.dp (h : Seen K H v d) (e : d.pure = true) : Dp K H v d.py := by
  cases d with
  | lst l =>
    obtain ⟨a, xs, h1, h2, h3⟩ := h
    subst h1
    exact .lst h2 (Reps.dp l _ h3 e)
  | _ => exact Rep.dp _ _ h e
theorem Seen.v_eq (h : Seen K H v d) (e : d.flat = true) : v = d.v := by
  cases d with
  | lst l => cases e
  | _ => exact Rep.v_eq h e
end

/-! ### slots -/
theorem nth_put : ∀ (ρ : Env) (i j : Nat) (x : Option D), nth (put ρ i x) j = if j = i then (if i < ρ.length then x else none) else nth ρ j
  | [], i, j, x => by
    show nth [] j = _
    unfold nth
    split <;> simp
  | y :: l, 0, 0, x => by simp [put, nth]
  | y :: l, 0, j + 1, x => by simp [put, nth]
  | y :: l, i + 1, 0, x => by simp [put, nth]
  | y :: l, i + 1, j + 1, x => by
    show nth (put l i x) j = _
    rw [nth_put l i j x]
    simp [nth]
theorem put_length : ∀ (ρ : Env) (i : Nat) (x : Option D), (put ρ i x).length = ρ.length
  | [], _, _ => rfl
  | _ :: _, 0, _ => rfl
  | _ :: l, i + 1, x => by
    show (put l i x).length + 1 = l.length + 1
    rw [put_length l i x]
section
variable {K : Frag} {Z : Wd} {G H : Hp} {M : Mp} {σ : L2.St} {ρ : Env}
theorem Rel.put (r : Rel K Z G H M σ ρ) {v : V} {d : D} (h : Rep K G v d) (i : Nat) : Rel K Z G H M (σ.set i (some v)) (T.put ρ i (some d)) := by
  refine ⟨r.base, r.tr, by rw [put_length, List.length_set]; exact r.len, fun j e hj => ?_⟩
  rw [nth_put] at hj
  by_cases q : j = i
  · rw [if_pos q] at hj
    by_cases q2 : i < ρ.length
    · rw [if_pos q2] at hj
      cases hj
      refine ⟨v, ?_, h⟩
      rw [q, List.getElem?_set_self (by rw [← r.len]; exact q2)]
    · rw [if_neg q2] at hj
      cases hj
  · rw [if_neg q] at hj
    obtain ⟨w, h1, h2⟩ := r.slot j e hj
    exact ⟨w, by rw [List.getElem?_set_ne (Ne.symm q)]; exact h1, h2⟩
theorem Rel.unput (r : Rel K Z G H M σ ρ) (i : Nat) : Rel K Z G H M (σ.set i none) (T.put ρ i none) := by
  refine ⟨r.base, r.tr, by rw [put_length, List.length_set]; exact r.len, fun j e hj => ?_⟩
  rw [nth_put] at hj
  by_cases q : j = i
  · rw [if_pos q] at hj
    split at hj <;> cases hj
  · rw [if_neg q] at hj
    obtain ⟨w, h1, h2⟩ := r.slot j e hj
    exact ⟨w, by rw [List.getElem?_set_ne (Ne.symm q)]; exact h1, h2⟩
theorem Rel.wipe (r : Rel K Z G H M σ ρ) : ∀ vs : List Nat, Rel K Z G H M (L2.wipe σ vs) (wipeE ρ vs)
  | [] => r
  | v :: vs => (Rel.wipe r vs).unput v
theorem wipe_set {σ : L2.St} {x : Option V} : ∀ {vs : List Nat} {i : Nat}, i ∈ vs → L2.wipe (σ.set i x) vs = L2.wipe σ vs
  | v :: vs, i, h => by
    show (L2.wipe (σ.set i x) vs).set v none = (L2.wipe σ vs).set v none
    by_cases q : i ∈ vs
    · rw [wipe_set q]
    · have e : i = v := by
        rcases List.mem_cons.mp h with e | e
        · exact e
        · exact absurd e q
      subst e
      have comm : ∀ (us : List Nat) (τ : L2.St), i ∉ us → L2.wipe (τ.set i x) us = (L2.wipe τ us).set i x := by
        intro us
        induction us with
        | nil => intro τ _; rfl
        | cons u us ih =>
          intro τ hn
          have h1 : u ≠ i := fun z => hn (by rw [z]; exact List.mem_cons_self)
          have h2 : i ∉ us := fun z => hn (List.mem_cons_of_mem _ z)
          show (L2.wipe (τ.set i x) us).set u none = ((L2.wipe τ us).set u none).set i x
          rw [ih τ h2, List.set_comm _ _ (Ne.symm h1)]
      rw [comm vs σ q, List.set_set]
theorem wipe_wipe {σ : L2.St} : ∀ (vs us : List Nat), (∀ v ∈ us, v ∈ vs) → L2.wipe (L2.wipe σ us) vs = L2.wipe σ vs
  | _, [], _ => rfl
  | vs, u :: us, h => by
    show L2.wipe ((L2.wipe σ us).set u none) vs = _
    rw [wipe_set (h u List.mem_cons_self)]
    exact wipe_wipe vs us fun v hv => h v (List.mem_cons_of_mem _ hv)
end
end T

/-! T: the operators' rules over data; the checker that compares own syntax with the row's. -/
namespace T
open PySem L2 PyProof.Rows

def BOp.py : BOp → Operator
  | .add => .Add | .sub => .Sub | .mul => .Mult | .mulW => .Mult | .fdiv => .FloorDiv | .fdivW => .FloorDiv | .mod => .Mod | .modN => .Mod | .pow => .Pow
  | .shl => .LShift | .shr => .RShift | .band => .BitAnd | .bor => .BitOr | .bxor => .BitXor | .catS => .Add | .repS => .Mult
def UOp.py : UOp → UnaryOp
  | .neg => .USub | .inv => .Invert
def COp.py : COp → CmpOp
  | .lt => .Lt | .le => .LtE | .gt => .Gt | .ge => .GtE | .eq => .Eq | .ne => .NotEq | .inn => .In | .nin => .NotIn | .inS => .In | .ninS => .NotIn
def BF.py : BF → Str
  | .len => "len" | .min2 => "min" | .max2 => "max" | .abs => "abs" | .int => "int" | .str => "str" | .sum => "sum" | .maxL => "max" | .min3 => "min" | .max3 => "max"

section
variable {X : Cx} {K : Frag}
theorem bop_mono {o : BOp} {a b : D} {k k' : D → Prop} (h : bop o a b k) (m : ∀ d, d.flat = true → k d → k' d) : bop o a b k' := by
  cases a <;> cases b <;> cases o <;> simp only [bop] at h ⊢ <;> first
    | exact m _ rfl h
    | exact ⟨h.1, m _ rfl h.2⟩
theorem uop_mono {o : UOp} {a : D} {k k' : D → Prop} (h : uop o a k) (m : ∀ d, d.flat = true → k d → k' d) : uop o a k' := by
  cases a <;> cases o <;> simp only [uop] at h ⊢ <;> exact m _ rfl h
theorem cop_mono {o : COp} {a b : D} {k k' : Bool → Prop} (h : cop o a b k) (m : ∀ d, k d → k' d) : cop o a b k' := by
  cases o <;> cases a <;> cases b <;> simp only [cop] at h ⊢ <;> first
    | exact m _ h
    | exact ⟨h.1, m _ h.2⟩
    | (obtain ⟨c, h1, h2⟩ := h; exact ⟨c, h1, m _ h2⟩)
theorem mul_ok {s : Str} {j : Int} (h1 : -(2 ^ 63) ≤ j) (h2 : j < 2 ^ 63) (h3 : s.length * j.toNat ≤ sizeLine) : PySem.MulOk s j := by
  have hs := PySem.sizeLine_eq
  refine ⟨?_, fun h _ => ?_, fun h _ => ?_⟩
  · rw [Bool.or_eq_false_iff]
    exact ⟨decide_eq_false (by omega), decide_eq_false (by omega)⟩
  · have h5 : ((s.length : Nat) : Int) * j ≤ 2 ^ 63 - 1 := by
      have e : ((s.length * j.toNat : Nat) : Int) = (s.length : Int) * j := by
        rw [Int.natCast_mul, Int.toNat_of_nonneg (by omega)]
      omega
    have := (Int.le_ediv_iff_mul_le (show 0 < j by omega)).mpr h5
    omega
  · unfold PySem.Builtin.Str.tooLong
    exact decide_eq_false (by omega)
theorem op_mul_str : OpR X (binaryOp .Mult) (fun x y H Q => ∃ i j, x = .str i ∧ y = .int j ∧ (-(2 ^ 63) ≤ j ∧ j < 2 ^ 63 ∧ i.length * j.toNat ≤ sizeLine) ∧ Q (.str (PySem.Txt.mul i j)) H) := by
  intro pins s σ H x y v u Q I rx ry h
  obtain ⟨i, j, rfl, rfl, ⟨h1, h2, h3⟩, q⟩ := h
  obtain ⟨t, rfl⟩ := rx
  obtain ⟨t', rfl⟩ := ry
  exact PySem.SB.mul (mul_ok h1 h2 h3) (fun t' tk => ⟨.str _, H, I.tok _, ⟨_, rfl⟩, q⟩)
def rB (K : Frag) (o : BOp) : R2 := fun x y H Q => ∃ d1 d2, Rep K H x d1 ∧ Rep K H y d2 ∧ bop o d1 d2 fun d => Q d.v H
theorem op_bop (o : BOp) : OpR X (binaryOp o.py) (rB X.K o) := by
  intro pins s σ H x y v u Q I rx ry h
  obtain ⟨d1, d2, h1, h2, h⟩ := h
  cases o <;> cases d1 <;> cases d2 <;> simp only [bop] at h <;> cases h1 <;> cases h2
  case add => exact op_add pins s σ H _ _ v u Q I rx ry ⟨_, _, rfl, rfl, h⟩
  case sub => exact op_sub pins s σ H _ _ v u Q I rx ry ⟨_, _, rfl, rfl, h⟩
  case mul => exact op_mul pins s σ H _ _ v u Q I rx ry ⟨_, _, rfl, rfl, h.1, h.2⟩
  case mulW => exact op_mulW pins s σ H _ _ v u Q I rx ry ⟨_, _, rfl, rfl, h.1, h.2⟩
  case fdiv => exact op_fdiv pins s σ H _ _ v u Q I rx ry ⟨_, _, rfl, rfl, h.1, h.2⟩
  case fdivW => exact op_fdivW pins s σ H _ _ v u Q I rx ry ⟨_, _, rfl, rfl, h.1, h.2⟩
  case mod => exact op_mod pins s σ H _ _ v u Q I rx ry ⟨_, _, rfl, rfl, h.1, h.2⟩
  case modN => exact op_modN pins s σ H _ _ v u Q I rx ry ⟨_, _, rfl, rfl, h.1, h.2⟩
  case pow => exact op_pow pins s σ H _ _ v u Q I rx ry ⟨_, _, rfl, rfl, h.1, h.2⟩
  case shl => exact op_shl pins s σ H _ _ v u Q I rx ry ⟨_, _, rfl, rfl, h.1, h.2⟩
  case shr => exact op_shr pins s σ H _ _ v u Q I rx ry ⟨_, _, rfl, rfl, h.1, h.2⟩
  case band => exact op_and pins s σ H _ _ v u Q I rx ry ⟨_, _, rfl, rfl, h⟩
  case bor => exact op_or pins s σ H _ _ v u Q I rx ry ⟨_, _, rfl, rfl, h⟩
  case bxor => exact op_xor pins s σ H _ _ v u Q I rx ry ⟨_, _, rfl, rfl, h⟩
  case catS => exact op_add_str pins s σ H _ _ v u Q I rx ry ⟨_, _, rfl, rfl, h.1, h.2⟩
  case repS => exact op_mul_str pins s σ H _ _ v u Q I rx ry ⟨_, _, rfl, rfl, h.1, h.2⟩
def rU1 (K : Frag) (o : UOp) : V → Hp → VK → Prop := fun x H Q => ∃ d1, Rep K H x d1 ∧ uop o d1 fun d => Q d.v H
theorem op_uop (o : UOp) : UnR X (unaryOp o.py) (rU1 X.K o) := by
  intro pins s σ H x v Q I rx h
  obtain ⟨d1, h1, h⟩ := h
  cases o <;> cases d1 <;> simp only [uop] at h <;> cases h1
  case neg => exact un_neg pins s σ H _ v Q I rx ⟨_, rfl, h⟩
  case inv => exact un_inv pins s σ H _ v Q I rx ⟨_, rfl, h⟩
def rC (K : Frag) (o : COp) : R2 := fun x y H Q => ∃ d1 d2, Seen K H x d1 ∧ Seen K H y d2 ∧ cop o d1 d2 fun b => Q (.bl b) H
theorem op_cop (hu : X.A.units + 64 < cLine) (o : COp) : OpR X (compareOp o.py) (rC X.K o) := by
  intro pins s σ H x y v u Q I rx ry h
  obtain ⟨d1, d2, h1, h2, h⟩ := h
  cases o with
  | eq =>
    obtain ⟨⟨e1, e2⟩, h⟩ := h
    unfold D.eqok at e1 e2
    rw [Bool.and_eq_true] at e1 e2
    exact op_eqD hu pins s σ H _ _ v u Q I rx ry ⟨_, _, h1.dp e1.1, h2.dp e2.1, e1.2, e2.2, h⟩
  | ne =>
    obtain ⟨⟨e1, e2⟩, h⟩ := h
    unfold D.eqok at e1 e2
    rw [Bool.and_eq_true] at e1 e2
    exact op_neD hu pins s σ H _ _ v u Q I rx ry ⟨_, _, h1.dp e1.1, h2.dp e2.1, e1.2, e2.2, h⟩
  | lt =>
    cases d1 <;> cases d2 <;> simp only [cop] at h <;> cases h1 <;> cases h2
    exact op_lt pins s σ H _ _ v u Q I rx ry ⟨_, _, rfl, rfl, h⟩
  | le =>
    cases d1 <;> cases d2 <;> simp only [cop] at h <;> cases h1 <;> cases h2
    exact op_le pins s σ H _ _ v u Q I rx ry ⟨_, _, rfl, rfl, h⟩
  | gt =>
    cases d1 <;> cases d2 <;> simp only [cop] at h <;> cases h1 <;> cases h2
    exact op_gt pins s σ H _ _ v u Q I rx ry ⟨_, _, rfl, rfl, h⟩
  | ge =>
    cases d1 <;> cases d2 <;> simp only [cop] at h <;> cases h1 <;> cases h2
    exact op_ge pins s σ H _ _ v u Q I rx ry ⟨_, _, rfl, rfl, h⟩
  | inn =>
    have go : ∀ (p : Addr) (xs : List V) (l : List D), y = .ref p → (SqL X.K H p xs ∨ SqT X.K H p xs) → Reps X.K H xs l → (d1.flat = true ∧ l.all D.flat = true) → Q (.bl (inV d1.v (l.map D.v))) H →
        wpAny (model X.prog X.w) X.A (compareOp .In v u) (EP X pins σ Q) X.xe s := fun p xs l e hs r hf q => by
      have e1 := h1.v_eq hf.1
      have e2 := r.v_eq hf.2
      exact op_in_seq pins s σ H _ _ v u Q I rx ry ⟨p, xs, e, hs, by rw [e1]; exact D.v_flat hf.1, by rw [e2]; exact D.vs_flat hf.2, by rw [e1, e2]; exact q⟩
    cases d2 <;> simp only [cop] at h
    · obtain ⟨a, xs, h3, h4, h5⟩ := h2
      exact go _ _ _ h3 (.inl h4) h5 h.1 h.2
    · cases h2 with
      | tup h3 h4 => exact go _ _ _ rfl (.inr h3) h4 h.1 h.2
  | nin =>
    have go : ∀ (p : Addr) (xs : List V) (l : List D), y = .ref p → (SqL X.K H p xs ∨ SqT X.K H p xs) → Reps X.K H xs l → (d1.flat = true ∧ l.all D.flat = true) → Q (.bl (!inV d1.v (l.map D.v))) H →
        wpAny (model X.prog X.w) X.A (compareOp .NotIn v u) (EP X pins σ Q) X.xe s := fun p xs l e hs r hf q => by
      have e1 := h1.v_eq hf.1
      have e2 := r.v_eq hf.2
      exact op_notIn_seq pins s σ H _ _ v u Q I rx ry ⟨p, xs, e, hs, by rw [e1]; exact D.v_flat hf.1, by rw [e2]; exact D.vs_flat hf.2, by rw [e1, e2]; exact q⟩
    cases d2 <;> simp only [cop] at h
    · obtain ⟨a, xs, h3, h4, h5⟩ := h2
      exact go _ _ _ h3 (.inl h4) h5 h.1 h.2
    · cases h2 with
      | tup h3 h4 => exact go _ _ _ rfl (.inr h3) h4 h.1 h.2
  | inS =>
    cases d1 <;> cases d2 <;> simp only [cop] at h <;> cases h1 <;> cases h2
    obtain ⟨c, e, h⟩ := h
    subst e
    exact op_in_sign pins s σ H _ _ v u Q I rx ry ⟨_, _, rfl, rfl, h⟩
  | ninS =>
    cases d1 <;> cases d2 <;> simp only [cop] at h <;> cases h1 <;> cases h2
    obtain ⟨c, e, h⟩ := h
    subst e
    exact op_notIn_sign pins s σ H _ _ v u Q I rx ry ⟨_, _, rfl, rfl, h⟩
end

/-! ### the checker -/
def visB (sc : Scope) (x : Str) : Bool := match sc.names.lookup x with
  | some .local => true
  | some .cell => true
  | some .free => true
  | _ => false
def locB (sc : Scope) (x : Str) : Bool := match sc.names.lookup x with
  | some .local => true
  | some .cell => true
  | _ => false
def glB (sc : Scope) (x : Str) : Bool := match sc.names.lookup x with
  | some .globalImplicit => !(x == ("__debug__" : Str)) && !(x == ("__name__" : Str))
  | _ => false
def varB (N : List Str) (sc : Scope) (i : Nat) (x : Str) : Bool := decide (N[i]? = some x) && visB sc x && !(x == ("__debug__" : Str)) && !(x == ("__classdict__" : Str))
def lclB (sc : Scope) (x : Str) : Bool := match sc.names.lookup x with
  | some .local => true
  | _ => false
/-- the places of a loop's targets -/
def tgB (lc : Scope → Str → Bool) (N : List Str) (sc : Scope) : List Nat → List Expr → Bool
  | [], [] => true
  | i :: is, .Name x _ :: es => decide (N[i]? = some x) && lc sc x && tgB lc N sc is es
  | _, _ => false
def targB (lc : Scope → Str → Bool) (N : List Str) (sc : Scope) (is : List Nat) (tup : Bool) : Expr → Bool
  | .Name x p => !tup && tgB lc N sc is [.Name x p] && is.length == 1
  | .Tuple es _ _ => tup && tgB lc N sc is es
  | _ => false
/-- none of the forms that are asked for by their look -/
def plainX : Expr → Bool
  | .Starred _ _ => false
  | .Slice _ _ _ _ => false
  | .Set _ _ _ => false
  | .NamedExpr _ _ _ => false
  | _ => true
def frzX : Expr → Bool
  | .Call _ _ _ _ => true
  | .Name _ _ => true
  | .Subscript _ _ _ => true
  | _ => false
def noCall : Expr → Bool
  | .Call _ _ _ _ => false
  | _ => true
def keyB : Key → Expr → Bool
  | .inl i, .Constant (.int j) _ _ => decide (i = j)
  | .inr s, .Constant (.str t) _ _ => decide (s = t)
  | _, _ => false
/-- a whole number as it is written -/
def cstB (c : Int) : Expr → Bool
  | .Constant (.int j) _ _ => decide (c = j)
  | .UnaryOp .USub (.Constant (.int j) _ _) _ => decide (c = -j)
  | _ => false
def stpB (c : Int) : List Expr → Bool
  | [] => decide (c = 1)
  | [e] => cstB c e
  | _ => false
/-- names of the top, as they are written -/
def nmsB (sc : Scope) : List Str → List Expr → Bool
  | [], [] => true
  | x :: xs, .Name y _ :: es => decide (y = x) && glB sc y && nmsB sc xs es
  | _, _ => false
def atB : Expr → Bool
  | .Name _ _ => true
  | .Attribute (.Name _ _) _ _ => true
  | _ => false
mutual
def okE (N : List Str) (sc : Scope) : E → Expr → Bool
  | .var i => fun e => match e with
    | .Name x _ => varB N sc i x
    | _ => false
  | .int i => fun e => match e with
    | .Constant (.int j) _ _ => decide (i = j)
    | _ => false
  | .str i => fun e => match e with
    | .Constant (.str j) _ _ => decide (i = j)
    | _ => false
  | .bl i => fun e => match e with
    | .Constant (.bool j) _ _ => decide (i = j)
    | _ => false
  | .non => fun e => match e with
    | .Constant .none _ _ => true
    | _ => false
  | .bin o a b => fun e => match e with
    | .BinOp l op r _ => decide (o.py = op) && okE N sc a l && okE N sc b r
    | _ => false
  | .cat _ a b => fun e => match e with
    | .BinOp l op r _ => decide (Operator.Add = op) && okE N sc a l && okE N sc b r
    | _ => false
  | .catT a b => fun e => match e with
    | .BinOp l op r _ => decide (Operator.Add = op) && okE N sc a l && okE N sc b r
    | _ => false
  | .rep _ a b => fun e => match e with
    | .BinOp l op r _ => decide (Operator.Mult = op) && okE N sc a l && okE N sc b r
    | _ => false
  | .un o a => fun e => match e with
    | .UnaryOp op l _ => decide (o.py = op) && okE N sc a l
    | _ => false
  | .cmp o a b => fun e => match e with
    | .Compare l [op] [r] _ => decide (o.py = op) && plainX r && okE N sc a l && okE N sc b r
    | _ => false
  | .ch2 o1 o2 a b c => fun e => match e with
    | .Compare l [op1, op2] [r1, r2] _ => decide (o1.py = op1) && decide (o2.py = op2) && plainX r2 && okE N sc a l && okE N sc b r1 && okE N sc c r2
    | _ => false
  | .ch3 o1 o2 o3 a b c d => fun e => match e with
    | .Compare l [op1, op2, op3] [r1, r2, r3] _ => decide (o1.py = op1) && decide (o2.py = op2) && decide (o3.py = op3) && plainX r3 && okE N sc a l && okE N sc b r1 && okE N sc c r2 && okE N sc d r3
    | _ => false
  | .isN neg a => fun e => match e with
    | .Compare l [op] [.Constant .none _ _] _ => decide ((if neg = true then CmpOp.IsNot else CmpOp.Is) = op) && okE N sc a l
    | _ => false
  | .and a b => fun e => match e with
    | .BoolOp .And (v :: w :: vs) pos => okE N sc a v && okE N sc b (.BoolOp .And (w :: vs) pos)
    | _ => false
  | .or a b => fun e => match e with
    | .BoolOp .Or (v :: w :: vs) pos => okE N sc a v && okE N sc b (.BoolOp .Or (w :: vs) pos)
    | _ => false
  | .one a => fun e => match e with
    | .BoolOp _ [v] _ => okE N sc a v
    | _ => false
  | .not a => fun e => match e with
    | .UnaryOp op l _ => decide (UnaryOp.Not = op) && okE N sc a l
    | _ => false
  | .ite c a b => fun e => match e with
    | .IfExp t x y _ => okE N sc c t && okE N sc a x && okE N sc b y
    | _ => false
  | .slc _ a lo hi => fun e => match e with
    | .Subscript l (.Slice lo' hi' none _) _ => okE N sc a l && okO N sc lo lo' && okO N sc hi hi'
    | _ => false
  | .idx a b => fun e => match e with
    | .Subscript l r _ => plainX r && okE N sc a l && okE N sc b r
    | _ => false
  | .tup as => fun e => match e with
    | .Tuple es _ _ => okA N sc as es
    | _ => false
  | .lst _ as => fun e => match e with
    | .List es _ => okA N sc as es
    | _ => false
  | .cpy _ a => fun e => match e with
    | .Call (.Name x _) [e] [] _ => plainX e && decide (x = ("list" : Str)) && glB sc x && okE N sc a e
    | _ => false
  | .srt _ a => fun e => match e with
    | .Call (.Name x _) [e] [] _ => plainX e && decide (x = ("sorted" : Str)) && glB sc x && okE N sc a e
    | _ => false
  | .call g _ as => fun e => match e with
    | .Call (.Name x _) es [] _ => decide (x = g) && glB sc x && okA N sc as es
    | _ => false
  | .blt f as => fun e => match e with
    | .Call (.Name x _) (e :: es) [] _ => decide (x = f.py) && glB sc x && okA N sc as (e :: es)
    | _ => false
  | .isi a ty => fun e => match e with
    | .Call (.Name x _) [e, .Name t _] [] _ => plainX e && decide (x = ("isinstance" : Str)) && glB sc x && decide (t = Str.ofString ty) && ["bool", "int", "str", "list", "tuple"].contains ty && glB sc t && okE N sc a e
    | _ => false
  | .comp _ own tg tup it c el => fun e => match e with
    | .ListComp elt [⟨tgt, iter, ifs, as⟩] scope _ => plainX iter && decide (as = 0) && blkC N sc scope own && okI N sc it tup iter && targB lclB N (relS scope sc) tg tup tgt && tg.all (fun i => own.any fun p => p.2 == i)
      && okT N (relS scope sc) c ifs && okE N (relS scope sc) el elt
    | _ => false
  | .frz a => fun e => frzX e && okE N sc a e
  | .isB neg v a => fun e => match e with
    | .Compare l [op] [.Constant (.bool w) _ _] _ => decide ((if neg = true then CmpOp.IsNot else CmpOp.Is) = op) && decide (v = w) && okE N sc a l
    | _ => false
  | .dsp ks vs a => fun e => match e with
    | .Subscript (.Dict keys values _) r _ => plainX r && decide ks.Nodup && decide (0 < ks.length) && decide (ks.length ≤ 15) && okD N sc vs ks keys values && okE N sc a r
    | _ => false
  | .rev _ a => fun e => match e with
    | .Subscript l (.Slice none none (some (.UnaryOp .USub (.Constant (.int i) _ _) _)) _) _ => decide (i = 1) && okE N sc a l
    | _ => false
  | .cnt v a => fun e => match e with
    | .Call (.Attribute o at' p) [.Constant (.bool w) _ _] [] q => decide (at' = ("count" : Str)) && decide (v = w) && noCall o && (p.endLine == q.line) && okE N sc a o
    | _ => false
  | .sset _ a => fun e => match e with
    | .Call (.Name x _) [.Call (.Name y _) [e] [] _] [] _ => plainX e && decide (x = ("sorted" : Str)) && decide (y = ("set" : Str)) && glB sc x && glB sc y && okE N sc a e
    | _ => false
  | .glb x _ => fun e => match e with
    | .Name y _ => decide (x = y) && glB sc y
    | _ => false
  | .stp _ a lo => fun e => match e with
    | .Subscript l (.Slice lo' none (some (.Constant (.int j) _ _)) _) _ => decide (j = 2) && okE N sc a l && okO N sc lo lo'
    | _ => false
  | .catA a b => fun e => match e with
    | .BinOp l op r _ => decide (Operator.Add = op) && okE N sc a l && okE N sc b r
    | _ => false
  | .isi2 a ty ty2 => fun e => match e with
    | .Call (.Name x _) [e, .Tuple [.Name t _, .Name u _] _ _] [] _ => plainX e && decide (x = ("isinstance" : Str)) && glB sc x && decide (t = Str.ofString ty) && decide (u = Str.ofString ty2) && ["bool", "int", "str", "list", "tuple"].contains ty && ["bool", "int", "str", "list", "tuple"].contains ty2 && glB sc t && glB sc u && okE N sc a e
    | _ => false
  | .fld _ f a => fun e => match e with
    | .Attribute o x _ => decide (x = f) && noCall o && okE N sc a o
    | _ => false
  | .meth _ m _ a as => fun e => match e with
    | .Call (.Attribute o x p) es [] q => decide (x = m) && noCall o && (p.endLine == q.line) && decide (es.length < 30) && okE N sc a o && okA N sc as es
    | _ => false
  | .make c _ as => fun e => match e with
    | .Call (.Name x _) es [] _ => decide (x = c) && glB sc x && okA N sc as es
    | _ => false
  | .isE _ cl a => fun e => match e with
    | .Call (.Name x _) [e, .Name t _] [] _ => plainX e && decide (x = ("isinstance" : Str)) && glB sc x && decide (t = cl) && glB sc t && okE N sc a e
    | _ => false
  | .isEs _ cls a => fun e => match e with
    | .Call (.Name x _) [e, .Tuple ts _ _] [] _ => plainX e && decide (x = ("isinstance" : Str)) && glB sc x && nmsB sc cls ts && decide (0 < cls.length) && decide (cls.length ≤ 20) && okE N sc a e
    | _ => false
  | .popE a => fun e => match e with
    | .Call (.Attribute o x p) [] [] q => decide (x = ("pop" : Str)) && noCall o && (p.endLine == q.line) && okE N sc a o
    | _ => false
  | .fnv x => fun e => match e with
    | .Name y _ => decide (x = y) && glB sc y
    | _ => false
  | .callV i _ as => fun e => match e with
    | .Call (.Name x _) (e :: es) [] _ => varB N sc i x && okA N sc as (e :: es)
    | _ => false
  | .dlit ks vs => fun e => match e with
    | .Dict keys values _ => (decide (0 < ks.length) || (keys.isEmpty && values.isEmpty)) && decide ks.Nodup && decide (ks.length ≤ 15) && okD N sc vs ks keys values
    | _ => false
  | .dget a b => fun e => match e with
    | .Subscript l r _ => plainX r && okE N sc a l && okE N sc b r
    | _ => false
  | .dhas neg a b => fun e => match e with
    | .Compare l [op] [r] _ => decide ((if neg = true then CmpOp.NotIn else CmpOp.In) = op) && plainX r && okE N sc a l && okE N sc b r
    | _ => false
  | .join a b => fun e => match e with
    | .Call (.Attribute o at' p) [e] [] q => decide (at' = ("join" : Str)) && noCall o && (p.endLine == q.line) && plainX e && okE N sc a o && okE N sc b e
    | _ => false
  | .upp a => fun e => match e with
    | .Call (.Attribute o at' p) [] [] q => decide (at' = ("upper" : Str)) && noCall o && (p.endLine == q.line) && okE N sc a o
    | _ => false
  | .dgetd a b c => fun e => match e with
    | .Call (.Attribute o at' p) [e, f] [] q => decide (at' = ("get" : Str)) && noCall o && (p.endLine == q.line) && plainX e && plainX f && okE N sc a o && okE N sc b e && okE N sc c f
    | _ => false
  | .dl1 a b => fun e => match e with
    | .Dict [some e] [f] _ => okE N sc a e && okE N sc b f
    | _ => false
  | .dkeys _ a => fun e => match e with
    | .Call (.Name x _) [e] [] _ => plainX e && decide (x = ("list" : Str)) && glB sc x && okE N sc a e
    | _ => false
  | .slcT a lo hi => fun e => match e with
    | .Subscript l (.Slice lo' hi' none _) _ => okE N sc a l && okO N sc lo lo' && okO N sc hi hi'
    | _ => false
  | .repT a b => fun e => match e with
    | .BinOp l op r _ => decide (Operator.Mult = op) && okE N sc a l && okE N sc b r
    | _ => false
  | .tupO a => fun e => match e with
    | .Call (.Name x _) [e] [] _ => plainX e && decide (x = ("tuple" : Str)) && glB sc x && okE N sc a e
    | _ => false
  | .dictP a => fun e => match e with
    | .Call (.Name x _) [e] [] _ => plainX e && decide (x = ("dict" : Str)) && glB sc x && okE N sc a e
    | _ => false
  | .srtk _ a => fun e => match e with
    | .Call (.Name x _) [e] [] _ => plainX e && decide (x = ("sorted" : Str)) && glB sc x && okE N sc a e
    | _ => false
  | .kin x _ a => fun e => match e with
    | .Compare l [op] [.Name y _] _ => decide (CmpOp.In = op) && decide (y = x) && glB sc y && okE N sc a l
    | _ => false
  | .kget x _ a => fun e => match e with
    | .Subscript (.Name y _) r _ => decide (y = x) && glB sc y && plainX r && okE N sc a r
    | _ => false
  | .bl1 a b => fun e => match e with
    | .Dict [some e] [f] _ => okE N sc a e && okE N sc b f
    | _ => false
  | .bnot a b => fun e => match e with
    | .Compare l [op] [r] _ => decide (CmpOp.NotIn = op) && plainX r && okE N sc a l && okE N sc b r
    | _ => false
  | .splt _ a b => fun e => match e with
    | .Call (.Attribute o at' p) [e] [] q => decide (at' = ("split" : Str)) && noCall o && (p.endLine == q.line) && plainX e && okE N sc a o && okE N sc b e
    | _ => false
  | .lrg a b c => fun e => match e with
    | .Call (.Name y _) [.Call (.Name x _) (ea :: eb :: es) [] _] [] _ => decide (y = ("list" : Str)) && decide (x = ("range" : Str)) && glB sc y && glB sc x && plainX ea && plainX eb && stpB c es && okE N sc a ea && okE N sc b eb
    | _ => false
def okD (N : List Str) (sc : Scope) : A → List Key → List (Option Expr) → List Expr → Bool
  | .nil => fun ks es vs => match ks, es, vs with
    | [], [], [] => true
    | _, _, _ => false
  | .cons a as => fun ks es vs => match ks, es, vs with
    | k :: ks, some e :: es, v :: vs => keyB k e && okE N sc a v && okD N sc as ks es vs
    | _, _, _ => false
def okO (N : List Str) (sc : Scope) : A → Option Expr → Bool
  | .nil => fun e => match e with
    | none => true
    | _ => false
  | .cons a _ => fun e => match e with
    | some e => okE N sc a e
    | _ => false
def okT (N : List Str) (sc : Scope) : A → List Expr → Bool
  | .nil => fun e => match e with
    | [] => true
    | _ => false
  | .cons a _ => fun e => match e with
    | [e] => okE N sc a e
    | _ => false
def okA (N : List Str) (sc : Scope) : A → List Expr → Bool
  | .nil => fun e => match e with
    | [] => true
    | _ => false
  | .cons a as => fun e => match e with
    | e :: es => plainX e && okE N sc a e && okA N sc as es
    | _ => false
def okI (N : List Str) (sc : Scope) : I → Bool → Expr → Bool
  | .r1 a => fun _ e => match e with
    | .Call (.Name x _) [e] [] _ => plainX e && decide (x = ("range" : Str)) && glB sc x && okE N sc a e
    | _ => false
  | .r2 a b => fun _ e => match e with
    | .Call (.Name x _) [e, e2] [] _ => plainX e && plainX e2 && decide (x = ("range" : Str)) && glB sc x && okE N sc a e && okE N sc b e2
    | _ => false
  | .r3 a b c => fun _ e => match e with
    | .Call (.Name x _) [e, e2, e3] [] _ => plainX e && plainX e2 && cstB c e3 && decide (x = ("range" : Str)) && glB sc x && okE N sc a e && okE N sc b e2
    | _ => false
  | .lst a => fun _ e => okE N sc a e
  | .tup a => fun _ e => okE N sc a e
  | .str a => fun _ e => okE N sc a e
  | .enum a => fun tup e => match e with
    | .Call (.Name x _) [e] [] _ => tup && plainX e && decide (x = ("enumerate" : Str)) && glB sc x && okE N sc a e
    | _ => false
end
end T

/-! T: soundness of the expressions: the pieces. -/
namespace T
open PySem L2 PyProof.Rows

/-! ### readings -/
/-- what is wanted where an exception leaves -/
def HX (K : Frag) (Z : Wd) (cv : Str → Value) (W : WX) (σ : L2.St) (ρ : Env) (x : XP) : Prop :=
  ∀ c M', x c M' → ∀ G' H', Rel K Z G' H' M' σ ρ → W (cv c) none σ H'
def tE (K : Frag) (cv : Str → Value) (W : WX) (e : E) : TE := fun σ H Q => ∃ Z G M ρ k x, Rel K Z G H M σ ρ ∧ wpE e ρ M k x ∧
  (∀ d M', k d M' → ∀ v G' H', Rel K Z G' H' M' σ ρ → Ex G G' → Rep K G' v d → Q v H') ∧ HX K Z cv W σ ρ x
def tTs (K : Frag) (cv : Str → Value) (W : WX) (e : E) : TT := fun σ H Q => ∃ (Z : Wd) (G : Hp) (M : Mp) (ρ : Env) (k : Bool → Mp → Prop) (x : XP), Rel K Z G H M σ ρ ∧ wpE e ρ M (fun d M' => asBl d fun b => k b M') x ∧
  (∀ b M', k b M' → ∀ G' H', Rel K Z G' H' M' σ ρ → Ex G G' → Q b H') ∧ HX K Z cv W σ ρ x
def tAs (K : Frag) (cv : Str → Value) (W : WX) (as : A) : TA := fun σ H Q => ∃ Z G M ρ k x, Rel K Z G H M σ ρ ∧ wpA as ρ M k x ∧
  (∀ ds M', k ds M' → ∀ vs G' H', Rel K Z G' H' M' σ ρ → Ex G G' → Reps K G' vs ds → Q vs H') ∧ HX K Z cv W σ ρ x
def tOs (K : Frag) (cv : Str → Value) (W : WX) (as : A) : TO := fun σ H Q => ∃ Z G M ρ k x, Rel K Z G H M σ ρ ∧ wpO as ρ M k x ∧
  (∀ i M', k i M' → ∀ G' H', Rel K Z G' H' M' σ ρ → Ex G G' → Q i H') ∧ HX K Z cv W σ ρ x
def tIf1 (K : Frag) (as : A) : TT := fun σ H Q => ∃ Z G M ρ k, Rel K Z G H M σ ρ ∧ wpT as ρ M k ∧
  (∀ b M', k b M' → ∀ G' H', Rel K Z G' H' M' σ ρ → Ex G G' → Q b H')
/-- what is walked: its items by the turns -/
structure Walks (K : Frag) (G0 : Hp) (J : It) (ds : List D) (g : Mp → Prop) : Prop where
  go : ∀ Z i G H M σ ρ, Rel K Z G H M σ ρ → Ex G0 G → g M → i < ds.length → J.go i H
  yld : ∀ Z i G H M σ ρ x H' d, Rel K Z G H M σ ρ → Ex G0 G → g M → ds[i]? = some d → J.yld i H x H' → ∃ G', Base K G' H' M ∧ Tr G H M G' H' M ∧ Rep K G' x d
  stop : ∀ Z G H M σ ρ, Rel K Z G H M σ ρ → Ex G0 G → g M → J.stop ds.length H
def tIs (K : Frag) (cv : Str → Value) (W : WX) (it : I) : TI := fun σ H R => ∃ Z G M ρ k x, Rel K Z G H M σ ρ ∧ wpI it ρ M k x ∧
  (∀ ds g M', k ds g M' → ∀ J G' H', Rel K Z G' H' M' σ ρ → Ex G G' → Walks K G' J ds g → R J H') ∧ HX K Z cv W σ ρ x

/-! ### calls -/
def SpM (K : Frag) (cv : Str → Value) (F : Spec) : Sp := fun vs H Q E => ∃ G M ds k x, Base K G H M ∧ Reps K G vs ds ∧ F ds M k x ∧
  (∀ d M', k d M' → ∀ v G' H', Base K G' H' M' → Tr G H M G' H' M' → Rep K G' v d → Q v H') ∧
  (∀ c M', x c M' → ∀ G' H', Base K G' H' M' → Tr G H M G' H' M' → E (cv c) none H')
/-- a class at a name of the top, as a value of the text -/
def ClsAt (mg : Str → Option Value) (x : Str) (v : V) (u : Value) : Prop := RelV v u ∧ ClsV v u ∧ (mg x = some u ∨ (mg x = none ∧ bootBuiltins x = some u ∧ x ≠ "__name__"))
/-- what a name of the top must stand for -/
inductive Need where
  | fn (F : Spec)
  | con (d : D)
  /-- a class, asked of exceptions of these classes -/
  | isa (cs : List Str)
  /-- a class that catches these -/
  | cat (cs : List Str)
  /-- a name of a field of a class -/
  | fld (c : Str)
  /-- a method of a class -/
  | met (c : Str) (F : Spec)
  /-- a class that is called -/
  | mak (F : Spec)
  | fnv
  /-- a def that is called as a value -/
  | fnc (F : Spec)
  /-- a dict of the top -/
  | kdc (kvs : List (Str × Bool))
def CallG (P : Program) (w : World) (K : Frag) (mg : Str → Option Value) (base : Heap) (cv : Str → Value) (k : Nat) (g : Str) (F : Spec) : Prop :=
  ∃ f fd ps, mg g = some (.ref f) ∧ PySem.W.keepIn K (.ref f) = true ∧ Binds K fd ps [] ∧ FnOk P w K mg base (L2.CX P w) k f fd ps (SpM K cv F)
/-- the same of a def at a place that the text knows -/
def CallA (P : Program) (w : World) (K : Frag) (mg : Str → Option Value) (base : Heap) (cv : Str → Value) (k : Nat) (f : Addr) (F : Spec) : Prop :=
  ∃ fd ps, PySem.W.keepIn K (.ref f) = true ∧ Binds K fd ps [] ∧ FnOk P w K mg base (L2.CX P w) k f fd ps (SpM K cv F)
def IsaOk (K : Frag) (mg : Str → Option Value) (cv : Str → Value) (cs : List Str) (cl : Str) : Prop :=
  ∃ v u, ClsAt mg cl v u ∧ PySem.W.kitOne K (.type "NoneType") u = some false ∧ ∀ c ∈ cs, ∃ C, clsK K c = some C ∧ ExcC K C ∧ PySem.W.kitOne K (.ref C) u = some (excSub c cl)
def CatOk (K : Frag) (mg : Str → Option Value) (cv : Str → Value) (cs : List Str) (cl : Str) : Prop :=
  ∃ R, mg cl = some (.ref R) ∧ ∀ c ∈ cs, ∃ C, cv c = .ref C ∧ clsK K c = some C ∧ ExcC K C ∧ PySem.W.exmOne K (.ref C) (.ref R) = some true
def FldOk (K : Frag) (c f : Str) : Prop := ∃ C, clsK K c = some C ∧ Cls K C ∧ NoAttr K C f
def MetOk (P : Program) (w : World) (K : Frag) (mg : Str → Option Value) (base : Heap) (cv : Str → Value) (k : Nat) (c m : Str) (F : Spec) : Prop :=
  ∃ C f, clsK K c = some C ∧ Cls K C ∧ Meth K C m f ∧ CallA P w K mg base cv k f F
def MakOk (P : Program) (w : World) (K : Frag) (mg : Str → Option Value) (base : Heap) (cv : Str → Value) (k : Nat) (c : Str) (F : Spec) : Prop :=
  ∃ C f j, j + 1 ≤ k ∧ clsK K c = some C ∧ mg c = some (.ref C) ∧ Mk K C f ∧ CallA P w K mg base cv j f F
def FnvOk (K : Frag) (mg : Str → Option Value) (x : Str) : Prop := ∃ f, mg x = some (.ref f) ∧ PySem.W.nsIn K mainGlobals x = some (some (.ref f))
def FncOk (P : Program) (w : World) (K : Frag) (mg : Str → Option Value) (base : Heap) (cv : Str → Value) (k : Nat) (x : Str) (F : Spec) : Prop :=
  ∃ f, PySem.W.nsIn K mainGlobals x = some (some (.ref f)) ∧ CallA P w K mg base cv k f F
def KdcOk (w : World) (K : Frag) (mg : Str → Option Value) (g : Str) (kvs : List (Str × Bool)) : Prop :=
  ∃ d es n, mg g = some (.ref d) ∧ L2.KDict K w d es n ∧ ∀ z, PySem.W.nsIn K d z = some ((lkB z kvs).map Value.bool)
/-- a constant of the top -/
def ConG (K : Frag) (mg : Str → Option Value) (g : Str) (d : D) : Prop := ∃ u v, mg g = some u ∧ RelV v u ∧ ∀ G : Hp, Rep K G v d
def Needs (P : Program) (w : World) (K : Frag) (mg : Str → Option Value) (base : Heap) (cv : Str → Value) (k : Nat) (g : Str) : Need → Prop
  | .fn F => CallG P w K mg base cv k g F
  | .con d => ConG K mg g d
  | .isa cs => IsaOk K mg cv cs g
  | .cat cs => CatOk K mg cv cs g
  | .fld c => FldOk K c g
  | .met c F => MetOk P w K mg base cv k c g F
  | .mak F => MakOk P w K mg base cv k g F
  | .fnv => FnvOk K mg g
  | .fnc F => FncOk P w K mg base cv k g F
  | .kdc kvs => KdcOk w K mg g kvs
def CallOk (cv : Str → Value) (k : Nat) (X : Cx) (g : Str) (n : Need) : Prop := Needs X.prog X.w X.K X.mg X.base cv k g n
def needAll (p : Str → Need → Prop) (n : Need) : List Str → Prop
  | [] => True
  | x :: l => p x n ∧ needAll p n l
def needFns (p : Str → Need → Prop) : List (Str × Spec) → Prop
  | [] => True
  | (x, F) :: l => p x (.fnc F) ∧ needFns p l
mutual
def E.calls (p : Str → Need → Prop) : E → Prop
  | .bin _ a b => a.calls p ∧ b.calls p
  | .cat _ a b => a.calls p ∧ b.calls p
  | .rep _ a b => a.calls p ∧ b.calls p
  | .catT a b => a.calls p ∧ b.calls p
  | .un _ a => a.calls p
  | .cmp _ a b => a.calls p ∧ b.calls p
  | .ch2 _ _ a b c => a.calls p ∧ b.calls p ∧ c.calls p
  | .ch3 _ _ _ a b c d => a.calls p ∧ b.calls p ∧ c.calls p ∧ d.calls p
  | .isN _ a => a.calls p
  | .and a b => a.calls p ∧ b.calls p
  | .or a b => a.calls p ∧ b.calls p
  | .one a => a.calls p
  | .not a => a.calls p
  | .ite c a b => c.calls p ∧ a.calls p ∧ b.calls p
  | .idx a b => a.calls p ∧ b.calls p
  | .slc _ a lo hi => a.calls p ∧ lo.calls p ∧ hi.calls p
  | .tup as => as.calls p
  | .lst _ as => as.calls p
  | .cpy _ a => a.calls p
  | .srt _ a => a.calls p
  | .call g F as => p g (.fn F) ∧ as.calls p
  | .glb g d => p g (.con d)
  | .rev _ a => a.calls p
  | .sset _ a => a.calls p
  | .cnt _ a => a.calls p
  | .stp _ a lo => a.calls p ∧ lo.calls p
  | .catA a b => a.calls p ∧ b.calls p
  | .isi2 a _ _ => a.calls p
  | .blt _ as => as.calls p
  | .isi a _ => a.calls p
  | .comp _ _ _ _ it c e => it.calls p ∧ c.calls p ∧ e.calls p
  | .frz a => a.calls p
  | .isB _ _ a => a.calls p
  | .dsp _ vs a => vs.calls p ∧ a.calls p
  | .var _ => True
  | .int _ => True
  | .str _ => True
  | .bl _ => True
  | .non => True
  | .fld c f a => p f (.fld c) ∧ a.calls p
  | .meth c m F a as => p m (.met c F) ∧ a.calls p ∧ as.calls p
  | .make c F as => p c (.mak F) ∧ as.calls p
  | .isE cs cl a => p cl (.isa cs) ∧ a.calls p
  | .isEs cs cls a => needAll p (.isa cs) cls ∧ a.calls p
  | .popE a => a.calls p
  | .fnv x => p x .fnv
  | .callV _ Fs as => needFns p Fs ∧ as.calls p
  | .dlit _ vs => vs.calls p
  | .dget a b => a.calls p ∧ b.calls p
  | .dhas _ a b => a.calls p ∧ b.calls p
  | .lrg a b _ => a.calls p ∧ b.calls p
  | .join a b => a.calls p ∧ b.calls p
  | .splt _ a b => a.calls p ∧ b.calls p
  | .upp a => a.calls p
  | .dgetd a b c => a.calls p ∧ b.calls p ∧ c.calls p
  | .dl1 a b => a.calls p ∧ b.calls p
  | .dkeys _ a => a.calls p
  | .slcT a lo hi => a.calls p ∧ lo.calls p ∧ hi.calls p
  | .repT a b => a.calls p ∧ b.calls p
  | .tupO a => a.calls p
  | .dictP a => a.calls p
  | .srtk _ a => a.calls p
  | .bl1 a b => a.calls p ∧ b.calls p
  | .kin x kvs a => p x (.kdc kvs) ∧ a.calls p
  | .kget x kvs a => p x (.kdc kvs) ∧ a.calls p
  | .bnot a b => a.calls p ∧ b.calls p
def A.calls (p : Str → Need → Prop) : A → Prop
  | .nil => True
  | .cons e as => e.calls p ∧ as.calls p
def I.calls (p : Str → Need → Prop) : I → Prop
  | .r1 a => a.calls p
  | .r2 a b => a.calls p ∧ b.calls p
  | .r3 a b _ => a.calls p ∧ b.calls p
  | .lst a => a.calls p
  | .tup a => a.calls p
  | .enum a => a.calls p
  | .str a => a.calls p
end
def bltNames : List Str := ["len", "min", "max", "abs", "int", "str", "sum", "list", "sorted", "range", "enumerate", "isinstance", "bool", "tuple", "set", "dict"]
structure Good (k : Nat) (X : Cx) : Prop where
  calm : X.calm = true
  nd : X.N.Nodup
  room : Room k X.A
  nb : ∀ x ∈ bltNames, X.mg x = none

/-! ### what the checker tells -/
section
variable {X : Cx} {N : List Str} {sc : Scope}
theorem vis_of {x : Str} (h : visB sc x = true) : Vis sc x := by
  unfold visB at h
  split at h <;> first
    | exact .inl (by assumption)
    | exact .inr (.inl (by assumption))
    | exact .inr (.inr (by assumption))
    | cases h
theorem loc_of {x : Str} (h : locB sc x = true) : Loc sc x := by
  unfold locB at h
  split at h <;> first
    | exact .inl (by assumption)
    | exact .inr (by assumption)
    | cases h
theorem gl_of {x : Str} (h : glB X.env.scope x = true) : Gl X x ∧ (x == ("__debug__" : Str)) = false ∧ x ≠ "__name__" := by
  unfold glB at h
  split at h
  · rw [Bool.and_eq_true, Bool.not_eq_true', Bool.not_eq_true'] at h
    exact ⟨by assumption, h.1, fun e => by rw [e] at h; exact absurd h.2 (by decide)⟩
  · cases h
theorem pe_vars {i : Nat} {x : Str} {pos : Pos} (h : varB X.N X.env.scope i x = true) : PE X (.Name x pos) (tVar i) := by
  unfold varB at h
  simp only [Bool.and_eq_true, decide_eq_true_eq, Bool.not_eq_true'] at h
  obtain ⟨⟨⟨h1, h2⟩, h3⟩, h4⟩ := h
  exact pe_var h1 (vis_of h2) h3 h4
theorem star_plain {e : Expr} {es : List Expr} {env : PySem.Env} (h : plainX e = true) : starEach (e :: es) env = (false, eval e env) :: starEach es env := by
  cases e <;> first
    | rfl
    | cases h
theorem okA_plain : ∀ (as : A) (es : List Expr), okA N sc as es = true → es.all plainX = true
  | .nil, [], _ => rfl
  | .cons a as, e :: es, h => by
    have h' : (plainX e && okE N sc a e && okA N sc as es) = true := by simpa [okA] using h
    simp only [Bool.and_eq_true] at h'
    rw [List.all_cons, h'.1.1, okA_plain as es h'.2]
    rfl
  | .nil, _ :: _, h => by simp [okA] at h
  | .cons _ _, [], h => by simp [okA] at h
theorem stars_none {env : PySem.Env} {pos : Pos} : ∀ {es : List Expr}, es.all plainX = true → (backTo pos (starEach es env)).any (·.1) = false
  | [], _ => rfl
  | e :: es, h => by
    rw [List.all_cons, Bool.and_eq_true] at h
    rw [star_plain h.1]
    show (false || (backTo pos (starEach es env)).any (·.1)) = false
    rw [stars_none h.2]
    rfl
theorem mark_plain {op : CmpOp} {e : Expr} (h : plainX e = true) : behindInMarks op e = false := by
  cases e <;> first
    | rfl
    | cases h
theorem ix_plain {e : Expr} (h : plainX e = true) : PlainIx e := by
  cases e <;> first
    | (intro _ _; rfl)
    | cases h
theorem fold_plain {e : Expr} {env : PySem.Env} (h : plainX e = true) : ∀ x, foldedSetIterable e env x = pure x := by
  cases e <;> first
    | (intro _; rfl)
    | cases h
end

/-! ### weakening -/
section
variable {X : Cx} {e : Expr}
theorem _root_.L2.PE.of {t t' : TE} (h : PE X e t) (f : ∀ σ H Q, t' σ H Q → t σ H Q) : PE X e t' := ⟨fun pins s σ H Q I hw => h.run pins s σ H Q I (f σ H Q hw)⟩
theorem _root_.L2.PT.of {t t' : TT} (h : PT X e t) (f : ∀ σ H Q, t' σ H Q → t σ H Q) : PT X e t' := ⟨fun pins s σ H Q I hw => h.run pins s σ H Q I (f σ H Q hw)⟩
theorem _root_.L2.PW.of {t t' : TT} (h : PW X e t) (f : ∀ σ H Q, t' σ H Q → t σ H Q) : PW X e t' := ⟨fun w pins s σ H Q I hw => h.run w pins s σ H Q I (f σ H Q hw)⟩
theorem _root_.L2.PA.of {es : List Expr} {t t' : TA} (h : PA X es t) (f : ∀ σ H Q, t' σ H Q → t σ H Q) : PA X es t' := ⟨fun p pins s σ H Q I hw => h.run p pins s σ H Q I (f σ H Q hw)⟩
theorem _root_.L2.PO.of {es : Option Expr} {t t' : TO} (h : PO X es t) (f : ∀ σ H Q, t' σ H Q → t σ H Q) : PO X es t' := ⟨fun pins s σ H Q I hw => h.run pins s σ H Q I (f σ H Q hw)⟩
theorem _root_.L2.PI.of {tg : Expr} {t t' : TI} (h : PI X tg e t) (f : ∀ σ H Q, t' σ H Q → t σ H Q) : PI X tg e t' := ⟨fun pins s σ H Q I hw => h.run pins s σ H Q I (f σ H Q hw)⟩
theorem _root_.L2.PTs.of {ifs : List Expr} {t t' : TT} (h : PTs X ifs t) (f : ∀ σ H Q, t' σ H Q → t σ H Q) : PTs X ifs t' := ⟨fun pins s σ H Q I hw => h.run pins s σ H Q I (f σ H Q hw)⟩
theorem _root_.L2.PS.of {st : Stmt} {t t' : TS} (h : PS X st t) (f : ∀ D σ H, t' D σ H → t D σ H) : PS X st t' := ⟨fun pins s σ H Q I hw => h.run pins s σ H Q I (f Q σ H hw)⟩
theorem _root_.L2.PSs.of {st : List Stmt} {t t' : TS} (h : PSs X st t) (f : ∀ D σ H, t' D σ H → t D σ H) : PSs X st t' := ⟨fun pins s σ H Q I hw => h.run pins s σ H Q I (f Q σ H hw)⟩
end

/-! ### new lists -/
def isNon : D → Bool
  | .non => true
  | _ => false
section
variable {K : Frag} {cv : Str → Value} {W : WX} {Z : Wd} {G G1 H H1 : Hp} {M M1 : Mp} {σ : L2.St} {ρ : Env} {vs : List V} {ds : List D} {k : DK} {Q : VK}
theorem newL_ok {m : Bool} (h : newL m ds M1 k) (r : Rel K Z G1 H1 M1 σ ρ) (e : Ex G G1) (rs : Reps K G1 vs ds)
    (hk : ∀ d M', k d M' → ∀ v G' H', Rel K Z G' H' M' σ ρ → Ex G G' → Rep K G' v d → Q v H') {p : Addr} (hp : H1 p = none) : Q (.ref p) (upd H1 p (.lst vs)) := by
  cases m with
  | true =>
    have h : ∀ a, M1 a = none → k (.ref a) (mset M1 a (.lst ds)) := h
    obtain ⟨b, t⟩ := r.base.laidM hp rs
    exact hk _ _ (h p (r.base.mnone hp)) _ _ _ (r.go b t) e (.ref p)
  | false =>
    have h : k (.lst ds) M1 := h
    obtain ⟨b, t⟩ := r.base.laid (o := .lst vs) hp
    exact hk _ _ h _ _ _ (r.go b t) (e.trans t.g) (.lst upd_same (rs.up t.g))
theorem newT_ok (h : k (.tup ds) M1) (r : Rel K Z G1 H1 M1 σ ρ) (e : Ex G G1) (rs : Reps K G1 vs ds)
    (hk : ∀ d M', k d M' → ∀ v G' H', Rel K Z G' H' M' σ ρ → Ex G G' → Rep K G' v d → Q v H') {p : Addr} (hp : H1 p = none) : Q (.ref p) (upd H1 p (.tup vs)) := by
  obtain ⟨b, t⟩ := r.base.laid (o := .tup vs) hp
  exact hk _ _ h _ _ _ (r.go b t) (e.trans t.g) (.tup (.inl (.inl upd_same)) (rs.up t.g))
theorem asL_of {d : D} {q : List D → Prop} (h : asL d q) : ∃ l, d = .lst l ∧ q l := by
  cases d <;> first
    | exact ⟨_, rfl, h⟩
    | exact h.elim
theorem asT_of {d : D} {q : List D → Prop} (h : asT d q) : ∃ l, d = .tup l ∧ q l := by
  cases d <;> first
    | exact ⟨_, rfl, h⟩
    | exact h.elim
theorem asInt_of {d : D} {q : Int → Prop} (h : asInt d q) : ∃ l, d = .int l ∧ q l := by
  cases d <;> first
    | exact ⟨_, rfl, h⟩
    | exact h.elim
theorem asBl_of {d : D} {q : Bool → Prop} (h : asBl d q) : ∃ l, d = .bl l ∧ q l := by
  cases d <;> first
    | exact ⟨_, rfl, h⟩
    | exact h.elim
theorem Rep.int_eq {v : V} {i : Int} (h : Rep K G v (.int i)) : v = .int i := by cases h; rfl
theorem Rep.bl_eq {v : V} {i : Bool} (h : Rep K G v (.bl i)) : v = .bl i := by cases h; rfl
theorem sw_tup (M : Mp) {d : D} {l : List D} (e : d = .tup l) : vw M d = .tup l := by subst e; rfl
theorem Rep.non_iff {v : V} {d : D} (h : Rep K G v d) : decide (v = .non) = isNon d := by
  cases h <;> simp [isNon]
theorem Reps.view (b : Base K G H M) : ∀ {vs : List V} {ds : List D}, Reps K G vs ds → ∀ (i : Nat) (v : V), vs[i]? = some v → ∃ d, (ds.map (vw M))[i]? = some d ∧ Seen K H v d := fun {vs ds} r i v e => by
  obtain ⟨d, h1, h2⟩ := r.get' e
  exact ⟨vw M d, by rw [List.getElem?_map, h1]; rfl, b.seen h2⟩
end
end T

/-! T: soundness, construct by construct. -/
namespace T
open PySem L2 PyProof.Rows
section
variable {X : Cx} {kk : Nat} {cv : Str → Value} {W : WX} {a b c d : E} {ea eb ec ed : Expr} {pos : Pos}

/-- an expression, as a value and as a test -/
structure SE (X : Cx) (cv : Str → Value) (W : WX) (a : E) (e : Expr) : Prop where
  pe : PE X e (tE X.K cv W a)
  pt : PT X e (tTs X.K cv W a)
  pw : ∀ op vs p, e = .BoolOp op vs p → PW X e (tTs X.K cv W a)

theorem test_of {K : Frag} : ∀ σ H Q, tTs K cv W a σ H Q → tB (tE K cv W a) σ H Q := fun σ H Q ⟨Z, G, M, ρ, k, x, r, w, hk, hx⟩ =>
  ⟨Z, G, M, ρ, _, x, r, w, fun d M' q v G' H' r' e p => by
    obtain ⟨t, rfl, q⟩ := asBl_of q
    exact ⟨t, p.bl_eq, hk t M' q G' H' r' e⟩, hx⟩
/-- where the test is no more than the value's truth -/
theorem SE.val (h : PE X ea (tE X.K cv W a)) (he : ∀ whole, isTrue ea X.env whole = (do let v ← whole; standAt ea.pos; holding [v] (truthy v))) (hn : ∀ op vs p, ea ≠ .BoolOp op vs p) : SE X cv W a ea :=
  ⟨h, (pt_val h he).of test_of, fun op vs p e => absurd e (hn op vs p)⟩

theorem se_var {i : Nat} {x : Str} (h : varB X.N X.env.scope i x = true) : SE X cv W (.var i) (.Name x pos) := by
  refine .val ((pe_vars h).of fun σ H Q ⟨Z, G, M, ρ, k, xx, r, w, hk, hx⟩ => ?_) (fun _ => rfl) (fun _ _ _ => nofun)
  cases e : nth ρ i with
  | none =>
    simp only [wpE, e] at w
  | some d =>
    simp only [wpE, e] at w
    obtain ⟨v, h1, h2⟩ := r.slot i d e
    exact ⟨v, h1, hk d M w v G H r (Ex.refl G) h2⟩
theorem se_int {i : Int} {j : Nat} : SE X cv W (.int i) (.Constant (.int i) j pos) :=
  .val (pe_int.of fun σ H Q ⟨Z, G, M, ρ, k, xx, r, w, hk, hx⟩ => hk _ M w _ G H r (Ex.refl G) (.int i)) (fun _ => rfl) (fun _ _ _ => nofun)
theorem se_str {i : Str} {j : Nat} : SE X cv W (.str i) (.Constant (.str i) j pos) :=
  .val (pe_str.of fun σ H Q ⟨Z, G, M, ρ, k, xx, r, w, hk, hx⟩ => hk _ M w _ G H r (Ex.refl G) (.str i)) (fun _ => rfl) (fun _ _ _ => nofun)
theorem se_bl {i : Bool} {j : Nat} : SE X cv W (.bl i) (.Constant (.bool i) j pos) :=
  .val (pe_bl.of fun σ H Q ⟨Z, G, M, ρ, k, xx, r, w, hk, hx⟩ => hk _ M w _ G H r (Ex.refl G) (.bl i)) (fun _ => rfl) (fun _ _ _ => nofun)
theorem se_non {j : Nat} : SE X cv W .non (.Constant .none j pos) :=
  .val (pe_non.of fun σ H Q ⟨Z, G, M, ρ, k, xx, r, w, hk, hx⟩ => hk _ M w _ G H r (Ex.refl G) .non) (fun _ => rfl) (fun _ _ _ => nofun)
/-- two operands -/
theorem two {K : Frag} {σ : L2.St} {H : Hp} {Q : V → V → Hp → Prop} {Z : Wd} {G : Hp} {M : Mp} {ρ : Env} {k : D → D → Mp → Prop} {x : XP} (r : Rel K Z G H M σ ρ)
    (w : wpE a ρ M (fun d1 M1 => wpE b ρ M1 (fun d2 M2 => k d1 d2 M2) x) x) (hx : HX K Z cv W σ ρ x)
    (f : ∀ d1 d2 M2 v1 v2 G2 H2, k d1 d2 M2 → Rel K Z G2 H2 M2 σ ρ → Ex G G2 → Rep K G2 v1 d1 → Rep K G2 v2 d2 → Q v1 v2 H2) :
    tE K cv W a σ H fun v1 H1 => tE K cv W b σ H1 fun v2 H2 => Q v1 v2 H2 :=
  ⟨Z, G, M, ρ, _, x, r, w, fun d1 M1 w1 v1 G1 H1 r1 e1 p1 => ⟨Z, G1, M1, ρ, _, x, r1, w1, fun d2 M2 w2 v2 G2 H2 r2 e2 p2 =>
    f d1 d2 M2 v1 v2 G2 H2 w2 r2 (e1.trans e2) (p1.up e2) p2, hx⟩, hx⟩
theorem se_bin {o : BOp} (ha : SE X cv W a ea) (hb : SE X cv W b eb) : SE X cv W (.bin o a b) (.BinOp ea o.py eb pos) :=
  .val ((pe_op (op_bop o) ha.pe hb.pe).of fun σ H Q ⟨Z, G, M, ρ, k, x, r, w, hk, hx⟩ => two (Q := fun v1 v2 H2 => rB X.K o v1 v2 H2 Q) r w hx fun d1 d2 M2 v1 v2 G2 H2 q r2 e2 p1 p2 =>
    ⟨d1, d2, p1.up r2.base.ex, p2.up r2.base.ex, bop_mono q fun d hf q => hk d M2 q d.v G2 H2 r2 e2 (Rep.v hf)⟩) (fun _ => rfl) (fun _ _ _ => nofun)
theorem se_un {o : UOp} (ha : SE X cv W a ea) : SE X cv W (.un o a) (.UnaryOp o.py ea pos) :=
  .val ((pe_un (op_uop o) ha.pe).of fun σ H Q ⟨Z, G, M, ρ, k, x, r, w, hk, hx⟩ => ⟨Z, G, M, ρ, _, x, r, w, fun d M1 q v G1 H1 r1 e1 p1 =>
    ⟨d, p1.up r1.base.ex, uop_mono q fun d hf q => hk d M1 q d.v G1 H1 r1 e1 (Rep.v hf)⟩, hx⟩) (fun _ => by cases o <;> rfl) (fun _ _ _ => nofun)
theorem se_cat {m : Bool} (ha : SE X cv W a ea) (hb : SE X cv W b eb) : SE X cv W (.cat m a b) (.BinOp ea .Add eb pos) :=
  .val ((pe_op op_cat ha.pe hb.pe).of fun σ H Q ⟨Z, G, M, ρ, k, x, r, w, hk, hx⟩ => two (Q := fun v1 v2 H2 => rCat v1 v2 H2 Q) r w hx fun d1 d2 M2 v1 v2 G2 H2 q r2 e2 p1 p2 => by
    obtain ⟨l1, f1, q⟩ := asL_of q
    obtain ⟨l2, f2, q⟩ := asL_of q
    obtain ⟨a1, xs, rfl, h1, h2⟩ := r2.base.viewS p1 f1
    obtain ⟨a2, ys, rfl, h3, h4⟩ := r2.base.viewS p2 f2
    exact ⟨a1, a2, xs, ys, rfl, rfl, h1, h3, by rw [h2.length, h4.length]; exact q.1, fun p hp => newL_ok q.2 r2 e2 (h2.append h4) hk hp⟩) (fun _ => rfl) (fun _ _ _ => nofun)
theorem se_rep {m : Bool} (ha : SE X cv W a ea) (hb : SE X cv W b eb) : SE X cv W (.rep m a b) (.BinOp ea .Mult eb pos) :=
  .val ((pe_op op_rep ha.pe hb.pe).of fun σ H Q ⟨Z, G, M, ρ, k, x, r, w, hk, hx⟩ => two (Q := fun v1 v2 H2 => rRep v1 v2 H2 Q) r w hx fun d1 d2 M2 v1 v2 G2 H2 q r2 e2 p1 p2 => by
    obtain ⟨l1, f1, q⟩ := asL_of q
    obtain ⟨j, f2, q⟩ := asInt_of q
    subst f2
    obtain ⟨a1, xs, rfl, h1, h2⟩ := r2.base.viewS p1 f1
    exact ⟨a1, j, xs, rfl, p2.int_eq, h1, q.1.1, q.1.2.1, by rw [h2.length]; exact q.1.2.2, fun p hp => newL_ok q.2 r2 e2 (h2.flat _) hk hp⟩) (fun _ => rfl) (fun _ _ _ => nofun)
theorem se_catT (ha : SE X cv W a ea) (hb : SE X cv W b eb) : SE X cv W (.catT a b) (.BinOp ea .Add eb pos) :=
  .val ((pe_op op_catT ha.pe hb.pe).of fun σ H Q ⟨Z, G, M, ρ, k, x, r, w, hk, hx⟩ => two (Q := fun v1 v2 H2 => rCatT X.K v1 v2 H2 Q) r w hx fun d1 d2 M2 v1 v2 G2 H2 q r2 e2 p1 p2 => by
    obtain ⟨l1, f1, q1⟩ := asT_of q
    obtain ⟨l2, f2, ⟨n1, n2, n3⟩, q3⟩ := asT_of q1
    clear q q1
    subst f1 f2
    cases p1 with
    | tup h1 h2 =>
      cases p2 with
      | tup h3 h4 =>
        refine ⟨_, _, _, _, rfl, rfl, ex_t r2.base.ex h1, ex_t r2.base.ex h3, fun z => n1 ?_, by rw [h2.length, h4.length]; exact n3, fun z => absurd ?_ n2, fun _ p hp => newT_ok q3 r2 e2 (h2.append h4) hk hp⟩
        · subst z
          cases h2
          rfl
        · subst z
          cases h4
          rfl) (fun _ => rfl) (fun _ _ _ => nofun)
theorem se_cmp {o : COp} (G : Good kk X) (hp : plainX eb = true) (ha : SE X cv W a ea) (hb : SE X cv W b eb) : SE X cv W (.cmp o a b) (.Compare ea [o.py] [eb] pos) := by
  refine ⟨(pe_cmpR (op_cop G.room.units o) ha.pe hb.pe (mark_plain hp)).of fun σ H Q ⟨Z, G, M, ρ, k, x, r, w, hk, hx⟩ => two (Q := fun v1 v2 H2 => rC X.K o v1 v2 H2 Q) r w hx fun d1 d2 M2 v1 v2 G2 H2 q r2 e2 p1 p2 =>
      ⟨_, _, r2.base.seen p1, r2.base.seen p2, cop_mono q fun t q => hk _ M2 q _ G2 H2 r2 e2 (.bl t)⟩,
    (pt_cmpR (op_cop G.room.units o) ha.pe hb.pe (mark_plain hp)).of fun σ H Q ⟨Z, G, M, ρ, k, x, r, w, hk, hx⟩ => two (Q := fun v1 v2 H2 => rC X.K o v1 v2 H2 fun x H' => ∃ k, x = .bl k ∧ Q k H') r w hx fun d1 d2 M2 v1 v2 G2 H2 q r2 e2 p1 p2 =>
      ⟨_, _, r2.base.seen p1, r2.base.seen p2, cop_mono q fun t q => ⟨t, rfl, hk t M2 q G2 H2 r2 e2⟩⟩, fun _ _ _ => nofun⟩
/-- rules of comparisons without lists -/
theorem Rep.seen {K : Frag} {G H : Hp} {v : V} {d : D} (h : Rep K G v d) (e : Ex G H) : Seen K H v d := by
  cases d with
  | lst l =>
    cases h with
    | lst h1 h2 => exact ⟨_, _, rfl, .inl (.inl (e _ _ h1)), h2.up e⟩
  | _ => exact h.up e
theorem se_ch2 {o1 o2 : COp} (G : Good kk X) (hp : plainX ec = true) (ha : SE X cv W a ea) (hb : SE X cv W b eb) (hc : SE X cv W c ec) : SE X cv W (.ch2 o1 o2 a b c) (.Compare ea [o1.py, o2.py] [eb, ec] pos) := by
  have key : ∀ {σ : L2.St} {H : Hp} {Q Q' : VK} {Z : Wd} {G : Hp} {M : Mp} {ρ : Env} {k : Bool → Mp → Prop} {x : XP}, Rel X.K Z G H M σ ρ →
      wpE a ρ M (fun d1 M1 => wpE b ρ M1 (fun d2 M2 => cop o1 d1 d2 fun t => if t = true then wpE c ρ M2 (fun d3 M3 => cop o2 d2 d3 fun d => k d M3) x else k false M2) x) x →
      HX X.K Z cv W σ ρ x → (∀ b M', k b M' → ∀ G' H', Rel X.K Z G' H' M' σ ρ → Ex G G' → Q (.bl b) H') → tChain (rC X.K o1) (rC X.K o2) (tE X.K cv W a) (tE X.K cv W b) (tE X.K cv W c) σ H Q := by
    intro σ H Q Q' Z G M ρ k x r w hx hk
    refine two (Q := fun v1 v2 H2 => rC X.K o1 v1 v2 H2 fun z H3 => ∃ k, z = .bl k ∧ (if k = true then tE X.K cv W c σ H3 fun w' H4 => rC X.K o2 v2 w' H4 Q else Q (.bl false) H3)) r w hx fun d1 d2 M2 v1 v2 G2 H2 q r2 e2 p1 p2 => ⟨_, _, p1.seen r2.base.ex, p2.seen r2.base.ex, cop_mono q fun t q => ⟨t, rfl, ?_⟩⟩
    cases t with
    | true =>
      refine iteT ⟨Z, G2, M2, ρ, _, x, r2, q, fun d3 M3 q v3 G3 H3 r3 e3 p3 => ⟨_, _, (p2.up e3).seen r3.base.ex, p3.seen r3.base.ex, cop_mono q fun t q => hk t M3 q G3 H3 r3 (e2.trans e3)⟩, hx⟩
    | false => exact iteF (hk false M2 q G2 H2 r2 e2)
  have lm : lastMarks [o1.py, o2.py] [eb, ec] = false := mark_plain hp
  refine ⟨(pe_chain (op_cop G.room.units o1) (op_cop G.room.units o2) ha.pe hb.pe hc.pe lm).of fun σ H Q ⟨Z, G, M, ρ, k, x, r, w, hk, hx⟩ => key (Q' := Q) (k := fun b M' => k (.bl b) M') r w hx fun b M' q G' H' r' e' => hk _ M' q _ G' H' r' e' (.bl b),
    (pt_chain (op_cop G.room.units o1) (op_cop G.room.units o2) ha.pe hb.pe hc.pe lm).of fun σ H Q ⟨Z, G, M, ρ, k, x, r, w, hk, hx⟩ => key (Q' := fun _ _ => True) (k := k) r w hx fun b M' q G' H' r' e' => ⟨b, rfl, hk b M' q G' H' r' e'⟩, fun _ _ _ => nofun⟩
theorem se_isN {neg : Bool} {j : Nat} {p2 : Pos} (ha : SE X cv W a ea) : SE X cv W (.isN neg a) (.Compare ea [if neg = true then CmpOp.IsNot else CmpOp.Is] [.Constant .none j p2] pos) := by
  have key : ∀ {k : DK} {d : D} {M1 : Mp}, (match d with | .non => k (.bl (!neg)) M1 | _ => k (.bl neg) M1) → k (.bl (if neg = true then !isNon d else isNon d)) M1 := by
    intro k d M1 h
    cases d <;> cases neg <;> exact h
  have hh : PC X (if neg = true then CmpOp.IsNot else CmpOp.Is) ea (.Constant .none j p2) (fun σ H Q => tE X.K cv W a σ H fun x H1 => Q (.bl (if neg = true then !decide (x = .non) else decide (x = .non))) H1) := by
    cases neg with
    | true => exact pc_notN ha.pe
    | false => exact pc_isN ha.pe
  have h1 : behindInMarks (if neg = true then CmpOp.IsNot else CmpOp.Is) (.Constant .none j p2) = false := mark_plain rfl
  refine ⟨(pe_cmp hh h1).of fun σ H Q ⟨Z, G, M, ρ, k, x, r, w, hk, hx⟩ => ⟨Z, G, M, ρ, _, x, r, w, fun d M1 q v G1 H1 r1 e1 p1 => ?_, hx⟩,
    (pt_cmp hh h1).of fun σ H Q ⟨Z, G, M, ρ, k, x, r, w, hk, hx⟩ => ⟨Z, G, M, ρ, _, x, r, w, fun d M1 q v G1 H1 r1 e1 p1 => ?_, hx⟩, fun _ _ _ => nofun⟩
  · show Q (V.bl (if neg = true then !decide (v = V.non) else decide (v = V.non))) H1
    rw [p1.non_iff]
    exact hk _ M1 (key q) _ G1 H1 r1 e1 (.bl _)
  · refine ⟨_, rfl, ?_⟩
    rw [p1.non_iff]
    exact hk _ M1 (key (k := fun d M' => asBl d fun b => k b M') q) G1 H1 r1 e1
theorem se_and {v w : Expr} {vs : List Expr} (ha : SE X cv W a v) (hb : SE X cv W b (.BoolOp .And (w :: vs) pos)) : SE X cv W (.and a b) (.BoolOp .And (v :: w :: vs) pos) := by
  have hw : PW X (.BoolOp .And (v :: w :: vs) pos) (tTs X.K cv W (.and a b)) := (pw_and ha.pt (hb.pw _ _ _ rfl)).of fun σ H Q ⟨Z, G, M, ρ, k, x, r, w, hk, hx⟩ =>
    ⟨Z, G, M, ρ, (fun t M1 => if t = true then wpE b ρ M1 (fun d M' => asBl d fun b => k b M') x else k false M1), x, r, w, fun t M1 q G1 H1 r1 e1 => by
      cases t with
      | true => exact iteT ⟨Z, G1, M1, ρ, k, x, r1, q, fun b M' q G' H' r' e' => hk b M' q G' H' r' (e1.trans e'), hx⟩
      | false => exact iteF (hk false M1 q G1 H1 r1 e1), hx⟩
  refine ⟨(pe_and ha.pe hb.pe).of fun σ H Q ⟨Z, G, M, ρ, k, x, r, w, hk, hx⟩ => ⟨Z, G, M, ρ, _, x, r, w, fun d M1 q v G1 H1 r1 e1 p1 => ?_, hx⟩, hw.pt, fun _ _ _ _ => hw⟩
  obtain ⟨t, rfl, q⟩ := asBl_of q
  refine ⟨t, p1.bl_eq, ?_⟩
  cases t with
  | true => exact iteT ⟨Z, G1, M1, ρ, k, x, r1, q, fun d M' q v G' H' r' e' => hk d M' q v G' H' r' (e1.trans e'), hx⟩
  | false => exact iteF (hk _ M1 q _ G1 H1 r1 e1 (.bl false))
theorem se_or {v w : Expr} {vs : List Expr} (ha : SE X cv W a v) (hb : SE X cv W b (.BoolOp .Or (w :: vs) pos)) : SE X cv W (.or a b) (.BoolOp .Or (v :: w :: vs) pos) := by
  have hw : PW X (.BoolOp .Or (v :: w :: vs) pos) (tTs X.K cv W (.or a b)) := (pw_or ha.pt (hb.pw _ _ _ rfl)).of fun σ H Q ⟨Z, G, M, ρ, k, x, r, w, hk, hx⟩ =>
    ⟨Z, G, M, ρ, (fun t M1 => if t = true then k true M1 else wpE b ρ M1 (fun d M' => asBl d fun b => k b M') x), x, r, w, fun t M1 q G1 H1 r1 e1 => by
      cases t with
      | true => exact iteT (hk true M1 q G1 H1 r1 e1)
      | false => exact iteF ⟨Z, G1, M1, ρ, k, x, r1, q, fun b M' q G' H' r' e' => hk b M' q G' H' r' (e1.trans e'), hx⟩, hx⟩
  refine ⟨(pe_or ha.pe hb.pe).of fun σ H Q ⟨Z, G, M, ρ, k, x, r, w, hk, hx⟩ => ⟨Z, G, M, ρ, _, x, r, w, fun d M1 q v G1 H1 r1 e1 p1 => ?_, hx⟩, hw.pt, fun _ _ _ _ => hw⟩
  obtain ⟨t, rfl, q⟩ := asBl_of q
  refine ⟨t, p1.bl_eq, ?_⟩
  cases t with
  | true => exact iteT (hk _ M1 q _ G1 H1 r1 e1 (.bl true))
  | false => exact iteF ⟨Z, G1, M1, ρ, k, x, r1, q, fun d M' q v G' H' r' e' => hk d M' q v G' H' r' (e1.trans e'), hx⟩
theorem se_one {op : BoolOp} {v : Expr} (ha : SE X cv W a v) : SE X cv W (.one a) (.BoolOp op [v] pos) := by
  have h : ∀ σ H Q, tTs X.K cv W (.one a) σ H Q → tTs X.K cv W a σ H Q := fun σ H Q h => h
  have hw : PW X (.BoolOp op [v] pos) (tTs X.K cv W (.one a)) := by
    cases op with
    | And => exact (pw_and1 ha.pt).of h
    | Or => exact (pw_or1 ha.pt).of h
  exact ⟨(pe_one ha.pe).of fun σ H Q h => h, hw.pt, fun _ _ _ _ => hw⟩
theorem se_not (ha : SE X cv W a ea) : SE X cv W (.not a) (.UnaryOp .Not ea pos) := by
  refine ⟨(pe_not ha.pe).of fun σ H Q ⟨Z, G, M, ρ, k, x, r, w, hk, hx⟩ => ⟨Z, G, M, ρ, _, x, r, w, fun d M1 q v G1 H1 r1 e1 p1 => ?_, hx⟩,
    (pt_not ha.pt).of fun σ H Q ⟨Z, G, M, ρ, k, x, r, w, hk, hx⟩ => ⟨Z, G, M, ρ, fun t M' => k (!t) M', x, r, w, fun t M1 q G1 H1 r1 e1 => hk _ M1 q G1 H1 r1 e1, hx⟩, fun _ _ _ => nofun⟩
  obtain ⟨t, rfl, q⟩ := asBl_of q
  exact ⟨t, p1.bl_eq, hk _ M1 q _ G1 H1 r1 e1 (.bl _)⟩
end
end T

/-! T: soundness, further constructs. -/
namespace T
open PySem L2 PyProof.Rows
section
variable {X : Cx} {kk : Nat} {cv : Str → Value} {W : WX} {a b c d : E} {ea eb ec ed : Expr} {pos : Pos}
/-- a chain of three comparisons -/
def tCh3 (r1 r2 r3 : R2) (ta tb tc td : TE) : TE := fun σ H Q => ta σ H fun x H1 => tb σ H1 fun y H2 => r1 x y H2 fun z H3 => ∃ k, z = .bl k ∧
  (if k = true then tc σ H3 fun u H4 => r2 y u H4 fun z H5 => ∃ k, z = .bl k ∧ (if k = true then td σ H5 fun t H6 => r3 u t H6 Q else Q (.bl false) H5) else Q (.bl false) H3)
theorem pe_ch3 {o1 o2 o3 : CmpOp} {r1 r2 r3 : R2} {ta tb tc td : TE} (h1 : OpR X (compareOp o1) r1) (h2 : OpR X (compareOp o2) r2) (h3 : OpR X (compareOp o3) r3) (ha : PE X ea ta) (hb : PE X eb tb) (hc : PE X ec tc) (hd : PE X ed td)
    (hm : lastMarks [o1, o2, o3] [eb, ec, ed] = false) : PE X (.Compare ea [o1, o2, o3] [eb, ec, ed] pos) (tCh3 r1 r2 r3 ta tb tc td) := by
  constructor
  intro pins s σ H Q I h
  refine Compare_chain (thn (ha.run pins s σ H _ I h) fun v1 s1 ⟨x1, H1, I1, p1, q1⟩ => chain_link ?_) hm
  refine thn (hb.run pins s1 σ H1 _ I1 q1) fun v2 s2 ⟨x2, H2, I2, p2, q2⟩ => ?_
  refine thn (h1 pins s2 σ H2 x1 x2 v1 v2 _ I2 p1 p2 q2) fun z1 s3 ⟨y1, H3, I3, p3, t1, g1, q3⟩ => ?_
  subst g1
  cases p3
  refine wpAny_truthy_bool ?_
  cases t1
  · exact ite_ff ⟨.bl false, H3, I3, rfl, q3⟩
  refine ite_tt (chain_link ?_)
  refine thn (hc.run pins s3 σ H3 _ I3 q3) fun v3 s4 ⟨x3, H4, I4, p4, q4⟩ => ?_
  refine thn (h2 pins s4 σ H4 x2 x3 v2 v3 _ I4 p2 p4 q4) fun z2 s5 ⟨y2, H5, I5, p5, t2, g2, q5⟩ => ?_
  subst g2
  cases p5
  refine wpAny_truthy_bool ?_
  cases t2
  · exact ite_ff ⟨.bl false, H5, I5, rfl, q5⟩
  refine ite_tt (chain_last ?_)
  exact thn (hd.run pins s5 σ H5 _ I5 q5) fun v4 s6 ⟨x4, H6, I6, p6, q6⟩ => h3 pins s6 σ H6 x3 x4 v3 v4 Q I6 p4 p6 q6
theorem pt_ch3 {o1 o2 o3 : CmpOp} {r1 r2 r3 : R2} {ta tb tc td : TE} (h1 : OpR X (compareOp o1) r1) (h2 : OpR X (compareOp o2) r2) (h3 : OpR X (compareOp o3) r3) (ha : PE X ea ta) (hb : PE X eb tb) (hc : PE X ec tc) (hd : PE X ed td)
    (hm : lastMarks [o1, o2, o3] [eb, ec, ed] = false) : PT X (.Compare ea [o1, o2, o3] [eb, ec, ed] pos) (tTest (tCh3 r1 r2 r3 ta tb tc td)) := by
  constructor
  intro pins s σ H Q I h
  refine isTrue_chain (thn (ha.run pins s σ H _ I h) fun v1 s1 ⟨x1, H1, I1, p1, q1⟩ => test_link ?_) hm
  refine thn (hb.run pins s1 σ H1 _ I1 q1) fun v2 s2 ⟨x2, H2, I2, p2, q2⟩ => ?_
  refine thn (h1 pins s2 σ H2 x1 x2 v1 v2 _ I2 p1 p2 q2) fun z1 s3 ⟨y1, H3, I3, p3, t1, g1, q3⟩ => ?_
  subst g1
  cases p3
  refine wpAny_truthy_bool ?_
  cases t1
  · obtain ⟨k, e, q⟩ := q3
    cases e
    exact ite_ff ⟨H3, I3, q⟩
  refine ite_tt (test_link ?_)
  refine thn (hc.run pins s3 σ H3 _ I3 q3) fun v3 s4 ⟨x3, H4, I4, p4, q4⟩ => ?_
  refine thn (h2 pins s4 σ H4 x2 x3 v2 v3 _ I4 p2 p4 q4) fun z2 s5 ⟨y2, H5, I5, p5, t2, g2, q5⟩ => ?_
  subst g2
  cases p5
  refine wpAny_truthy_bool ?_
  cases t2
  · obtain ⟨k, e, q⟩ := q5
    cases e
    exact ite_ff ⟨H5, I5, q⟩
  refine ite_tt (test_last ?_)
  refine thn (hd.run pins s5 σ H5 _ I5 q5) fun v4 s6 ⟨x4, H6, I6, p6, q6⟩ => ?_
  refine thn (h3 pins s6 σ H6 x3 x4 v3 v4 _ I6 p4 p6 q6) fun z3 s7 ⟨y3, H7, I7, p7, t3, g3, q7⟩ => ?_
  subst g3
  cases p7
  exact wpAny_truthy_bool ⟨H7, I7, q7⟩
theorem se_ch3 {o1 o2 o3 : COp} (G : Good kk X) (hp : plainX ed = true) (ha : SE X cv W a ea) (hb : SE X cv W b eb) (hc : SE X cv W c ec) (hd : SE X cv W d ed) :
    SE X cv W (.ch3 o1 o2 o3 a b c d) (.Compare ea [o1.py, o2.py, o3.py] [eb, ec, ed] pos) := by
  have key : ∀ {σ : L2.St} {H : Hp} {Q : VK} {Z : Wd} {G : Hp} {M : Mp} {ρ : Env} {k : Bool → Mp → Prop} {x : XP}, Rel X.K Z G H M σ ρ →
      wpE a ρ M (fun d1 M1 => wpE b ρ M1 (fun d2 M2 => cop o1 d1 d2 fun t => if t = true then wpE c ρ M2 (fun d3 M3 => cop o2 d2 d3 fun t => if t = true then wpE d ρ M3 (fun d4 M4 => cop o3 d3 d4 fun d => k d M4) x else k false M3) x else k false M2) x) x →
      HX X.K Z cv W σ ρ x → (∀ b M', k b M' → ∀ G' H', Rel X.K Z G' H' M' σ ρ → Ex G G' → Q (.bl b) H') →
      tCh3 (rC X.K o1) (rC X.K o2) (rC X.K o3) (tE X.K cv W a) (tE X.K cv W b) (tE X.K cv W c) (tE X.K cv W d) σ H Q := by
    intro σ H Q Z G M ρ k x r w hx hk
    refine ⟨Z, G, M, ρ, _, x, r, w, fun d1 M1 w1 v1 G1 H1 r1 e1 p1 => ⟨Z, G1, M1, ρ, _, x, r1, w1, fun d2 M2 q v2 G2 H2 r2 e2 p2 => ⟨_, _, (p1.up e2).seen r2.base.ex, p2.seen r2.base.ex, cop_mono q fun t q => ⟨t, rfl, ?_⟩⟩, hx⟩, hx⟩
    cases t with
    | false => exact iteF (hk false M2 q G2 H2 r2 (e1.trans e2))
    | true =>
      refine iteT ⟨Z, G2, M2, ρ, _, x, r2, q, fun d3 M3 q v3 G3 H3 r3 e3 p3 => ⟨_, _, (p2.up e3).seen r3.base.ex, p3.seen r3.base.ex, cop_mono q fun t q => ⟨t, rfl, ?_⟩⟩, hx⟩
      cases t with
      | false => exact iteF (hk false M3 q G3 H3 r3 ((e1.trans e2).trans e3))
      | true =>
        exact iteT ⟨Z, G3, M3, ρ, _, x, r3, q, fun d4 M4 q v4 G4 H4 r4 e4 p4 => ⟨_, _, (p3.up e4).seen r4.base.ex, p4.seen r4.base.ex, cop_mono q fun t q => hk t M4 q G4 H4 r4 (((e1.trans e2).trans e3).trans e4)⟩, hx⟩
  have lm : lastMarks [o1.py, o2.py, o3.py] [eb, ec, ed] = false := mark_plain hp
  have h1 := op_cop G.room.units o1
  have h2 := op_cop G.room.units o2
  have h3 := op_cop G.room.units o3
  exact ⟨(pe_ch3 h1 h2 h3 ha.pe hb.pe hc.pe hd.pe lm).of fun σ H Q ⟨Z, G, M, ρ, k, x, r, w, hk, hx⟩ => key (k := fun b M' => k (.bl b) M') r w hx fun b M' q G' H' r' e' => hk _ M' q _ G' H' r' e' (.bl b),
    (pt_ch3 h1 h2 h3 ha.pe hb.pe hc.pe hd.pe lm).of fun σ H Q ⟨Z, G, M, ρ, k, x, r, w, hk, hx⟩ => key (k := k) r w hx fun b M' q G' H' r' e' => ⟨b, rfl, hk b M' q G' H' r' e'⟩, fun _ _ _ => nofun⟩
/-- a condition ahead of two ways -/
theorem pt_ifExp {t t1 t2 : TT} (hc : PT X ec t) (ha : PT X ea t1) (hb : PT X eb t2) : PT X (.IfExp ec ea eb pos) (fun σ H Q => t σ H fun k H1 => if k = true then t1 σ H1 Q else t2 σ H1 Q) := by
  constructor
  intro pins s σ H Q I h
  refine isTrue_IfExp (thn (hc.run pins s σ H _ I h) fun k s1 ⟨H1, I1, q1⟩ => ?_)
  cases k
  · exact hb.run pins s1 σ H1 Q I1 q1
  · exact ha.run pins s1 σ H1 Q I1 q1
theorem se_ite (hc : SE X cv W c ec) (ha : SE X cv W a ea) (hb : SE X cv W b eb) : SE X cv W (.ite c a b) (.IfExp ec ea eb pos) :=
  ⟨(pe_ifExp hc.pt ha.pe hb.pe).of fun σ H Q ⟨Z, G, M, ρ, k, x, r, w, hk, hx⟩ => ⟨Z, G, M, ρ, (fun t M1 => if t = true then wpE a ρ M1 k x else wpE b ρ M1 k x), x, r, w, fun t M1 q G1 H1 r1 e1 => by
    cases t with
    | true => exact iteT ⟨Z, G1, M1, ρ, k, x, r1, q, fun d M' q v G' H' r' e' => hk d M' q v G' H' r' (e1.trans e'), hx⟩
    | false => exact iteF ⟨Z, G1, M1, ρ, k, x, r1, q, fun d M' q v G' H' r' e' => hk d M' q v G' H' r' (e1.trans e'), hx⟩, hx⟩,
  (pt_ifExp hc.pt ha.pt hb.pt).of fun σ H Q ⟨Z, G, M, ρ, k, x, r, w, hk, hx⟩ => ⟨Z, G, M, ρ, (fun t M1 => if t = true then wpE a ρ M1 (fun d M' => asBl d fun b => k b M') x else wpE b ρ M1 (fun d M' => asBl d fun b => k b M') x), x, r, w, fun t M1 q G1 H1 r1 e1 => by
    cases t with
    | true => exact iteT ⟨Z, G1, M1, ρ, k, x, r1, q, fun d M' q G' H' r' e' => hk d M' q G' H' r' (e1.trans e'), hx⟩
    | false => exact iteF ⟨Z, G1, M1, ρ, k, x, r1, q, fun d M' q G' H' r' e' => hk d M' q G' H' r' (e1.trans e'), hx⟩, hx⟩, fun _ _ _ => nofun⟩
/-- items -/
theorem at_rep {K : Frag} {G : Hp} {vs : List V} {ds : List D} {i : Int} {d : D} (h : Reps K G vs ds) (e : atI ds i = some d) : ∃ v, atI vs i = some v ∧ Rep K G v d := by
  unfold atI at e ⊢
  rw [h.length]
  cases q : ixN ds.length i with
  | none =>
    rw [q] at e
    cases e
  | some j =>
    rw [q] at e
    exact h.get e
theorem ix_ok {K : Frag} {σ : L2.St} {H : Hp} {Q : VK} {Z : Wd} {G G2 : Hp} {M2 : Mp} {ρ : Env} {k : DK} {v1 v2 : V} {d1 d2 : D} (q : ixD d1 d2 fun d => k d M2) (r2 : Rel K Z G2 H M2 σ ρ) (e : Ex G G2) (p1 : Rep K G2 v1 d1) (p2 : Rep K G2 v2 d2)
    (hk : ∀ d M', k d M' → ∀ v G' H', Rel K Z G' H' M' σ ρ → Ex G G' → Rep K G' v d → Q v H') : rIx K v1 v2 H Q := by
  cases d1 <;> cases d2 <;> simp only [ixD] at q
  · obtain ⟨c, ⟨h1, h2⟩, q⟩ := q
    cases p1
    cases p2
    exact .inr (.inr ⟨_, _, c, rfl, rfl, h1, h2, hk _ M2 q _ G2 H r2 e (.str _)⟩)
  · obtain ⟨d, h1, q⟩ := q
    cases p1 with
    | lst h2 h3 =>
      cases p2
      obtain ⟨v, h4, h5⟩ := at_rep h3 h1
      exact .inl ⟨_, _, _, v, rfl, rfl, .inl (.inl (r2.base.ex _ _ h2)), h4, hk _ M2 q _ G2 H r2 e h5⟩
  · obtain ⟨d, h1, q⟩ := q
    cases p1 with
    | tup h2 h3 =>
      cases p2
      obtain ⟨v, h4, h5⟩ := at_rep h3 h1
      exact .inr (.inl ⟨_, _, _, v, rfl, rfl, ex_t r2.base.ex h2, h4, hk _ M2 q _ G2 H r2 e h5⟩)
theorem se_idx (hp : plainX eb = true) (ha : SE X cv W a ea) (hb : SE X cv W b eb) : SE X cv W (.idx a b) (.Subscript ea eb pos) :=
  .val ((pe_ix ix_seq ha.pe hb.pe (ix_plain hp)).of fun σ H Q ⟨Z, G, M, ρ, k, x, r, w, hk, hx⟩ => two (Q := fun v1 v2 H2 => rIx X.K v1 v2 H2 Q) r w hx fun d1 d2 M2 v1 v2 G2 H2 q r2 e2 p1 p2 => by
    have plain : ixD d1 d2 (fun d => k d M2) → rIx X.K v1 v2 H2 Q := fun q => ix_ok q r2 e2 p1 p2 hk
    have lst : ∀ {p : Addr} {j : Int} {l : List D} {xs : List V}, SqL X.K H2 p xs → Reps X.K G2 xs l → ixD (.lst l) (.int j) (fun d => k d M2) → rIx X.K (.ref p) (.int j) H2 Q := fun {p j l xs} h1 h2 q => by
      obtain ⟨d, h3, q⟩ := q
      obtain ⟨v, h4, h5⟩ := at_rep h2 h3
      exact .inl ⟨_, _, _, v, rfl, rfl, h1, h4, hk _ M2 q _ G2 H2 r2 e2 h5⟩
    cases d1 with
    | ref p =>
      cases p1
      cases d2 with
      | int j =>
        cases p2
        simp only [ixP] at q
        cases e : M2 p with
        | none =>
          rw [e] at q
          exact q.elim
        | some cl =>
          rw [e] at q
          cases cl with
          | pot lim =>
            obtain ⟨_, y, z, hh, hs⟩ := r2.base.cell p _ e
            rcases q with ⟨h0, q⟩ | ⟨h0, q⟩
            · subst h0
              exact .inl ⟨p, _, 0, .int y, rfl, rfl, .inl (.inl hh), rfl, hk _ M2 (q y) _ G2 H2 r2 e2 (.int y)⟩
            · subst h0
              exact .inl ⟨p, _, 1, .int z, rfl, rfl, .inl (.inl hh), rfl, hk _ M2 (q z hs) _ G2 H2 r2 e2 (.int z)⟩
          | lst l =>
            obtain ⟨_, xs, h1, h2⟩ := r2.base.cell p _ e
            exact lst (.inl (.inl h1)) h2 q
          | exc _ => exact q.elim
          | ins _ _ => exact q.elim
          | dct _ => exact q.elim
          | bdt _ => exact q.elim
      | _ => exact (show False from q).elim
    | scr l =>
      cases p1 with
      | scr h1 h2 =>
        cases d2 with
        | int j =>
          cases p2
          exact lst (ex_l r2.base.ex h1) h2 q
        | _ => exact (show False from q).elim
    | _ => exact plain q) (fun _ => rfl) (fun _ _ _ => nofun)
theorem se_slc {m : Bool} {lo hi : A} {elo ehi : Option Expr} {p2 : Pos} (ha : SE X cv W a ea) (hl : PO X elo (tOs X.K cv W lo)) (hh : PO X ehi (tOs X.K cv W hi)) : SE X cv W (.slc m a lo hi) (.Subscript ea (.Slice elo ehi none p2) pos) :=
  .val ((pe_slice ((sl_list.or sl_tup).or sl_str) ha.pe hl hh).of fun σ H Q ⟨Z, G, M, ρ, k, x, r, w, hk, hx⟩ => ⟨Z, G, M, ρ, _, x, r, w, fun d M1 w1 v G1 H1 r1 e1 p1 =>
    ⟨Z, G1, M1, ρ, _, x, r1, w1, fun l M2 w2 G2 H2 r2 e2 => ⟨Z, G2, M2, ρ, _, x, r2, w2, fun h M3 q G3 H3 r3 e3 => by
      have p3 := (p1.up e2).up e3
      have e13 := (e1.trans e2).trans e3
      cases f : vw M3 d with
      | lst l' =>
        rw [f] at q
        obtain ⟨a1, xs, rfl, h1, h2⟩ := r3.base.viewL p3 f
        exact .inl (.inl ⟨a1, xs, rfl, h1, fun p hp => newL_ok q r3 e13 (h2.cut l h) hk hp⟩)
      | tup l' =>
        rw [f] at q
        obtain ⟨a1, xs, rfl, h1, h2⟩ := r3.base.viewT p3 f
        obtain ⟨q1, q2⟩ := q
        refine .inl (.inr ⟨a1, xs, rfl, h1, by rw [h2.length]; exact q1, fun p hp => newT_ok q2 r3 e13 (h2.cut l h) hk hp⟩)
      | str z =>
        rw [f] at q
        obtain ⟨q1, q2⟩ := q
        have ez : d = .str z := by
          cases d with
          | ref p =>
            unfold vw at f
            dsimp only at f
            split at f <;> cases f
          | _ => first
            | exact f
            | cases f
        subst ez
        cases p3
        exact .inr ⟨z, rfl, q1, hk _ M3 q2 _ G3 H3 r3 e13 (.str _)⟩
      | _ =>
        rw [f] at q
        exact (show False from q).elim, hx⟩, hx⟩, hx⟩) (fun _ => rfl) (fun _ _ _ => nofun)
theorem se_tup {as : A} {es : List Expr} {j : Nat} (h : PA X es (tAs X.K cv W as)) : SE X cv W (.tup as) (.Tuple es j pos) :=
  .val ((pe_tup h).of fun σ H Q ⟨Z, G, M, ρ, k, x, r, w, hk, hx⟩ => ⟨Z, G, M, ρ, _, x, r, w, fun ds M1 q vs G1 H1 r1 e1 p1 => ⟨by rw [p1.length]; exact q.1, fun p hp => newT_ok q.2 r1 e1 p1 hk hp⟩, hx⟩) (fun _ => rfl) (fun _ _ _ => nofun)
theorem se_lst {m : Bool} {as : A} {es : List Expr} (h : PA X es (tAs X.K cv W as)) : SE X cv W (.lst m as) (.List es pos) :=
  .val ((pe_lst h).of fun σ H Q ⟨Z, G, M, ρ, k, x, r, w, hk, hx⟩ => ⟨Z, G, M, ρ, _, x, r, w, fun ds M1 q vs G1 H1 r1 e1 p1 => ⟨by rw [p1.length]; exact q.1, fun p hp => newL_ok q.2 r1 e1 p1 hk hp⟩, hx⟩) (fun _ => rfl) (fun _ _ _ => nofun)
theorem nb_of (G : Good kk X) {x : Str} (h : x ∈ bltNames) : X.mg x = none := G.nb x h
theorem pa_of {e : Expr} {es : List Expr} {te : TE} {t : TA} (hp : plainX e = true) (he : PE X e te) (hs : PA X es t) : PA X (e :: es) (tCons te t) := pa_cons he hs (star_plain hp)
theorem se_cpy {m : Bool} {x : Str} {p : Pos} (G : Good kk X) (hx : x = "list") (hg : glB X.env.scope x = true) (hp : plainX ea = true) (ha : SE X cv W a ea) : SE X cv W (.cpy m a) (.Call (.Name x p) [ea] [] pos) := by
  subst hx
  obtain ⟨g1, g2, g3⟩ := gl_of hg
  refine .val ((pe_callTy (T := "list") call_list_of g1 (nb_of G (by decide)) (by decide +kernel) (pa_of hp ha.pe pa_nil) g3 g2 (star_plain hp)).of fun σ H Q ⟨Z, G, M, ρ, k, x, r, w, hk, hx⟩ => ⟨Z, G, M, ρ, _, x, r, w, fun d M1 q v G1 H1 r1 e1 p1 => ?_, hx⟩) (fun _ => rfl) (fun _ _ _ => nofun)
  cases f : vw M1 d with
  | lst l =>
    rw [f] at q
    obtain ⟨a1, xs, rfl, h1, h2⟩ := r1.base.viewL p1 f
    exact ⟨a1, xs, rfl, .inl h1, fun p hp => newL_ok q r1 e1 h2 hk hp⟩
  | tup l =>
    rw [f] at q
    obtain ⟨a1, xs, rfl, h1, h2⟩ := r1.base.viewT p1 f
    exact ⟨a1, xs, rfl, .inr h1, fun p hp => newL_ok q r1 e1 h2 hk hp⟩
  | _ =>
    rw [f] at q
    exact (show False from q).elim
theorem se_srt {m : Bool} {x : Str} {p : Pos} (G : Good kk X) (hx : x = "sorted") (hg : glB X.env.scope x = true) (hp : plainX ea = true) (ha : SE X cv W a ea) : SE X cv W (.srt m a) (.Call (.Name x p) [ea] [] pos) := by
  subst hx
  obtain ⟨g1, g2, g3⟩ := gl_of hg
  refine .val ((pe_callB (id := "sorted") cr_sortedI g1 (nb_of G (by decide)) (by decide +kernel) (pa_of hp ha.pe pa_nil) g3 g2 (star_plain hp)).of fun σ H Q ⟨Z, G, M, ρ, k, x, r, w, hk, hx⟩ => ⟨Z, G, M, ρ, _, x, r, w, fun d M1 q v G1 H1 r1 e1 p1 => ?_, hx⟩) (fun _ => rfl) (fun _ _ _ => nofun)
  obtain ⟨l, f, ns, h3, q⟩ := asL_of q
  obtain ⟨a1, xs, rfl, h1, h2⟩ := r1.base.viewL p1 f
  have e := h2.ints h3
  subst e
  exact ⟨a1, ns, rfl, h1, fun ms p pm ps hp => newL_ok (q ms pm ps) r1 e1 (Reps.ofInts ms) hk hp⟩
theorem se_call {g : Str} {F : Spec} {as : A} {e : Expr} {es : List Expr} {x : Str} {p : Pos} (G : Good kk X) (tk : Takes X W) (hc : CallOk cv kk X g (.fn F)) (hx : x = g) (hg : glB X.env.scope x = true) (hs : (e :: es).all plainX = true) (h : PA X (e :: es) (tAs X.K cv W as)) :
    SE X cv W (.call g F as) (.Call (.Name x p) (e :: es) [] pos) := by
  subst hx
  obtain ⟨g1, g2, g3⟩ := gl_of hg
  obtain ⟨f, fd, ps, hm, hk, hb, hf⟩ := hc
  rw [List.all_cons, Bool.and_eq_true] at hs
  refine .val ((pe_callS (E := WE W) hf G.room g1 hm hk hb (passAt tk) h g2 (star_plain hs.1) (stars_none hs.2)).of fun σ H Q ⟨Z, G, M, ρ, k, x, r, w, hk, hx⟩ => ⟨Z, G, M, ρ, _, x, r, w, fun ds M1 q vs G1 H1 r1 e1 p1 => ?_, hx⟩) (fun _ => rfl) (fun _ _ _ => nofun)
  exact ⟨G1, M1, ds, k, x, r1.base, p1, q, fun d M' q v G' H' b t pp => hk d M' q v G' H' (r1.go b t) (e1.trans t.g) pp, fun cc M' q G' H' b t => hx cc M' q G' H' (r1.go b t)⟩
end
end T

/-! T: soundness: built-ins, arguments, targets, what is walked, comprehensions. -/
namespace T
open PySem L2 PyProof.Rows

/-! ### built-ins -/
inductive SeenL (K : Frag) (H : Hp) : List V → List D → Prop
  | nil : SeenL K H [] []
  | cons {v : V} {vs : List V} {d : D} {ds : List D} : Seen K H v d → SeenL K H vs ds → SeenL K H (v :: vs) (d :: ds)
section
variable {K : Frag} {G H : Hp} {M : Mp}
theorem seenL_of (b : Base K G H M) : ∀ {vs : List V} {ds : List D}, Reps K G vs ds → SeenL K H vs (ds.map (vw M))
  | _, _, .nil => .nil
  | _, _, .cons h t => .cons (b.seen h) (seenL_of b t)
theorem bf1_mono {f : BF} {d : D} {k k' : D → Prop} (h : bf1 f d k) (m : ∀ d, d.flat = true → k d → k' d) : bf1 f d k' := by
  cases f <;> cases d <;> simp only [bf1] at h ⊢ <;> first
    | exact m _ rfl h
    | exact ⟨h.1, m _ rfl h.2⟩
    | (obtain ⟨ns, h1, h2⟩ := h; exact ⟨ns, h1, m _ rfl h2⟩)
    | (obtain ⟨ns, h1, h2, h3⟩ := h; exact ⟨ns, h1, h2, m _ rfl h3⟩)
    | (obtain ⟨ns, h1, h2, h3⟩ := h; exact ⟨ns, h1, h2, fun y hy hm => m _ rfl (h3 y hy hm)⟩)
theorem bf2_mono {f : BF} {d e : D} {k k' : D → Prop} (h : bf2 f d e k) (m : ∀ d, d.flat = true → k d → k' d) : bf2 f d e k' := by
  cases f <;> cases d <;> cases e <;> simp only [bf2] at h ⊢ <;> exact m _ rfl h
theorem bf3_mono {f : BF} {d e g : D} {k k' : D → Prop} (h : bf3 f d e g k) (m : ∀ d, d.flat = true → k d → k' d) : bf3 f d e g k' := by
  cases f <;> cases d <;> cases e <;> cases g <;> simp only [bf3] at h ⊢ <;> exact m _ rfl h
theorem bfn_mono {f : BF} {l : List D} {k k' : D → Prop} (h : bfn f l k) (m : ∀ d, d.flat = true → k d → k' d) : bfn f l k' := by
  match l, h with
  | [], h => exact h.elim
  | [d], h => exact bf1_mono h m
  | [d, e], h => exact bf2_mono h m
  | [d, e, g], h => exact bf3_mono h m
  | _ :: _ :: _ :: _ :: _, h => exact h.elim
def rF (K : Frag) (f : BF) : List V → Hp → VK → Prop := fun xs H Q => ∃ ds, SeenL K H xs ds ∧ bfn f ds fun d => Q d.v H
def BF.val : BF → Value
  | .int => .type "int"
  | .str => .type "str"
  | f => .builtin (match f with | .len => "len" | .min2 => "min" | .max2 => "max" | .min3 => "min" | .abs => "abs" | .sum => "sum" | _ => "max")
theorem three_of {a b c : V} {us : List Value} (r : Paired RelV [a, b, c] us) : ∃ u v w, us = [u, v, w] ∧ RelV a u ∧ RelV b v ∧ RelV c w := by
  cases r with
  | cons p q =>
    cases q with
    | cons p' q' =>
      cases q' with
      | cons p'' q'' =>
        cases q''
        exact ⟨_, _, _, rfl, p, p', p''⟩
theorem call_max3 {X : Cx} (hc : X.calm = true) : CallR X (.builtin "max") (fun xs H Q => ∃ a b c, xs = [.int a, .int b, .int c] ∧ Q (.int (if b > a then (if c > b then c else b) else (if c > a then c else a))) H) := by
  intro pins s σ H xs us Q I r h
  obtain ⟨a, b, c, rfl, q⟩ := h
  obtain ⟨u, v, w, rfl, ⟨t1, rfl⟩, ⟨t2, rfl⟩, ⟨t3, rfl⟩⟩ := three_of r
  refine max_three_ints (I.ok.hd hc) fun h' tk k => ⟨_, H, I.kept k, ?_, q⟩
  split <;> split <;> exact ⟨_, rfl⟩
theorem call_min3 {X : Cx} (hc : X.calm = true) : CallR X (.builtin "min") (fun xs H Q => ∃ a b c, xs = [.int a, .int b, .int c] ∧ Q (.int (if b < a then (if c < b then c else b) else (if c < a then c else a))) H) := by
  intro pins s σ H xs us Q I r h
  obtain ⟨a, b, c, rfl, q⟩ := h
  obtain ⟨u, v, w, rfl, ⟨t1, rfl⟩, ⟨t2, rfl⟩, ⟨t3, rfl⟩⟩ := three_of r
  refine min_three_ints (I.ok.hd hc) fun h' tk k => ⟨_, H, I.kept k, ?_, q⟩
  split <;> split <;> exact ⟨_, rfl⟩
theorem call_bf {X : Cx} (hc : X.calm = true) (f : BF) : CallR X f.val (rF X.K f) := by
  intro pins s σ H xs us Q I r h
  obtain ⟨ds, hs, h⟩ := h
  match ds, hs, h with
  | [], _, h => exact h.elim
  | _ :: _ :: _ :: _ :: _, _, h => exact h.elim
  | [d, e, g], hs, h =>
    have h : bf3 f d e g (fun d => Q d.v H) := h
    cases hs with
    | cons h1 h2 =>
      cases h2 with
      | cons h2 h3 =>
        cases h3 with
        | cons h3 h4 =>
          cases h4
          cases f <;> cases d <;> cases e <;> cases g <;> simp only [bf3] at h <;> cases h1 <;> cases h2 <;> cases h3
          · exact call_min3 hc pins s σ H _ us Q I r ⟨_, _, _, rfl, h⟩
          · exact call_max3 hc pins s σ H _ us Q I r ⟨_, _, _, rfl, h⟩
  | [d, e], hs, h =>
    have h : bf2 f d e (fun d => Q d.v H) := h
    cases hs with
    | cons h1 h2 =>
      cases h2 with
      | cons h2 h3 =>
        cases h3
        cases f <;> cases d <;> cases e <;> simp only [bf2] at h <;> cases h1 <;> cases h2
        · exact call_min2 hc pins s σ H _ us Q I r ⟨_, _, rfl, h⟩
        · exact call_max2 hc pins s σ H _ us Q I r ⟨_, _, rfl, h⟩
  | [d], hs, h =>
    have h : bf1 f d (fun d => Q d.v H) := h
    cases hs with
    | cons h1 h2 =>
      cases h2
      cases f with
      | len =>
        cases d <;> simp only [bf1] at h
        · cases h1
          exact call_len_str pins s σ H _ us Q I r ⟨_, rfl, h.1, h.2⟩
        · obtain ⟨a, ys, rfl, h3, h4⟩ := h1
          exact call_len_seq pins s σ H _ us Q I r ⟨a, ys, rfl, .inl h3, by rw [h4.length]; exact h⟩
        · cases h1 with
          | tup h3 h4 => exact call_len_seq pins s σ H _ us Q I r ⟨_, _, rfl, .inr h3, by rw [h4.length]; exact h⟩
      | min2 => cases d <;> simp only [bf1] at h
      | max2 => cases d <;> simp only [bf1] at h
      | min3 => cases d <;> simp only [bf1] at h
      | max3 => cases d <;> simp only [bf1] at h
      | abs =>
        cases d <;> simp only [bf1] at h
        cases h1
        exact call_abs pins s σ H _ us Q I r ⟨_, rfl, h⟩
      | int =>
        cases d <;> simp only [bf1] at h
        · cases h1
          exact call_int1 pins s σ H _ us Q I r (.inr ⟨_, rfl, h⟩)
        · cases h1
          exact call_int1 pins s σ H _ us Q I r (.inl ⟨_, rfl, h⟩)
        · cases h1
          obtain ⟨n, h2, h3, h4⟩ := h
          exact call_int_str pins s σ H _ us Q I r ⟨_, n, rfl, h2, h3, h4⟩
      | str =>
        cases d <;> simp only [bf1] at h
        · cases h1
          exact call_str_int pins s σ H _ us Q I r ⟨_, rfl, h.1, h.2⟩
        · cases h1
          exact SkE.call_str_str pins s σ H _ us Q I r ⟨_, rfl, h⟩
      | sum =>
        cases d <;> simp only [bf1] at h
        obtain ⟨a, ys, rfl, h3, h4⟩ := h1
        obtain ⟨ns, h5, h⟩ := h
        have e := h4.ints h5
        subst e
        exact cr_sum hc pins s σ H _ us Q I r ⟨a, ns, rfl, h3, h⟩
      | maxL =>
        cases d <;> simp only [bf1] at h
        obtain ⟨a, ys, rfl, h3, h4⟩ := h1
        obtain ⟨ns, h5, h6, h⟩ := h
        have e := h4.ints h5
        subst e
        exact cr_max hc pins s σ H _ us Q I r ⟨a, ns, rfl, h3, h6, h⟩
end
section
variable {X : Cx} {kk : Nat} {cv : Str → Value} {W : WX} {a b c d : E} {ea eb ec ed : Expr} {pos : Pos}
theorem blt_reads {f : BF} {as : A} : ∀ σ H Q, tE X.K cv W (.blt f as) σ H Q → tCB (rF X.K f) (tAs X.K cv W as) σ H Q := fun σ H Q ⟨Z, G, M, ρ, k, x, r, w, hk, hx⟩ =>
  ⟨Z, G, M, ρ, _, x, r, w, fun ds M1 q vs G1 H1 r1 e1 p1 => ⟨_, seenL_of r1.base p1, bfn_mono q fun d hf q => hk d M1 q d.v G1 H1 r1 e1 (Rep.v hf)⟩, hx⟩
theorem se_blt {f : BF} {as : A} {e : Expr} {es : List Expr} {x : Str} {p : Pos} (G : Good kk X) (hx : x = f.py) (hg : glB X.env.scope x = true) (hs : (e :: es).all plainX = true) (h : PA X (e :: es) (tAs X.K cv W as)) :
    SE X cv W (.blt f as) (.Call (.Name x p) (e :: es) [] pos) := by
  subst hx
  obtain ⟨g1, g2, g3⟩ := gl_of hg
  rw [List.all_cons, Bool.and_eq_true] at hs
  have nb : X.mg f.py = none := nb_of G (by cases f <;> decide)
  refine .val ?_ (fun _ => rfl) (fun _ _ _ => nofun)
  cases f with
  | len => exact (pe_callB (call_bf G.calm .len) g1 nb (by decide +kernel) h g3 g2 (star_plain hs.1) (stars_none hs.2)).of blt_reads
  | min2 => exact (pe_callB (call_bf G.calm .min2) g1 nb (by decide +kernel) h g3 g2 (star_plain hs.1) (stars_none hs.2)).of blt_reads
  | max2 => exact (pe_callB (call_bf G.calm .max2) g1 nb (by decide +kernel) h g3 g2 (star_plain hs.1) (stars_none hs.2)).of blt_reads
  | min3 => exact (pe_callB (call_bf G.calm .min3) g1 nb (by decide +kernel) h g3 g2 (star_plain hs.1) (stars_none hs.2)).of blt_reads
  | max3 => exact (pe_callB (call_bf G.calm .max3) g1 nb (by decide +kernel) h g3 g2 (star_plain hs.1) (stars_none hs.2)).of blt_reads
  | abs => exact (pe_callB (call_bf G.calm .abs) g1 nb (by decide +kernel) h g3 g2 (star_plain hs.1) (stars_none hs.2)).of blt_reads
  | sum => exact (pe_callB (call_bf G.calm .sum) g1 nb (by decide +kernel) h g3 g2 (star_plain hs.1) (stars_none hs.2)).of blt_reads
  | maxL => exact (pe_callB (call_bf G.calm .maxL) g1 nb (by decide +kernel) h g3 g2 (star_plain hs.1) (stars_none hs.2)).of blt_reads
  | int => exact (pe_callTy (call_bf G.calm .int) g1 nb (by decide +kernel) h g3 g2 (star_plain hs.1) (stars_none hs.2)).of blt_reads
  | str => exact (pe_callTy (call_bf G.calm .str) g1 nb (by decide +kernel) h g3 g2 (star_plain hs.1) (stars_none hs.2)).of blt_reads
/-- isinstance -/
theorem Seen.ty {K : Frag} {H : Hp} {v : V} {d : D} {t : String} (h : Seen K H v d) (e : d.ty = some t) : TyX K H v (.type t) := by
  cases d with
  | non =>
    cases e
    cases h
    exact .base .non
  | bl b =>
    cases e
    cases h
    exact .base (.bl b)
  | int b =>
    cases e
    cases h
    exact .base (.int b)
  | str b =>
    cases e
    cases h
    exact .base (.str b)
  | lst l =>
    cases e
    obtain ⟨a, xs, rfl, h1, h2⟩ := h
    rcases h1 with (h1 | ⟨o, h1⟩) | ⟨o, its, n, h1, h2, _⟩
    · exact .base (.lst h1)
    · exact .base (.frz h1)
    · exact .kList h1 h2
  | tup l =>
    cases e
    cases h with
    | tup h1 h2 =>
      rcases h1 with (h1 | ⟨o, h1⟩) | ⟨o, its, n, h1, h2, _⟩
      · exact .base (.tup h1)
      · exact .fTuple h1
      · exact .kTuple h1 h2
  | ref a => cases e
  | scr a => cases e
  | fnm a => cases e
theorem se_isi {ty : String} {x t : Str} {p p2 : Pos} (G : Good kk X) (hx : x = "isinstance") (hg : glB X.env.scope x = true) (ht : t = Str.ofString ty) (hin : ["bool", "int", "str", "list", "tuple"].contains ty = true) (hgt : glB X.env.scope t = true) (hp : plainX ea = true) (ha : SE X cv W a ea) :
    SE X cv W (.isi a ty) (.Call (.Name x p) [ea, .Name t p2] [] pos) := by
  subst hx
  subst ht
  obtain ⟨g1, g2, g3⟩ := gl_of hg
  obtain ⟨t1, t2, t3⟩ := gl_of hgt
  have hb : bootBuiltins (Str.ofString ty) = some (.type ty) ∧ X.mg (Str.ofString ty) = none := by
    have hin : ty = "bool" ∨ ty = "int" ∨ ty = "str" ∨ ty = "list" ∨ ty = "tuple" := by simpa using hin
    rcases hin with e | e | e | e | e <;> subst e <;> exact ⟨by decide +kernel, nb_of G (by decide)⟩
  refine .val ((pe_callB (id := "isinstance") call_isi g1 (nb_of G (by decide)) (by decide +kernel)
    (pa_of hp ha.pe (pa_cons (pe_bltn (v := .ty ty) t1 hb.2 hb.1 rfl t3 t2) pa_nil (star_plain rfl))) g3 g2 (star_plain hp) rfl).of fun σ H Q ⟨Z, G, M, ρ, k, x, r, w, hk, hx⟩ =>
    ⟨Z, G, M, ρ, _, x, r, w, fun d M1 q v G1 H1 r1 e1 p1 => ?_, hx⟩) (fun _ => rfl) (fun _ _ _ => nofun)
  obtain ⟨t, b, h1, h2, q⟩ := q
  exact ⟨v, .ty ty, .type t, .type ty, b, rfl, .ty ty, (r1.base.seen p1).ty h1, kit_ty h2, hk _ M1 q _ G1 H1 r1 e1 (.bl b)⟩

/-! ### arguments, parts of slices, tests -/
theorem sa_nil : PA X [] (tAs X.K cv W .nil) := pa_nil.of fun σ H Q ⟨Z, G, M, ρ, k, x, r, w, hk, hx⟩ => hk _ M w _ G H r (Ex.refl G) .nil
theorem sa_cons {as : A} {es : List Expr} (hp : plainX ea = true) (ha : SE X cv W a ea) (h : PA X es (tAs X.K cv W as)) : PA X (ea :: es) (tAs X.K cv W (.cons a as)) :=
  (pa_of hp ha.pe h).of fun σ H Q ⟨Z, G, M, ρ, k, x, r, w, hk, hx⟩ => ⟨Z, G, M, ρ, _, x, r, w, fun d M1 w1 v G1 H1 r1 e1 p1 => ⟨Z, G1, M1, ρ, _, x, r1, w1, fun ds M2 q vs G2 H2 r2 e2 p2 =>
    hk _ M2 q _ G2 H2 r2 (e1.trans e2) (.cons (p1.up e2) p2), hx⟩, hx⟩
theorem so_nil : PO X none (tOs X.K cv W .nil) := po_none.of fun σ H Q ⟨Z, G, M, ρ, k, x, r, w, hk, hx⟩ => hk _ M w G H r (Ex.refl G)
theorem so_some {as : A} (ha : SE X cv W a ea) : PO X (some ea) (tOs X.K cv W (.cons a as)) := (po_some ha.pe).of fun σ H Q ⟨Z, G, M, ρ, k, x, r, w, hk, hx⟩ => ⟨Z, G, M, ρ, _, x, r, w, fun d M1 q v G1 H1 r1 e1 p1 => by
  obtain ⟨i, rfl, q⟩ := asInt_of q
  exact ⟨i, p1.int_eq, hk _ M1 q G1 H1 r1 e1⟩, hx⟩
abbrev W0 : WX := fun _ _ _ _ => False
theorem st_nil : PTs X [] (tIf1 X.K .nil) := pts_nil.of fun σ H Q ⟨Z, G, M, ρ, k, r, w, hk⟩ => hk _ M w G H r (Ex.refl G)
theorem st_one {as : A} (hc : SE X cv W0 c ec) : PTs X [ec] (tIf1 X.K (.cons c as)) := (pts_one hc.pt).of fun σ H Q ⟨Z, G, M, ρ, k, r, w, hk⟩ => ⟨Z, G, M, ρ, k, _, r, w, hk, fun _ _ h => h.elim⟩

/-! ### targets -/
def gNames : List Nat → TGs
  | [] => gNil
  | i :: is => gCons (gName i) (gNames is)
def gT (K : Frag) (is : List Nat) (tup : Bool) : TG :=
  match tup, is with
  | true, is => gTup K is.length (gNames is)
  | false, i :: _ => gName i
  | false, [] => fun _ _ _ _ => False
def locOk (lc : Scope → Str → Bool) (X : Cx) : Prop := ∀ x, lc X.env.scope x = true → Loc X.env.scope x ∧ (X.fn x = true ∨ X.env.scope.names.lookup x = some .local)
theorem tgs_ok {lc : Scope → Str → Bool} (nd : X.N.Nodup) (fn : locOk lc X) : ∀ (is : List Nat) (es : List Expr), tgB lc X.N X.env.scope is es = true → PGs X es (gNames is)
  | [], [], _ => pgs_nil
  | [], _ :: _, h => by cases h
  | _ :: _, [], h => by cases h
  | i :: is, e :: es, h => by
    cases e <;> first
      | (cases h; done)
      | (rename_i x p
         have h' : (decide (X.N[i]? = some x) && lc X.env.scope x && tgB lc X.N X.env.scope is es) = true := h
         simp only [Bool.and_eq_true, decide_eq_true_eq] at h'
         obtain ⟨l1, l2⟩ := fn x h'.1.2
         exact pgs_cons (pg_name nd h'.1.1 l1 l2) (tgs_ok nd fn is es h'.2))
theorem tgB_each {lc : Scope → Str → Bool} (env : PySem.Env) {N : List Str} {sc : Scope} : ∀ (is : List Nat) (es : List Expr), tgB lc N sc is es = true → (assignEach es env).length = is.length ∧ (assignEach es env).findIdx? (·.1) = none
  | [], [], _ => ⟨rfl, rfl⟩
  | [], _ :: _, h => by cases h
  | _ :: _, [], h => by cases h
  | i :: is, e :: es, h => by
    cases e <;> first
      | (cases h; done)
      | (rename_i x p
         have h' : (decide (N[i]? = some x) && lc sc x && tgB lc N sc is es) = true := h
         simp only [Bool.and_eq_true, decide_eq_true_eq] at h'
         obtain ⟨h1, h2⟩ := tgB_each env is es h'.2
         refine ⟨?_, ?_⟩
         · show (assignEach es env).length + 1 = is.length + 1
           rw [h1]
         · show List.findIdx? (·.1) ((false, assign (.Name x p) env) :: assignEach es env) = none
           rw [List.findIdx?_cons]
           simp [h2])
theorem targ_ok {lc : Scope → Str → Bool} {tg : Expr} {is : List Nat} {tup : Bool} (hc : X.calm = true) (nd : X.N.Nodup) (fn : locOk lc X) (h : targB lc X.N X.env.scope is tup tg = true) : PG X tg (gT X.K is tup) := by
  cases tg <;> first
    | (cases h; done)
    | skip
  · rename_i x p
    have h' : (!tup && tgB lc X.N X.env.scope is [.Name x p] && is.length == 1) = true := h
    simp only [Bool.and_eq_true, beq_iff_eq] at h'
    cases tup with
    | true => exact absurd h'.1.1 (by decide)
    | false =>
      cases is with
      | nil => exact absurd h'.2 (by decide)
      | cons i r =>
        have h2 : (decide (X.N[i]? = some x) && lc X.env.scope x && tgB lc X.N X.env.scope r []) = true := h'.1.2
        simp only [Bool.and_eq_true, decide_eq_true_eq] at h2
        obtain ⟨l1, l2⟩ := fn x h2.1.2
        exact pg_name nd h2.1.1 l1 l2
  · rename_i es j p
    have h' : (tup && tgB lc X.N X.env.scope is es) = true := h
    rw [Bool.and_eq_true] at h'
    cases tup with
    | false => exact absurd h'.1 (by decide)
    | true =>
      obtain ⟨h1, h2⟩ := tgB_each X.env is es h'.2
      exact pg_tup hc (tgs_ok nd fn is es h'.2) h1 h2
/-- an enumerated list is walked by a tuple of names -/
theorem targ_tup {lc : Scope → Str → Bool} {N : List Str} {sc : Scope} {tg : Expr} {is : List Nat} (h : targB lc N sc is true tg = true) : ∃ es j p, tg = .Tuple es j p := by
  cases tg <;> first
    | (cases h; done)
    | exact ⟨_, _, _, rfl⟩
theorem locOk_lcl : locOk lclB X := by
  intro x h
  unfold lclB at h
  split at h
  · exact ⟨.inl (by assumption), .inr (by assumption)⟩
  · cases h
/-- what a target does to the names -/
theorem names_go {K : Frag} {Z : Wd} {G H : Hp} {M : Mp} : ∀ (is : List Nat) (vs : List V) (ds : List D) (σ : L2.St) (ρ : Env) (Q : L2.St → Hp → Prop), is.length = ds.length → Reps K G vs ds → Rel K Z G H M σ ρ →
    (∀ σ2, Rel K Z G H M σ2 ((is.zip ds).foldl (fun r p => put r p.1 (some p.2)) ρ) → (∀ us, (∀ i ∈ is, i ∈ us) → L2.wipe σ2 us = L2.wipe σ us) → Q σ2 H) → gNames is vs σ H Q
  | [], _, [], σ, ρ, Q, _, h, r, q => by
    cases h
    exact ⟨rfl, q σ r fun _ _ => rfl⟩
  | [], _, _ :: _, _, _, _, hl, _, _, _ => by cases hl
  | _ :: _, _, [], _, _, _, hl, _, _, _ => by cases hl
  | i :: is, _, d :: ds, σ, ρ, Q, hl, h, r, q => by
    cases h with
    | cons h1 h2 =>
      refine ⟨_, _, rfl, names_go is _ ds (σ.set i (some _)) (put ρ i (some d)) Q (Nat.succ.inj hl) h2 (r.put h1 i) fun σ2 r2 w2 => q σ2 r2 fun us hu => ?_⟩
      rw [w2 us fun j hj => hu j (List.mem_cons_of_mem _ hj)]
      exact wipe_set (hu i List.mem_cons_self)
theorem target_go {K : Frag} {Z : Wd} {G H : Hp} {M : Mp} {σ : L2.St} {ρ : Env} {is : List Nat} {tup : Bool} {d : D} {v : V} {kρ : Env → Prop} {Q : L2.St → Hp → Prop} (h : target ρ is tup d kρ) (r : Rel K Z G H M σ ρ) (p : Rep K G v d)
    (q : ∀ σ2 ρ2, kρ ρ2 → Rel K Z G H M σ2 ρ2 → (∀ us, (∀ i ∈ is, i ∈ us) → L2.wipe σ2 us = L2.wipe σ us) → Q σ2 H) : gT K is tup v σ H Q := by
  unfold target at h
  split at h
  · exact q _ _ h (r.put p _) fun us hu => wipe_set (hu _ List.mem_cons_self)
  · cases p with
    | tup h1 h2 =>
      refine ⟨_, _, rfl, ex_t r.base.ex h1, by rw [h2.length]; exact h.1.symm, names_go _ _ _ _ _ _ h.1 h2 r fun σ2 r2 w2 => q σ2 _ h.2 r2 w2⟩
  · exact h.elim
end
end T

/-! T: sorted(set(xs)) of whole numbers, any number of them (as far as a set is looked through). -/
namespace T
open PySem PySem.Spec PyProof.Rows L2
/-- a set as it begins -/
abbrev So (w : World) : Obj := ⟨.type "set", none, .set #[] 0 (.fresh 0 0 (!w.params.followText "set-order")), #[]⟩
section
variable {P : Program} {w : World} {A : Around} {E : Value → Shared → Prop} {s : Shared}
set_option maxHeartbeats 3200000 in
theorem set_of_list {l : Addr} {its : Array Value} (ks : List Int) {Q : Value → Shared → Prop} (calm : A.handled = none) (isl : s.heap.IsList l its) (nums : IntsAre its.toList ks) (few : ks.length + 1 < scanBound)
    (fin : ∀ (g : Heap) (tk c : Nat), SetR w g s.heap.objs.size (fun j => decide (j ∈ ks)) c → c ≤ ks.length → (∀ b o, s.heap.get? b = some o → g.get? b = some o) → Q (.ref s.heap.objs.size) ⟨g, s.gens, s.drawn, tk, s.os⟩) :
    wpAny (model P w) A (call (.type "set") [.ref l]) Q E s := by
  have size_eq : its.size = ks.length := by have q := nums.length; rw [Array.length_toList] at q; exact q
  obtain ⟨c, tl, mro⟩ := F.called_set.mro
  have made := F.called_set.made; have sub := F.called_set.sub
  refine wpAny_call (codeAny_of_tree ?_); show wpAny _ _ (callAny (.type "set") _) _ _ _
  refine wpAny_pure (And.intro (Code.quiet_builtin _ (by decide +kernel)) (codeAny_builtin F.entry_type_call ?_))
  rw [Around.under_plain (weight_type_call_type "set" ([.ref l]) ([])) rfl]
  have n1 := F.called_set.notType; have n2 := F.called_set.canCreate; have n3 := F.typeCall_set_1 (.ref l)
  repeat (any_goals (first | assumption | wp_step))
  refine codeAny_mono (code_set_led1 (.ref l) (E := E) (Q₁ := fun ob z => ob = .ref s.heap.objs.size ∧ z = { s with heap := s.heap.push (So w) }) (And.intro rfl rfl)) fun rr z hz => ?_
  cases rr with
  | error _ => exact hz
  | ok fl =>
    cases fl with
    | ret ob =>
      obtain ⟨rfl, rfl⟩ := hz
      have at0 : (s.heap.push (So w)).get? s.heap.objs.size = some (So w) := Heap.get?_push_size _ rfl
      have ty0 : Shared.TypeIs { s with heap := s.heap.push (So w) } (.ref s.heap.objs.size) "set" := ⟨_, at0, rfl⟩
      have i1 := F.called_set.init.lookup; have i2 := F.called_set.init.bind (.ref s.heap.objs.size)
      repeat (any_goals (first | assumption | wp_step))
      refine codeAny_mono (codeAny_call_builtin (R := wants (fun y z => y = .none ∧ ∃ g tk c, z = ⟨g, s.gens, s.drawn, tk, s.os⟩ ∧ SetR w g s.heap.objs.size (fun j => decide (j ∈ ks)) c ∧ c ≤ ks.length ∧ (∀ b o, s.heap.get? b = some o → g.get? b = some o)) E)
        F.called_set.init.plain F.entry_set_init (check_set_init_1 ty0 ?_)) fun y z hy => ?_
      · obtain ⟨⟨oc, od, oda, osl⟩, ho, hc, n, hd⟩ := isl
        simp only at hc hd; subst hc hd
        have ho2 : (s.heap.push (So w)).get? l = some ⟨.type "list", od, .seq its n, osl⟩ := Heap.get?_push_of_some _ ho
        have t1 := F.sub_list_set; have t2 := F.sub_list_frozenset
        have t3 : (Value.type "list" == Value.type "dict") = false := by decide
        have isl2 : (s.heap.push (So w)).IsList l its := ⟨_, ho2, rfl, n, rfl⟩
        unfold Builtin.«set.__init__» noKeywords Builtin.Frozenset.updateFrom
        generalize held : pyIter = PI; wp_walk; subst held
        refine wpAny_pyIter_list isl2 (wpAny_bind (wpAny_runValue ?_))
        have below : l < s.heap.objs.size := Heap.lt_size ho
        have calm3 : A.in1.in1.in1.handled = none := by simp only [Around.in1]; exact calm
        have ne1 : l ≠ (s.heap.push (So w)).objs.size := fun z => by
          rw [Heap.size_push] at z
          exact absurd z (Nat.ne_of_lt (Nat.lt_succ_of_lt below))
        have ne2 : s.heap.objs.size ∉ [(s.heap.push (So w)).objs.size, l] := fun z => by
          rw [Heap.size_push] at z
          simp only [List.mem_cons, List.not_mem_nil, or_false] at z
          rcases z with z | z
          · exact absurd z (Nat.ne_of_lt (Nat.lt_succ_self _))
          · exact absurd z (Nat.ne_of_gt below)
        have each : ∀ (i : Nat) (v : Value), its[i]? = some v → ∃ k t, ks[i]? = some k ∧ v = .int k t := fun i v hv => by
          have lt : i < ks.length := size_eq ▸ (Array.getElem?_eq_some_iff.mp hv).1
          obtain ⟨t, e⟩ := IntsAre.int_at nums i v ((Array.getElem?_toList (xs := its) (i := i)).trans hv)
          exact ⟨ks[i], t, List.getElem?_eq_getElem lt, by rw [e, List.getD_eq_getElem?_getD, List.getElem?_eq_getElem lt]; rfl⟩
        refine set_update_ints ((Walks.list calm3 _ l ne1 its).toS) s.heap.objs.size ne2 ks size_eq few each (its.size - 0) 0 _ (by omega) (Nat.zero_le _) ⟨⟨_, Heap.get?_push_size _ rfl, rfl, rfl⟩, isl2.push _⟩ ?start ?stop
        case start => exact ⟨0, Nat.le_refl 0, setR_new_at (Heap.get?_push_of_some _ at0)⟩
        case stop =>
          rintro ⟨g, g2, d2, tk, o2⟩ c2 moved hc2 hs2
          obtain rfl : g2 = s.gens := moved.gens
          obtain rfl : d2 = s.drawn := moved.drawn
          obtain rfl : o2 = s.os := moved.os
          show wpAny _ _ _ _ _ _; refine wpAny_pure ?_; show wpAny _ _ (ret Value.none) _ _ _
          refine wpAny_pure ⟨rfl, g, tk, c2, rfl, hs2, size_eq ▸ hc2, fun b o e => ?_⟩
          have bl : b < s.heap.objs.size := Heap.lt_size e
          refine moved.heap b o (fun z => ?_) (Heap.get?_push_of_some _ (Heap.get?_push_of_some _ e))
          rw [Heap.size_push] at z
          simp only [List.mem_cons, List.not_mem_nil, or_false] at z
          rcases z with z | z
          · exact absurd z (Nat.ne_of_lt bl)
          · exact absurd z (Nat.ne_of_lt (Nat.lt_succ_of_lt bl))
      · cases y with
        | error _ => exact hy
        | ok fl2 =>
          cases fl2 with
          | ret y2 =>
            obtain ⟨rfl, g, tk, c2, rfl, a1, a2, a3⟩ := hy
            repeat (any_goals (first | assumption | wp_step))
            exact fin g tk c2 a1 a2 a3
          | _ => exact hy.elim
    | _ => exact hz.elim
set_option maxHeartbeats 1600000 in
/-- sorted of a set of whole numbers -/
theorem sorted_of_set {a : Addr} {S : Int → Bool} {n : Nat} {Q : Value → Shared → Prop} (R : SetR w s.heap a S n) (calm : A.handled = none) (hz : n ≤ sizeLine)
    (fin : ∀ z p (out : List Value) (c : Nat) (ns : List Int), (∀ b o, s.heap.get? b = some o → z.heap.get? b = some o) → z.gens = s.gens → z.os = s.os → s.heap.objs.size ≤ p → z.heap.get? p = some (seqObj "list" out.toArray c) → IntsAre out ns →
      ns.Pairwise (· < ·) → (∀ k, k ∈ ns ↔ S k = true) → ns.length = n → Q (.ref p) z) : wpAny (model P w) A (call (.builtin "sorted") [.ref a]) Q E s := by
  obtain ⟨ob, es, ep, tb, at1, ex, dat, gd, nd, mem, small, fits, cnt, ris, led⟩ := R
  refine Calls.call_function_entry kind_sorted plain_sorted entry_sorted (args_sorted1 _) ?_
  unfold Builtin.«sorted»
  refine wpAny_bind (m := checkCount "sorted" 1 1 _) (wpAny_pure (wpAny_bind (collect_set (A := A.in1) calm ⟨ob, at1, ex.1, dat⟩ fits small ris led fun z vs old bigger gens os perm => ?_)))
  have len1 : vs.length = n := (perm.length_eq.trans (List.length_map _)).trans ((Array.length_toList).trans cnt)
  have are : IntsAre vs (vs.map Builtin.Re.reRawOf) := ints_of vs fun v hv => by
    obtain ⟨e, he, q⟩ := List.mem_map.mp (perm.mem_iff.mp hv)
    obtain ⟨k, tk, h1, _⟩ := gd e he
    exact ⟨k, tk, q ▸ h1⟩
  have perm2 : (vs.map Builtin.Re.reRawOf).Perm (es.toList.map keyOf) := by
    have q := perm.map Builtin.Re.reRawOf
    rwa [List.map_map] at q
  refine wpAny_bind (wpAny_newList ?_ (len1 ▸ hz))
  have new1 : (z.heap.push (seqObj "list" vs.toArray 0)).get? z.heap.objs.size = some (seqObj "list" vs.toArray 0) := Heap.get?_push_size _ rfl
  refine wpAny_bind (wpAny_holding (wpAny_call_entry slot_list_sort ⟨_, new1, rfl⟩ entry_list_sort (SrtO.list_sort_ord SrtO.swo_int new1 (len1 ▸ hz) (fun h2 => SrtO.ints_sortable are h2) fun out o1 o2 => ⟨_, rfl, ?_⟩) (args_list_sort _)))
  obtain ⟨k1, k2, k3⟩ := SrtO.ints_out are o1 o2
  obtain ⟨c, hc⟩ := sortedHeap_at (vs := vs) (out := out.toArray) new1
  have perm3 : (out.map SrtO.iv).Perm (es.toList.map keyOf) := k2.trans perm2
  refine wpAny_pure ⟨_, rfl, fin _ z.heap.objs.size out c (out.map SrtO.iv) (fun b u e => ?_) gens os bigger hc k1 (lt_of_le_nodup _ k3 (perm3.nodup_iff.mpr nd)) (fun k => by rw [perm3.mem_iff, ← mem k]) ?_⟩
  · have q := old b u e
    have lt1 := Heap.lt_size q
    show (sortedHeap (z.heap.push (seqObj "list" vs.toArray 0)) z.heap.objs.size vs out.toArray).get? b = some u
    rw [sortedHeap_old (Nat.ne_of_lt lt1) (by rw [size_push']; exact Nat.lt_succ_of_lt lt1)]
    exact Heap.get?_push_of_some _ q
  · exact (perm3.length_eq.trans (List.length_map _)).trans ((Array.length_toList).trans cnt)
end
section
variable {X : Cx} {kk : Nat} {cv : Str → Value} {W : WX} {a : E} {ea : Expr} {pos : Pos}
def rSetL (K : Frag) (w : World) : List V → Hp → VK → Prop := fun xs H Q => ∃ (l : Addr) (ns : List Int), xs = [.ref l] ∧ SqL K H l (ns.map V.int) ∧ ns.length + 1 < scanBound ∧
  ∀ p c, H p = none → c ≤ ns.length → Q (.ref p) (upd H p (SetO w p (fun j => decide (j ∈ ns)) c))
theorem cr_setL (hc : X.calm = true) : CallR X (.type "set") (rSetL X.K X.w) := by
  intro pins s σ H xs us Q I r h
  obtain ⟨l, ns, rfl, hs, few, q⟩ := h
  obtain ⟨its, rv, hl, hz⟩ := I.list hs
  rw [Vals.ref1 r]
  refine set_of_list ns (I.ok.hd hc) hl.isList (by simpa using rv.ints) few fun g tk c R hn old => ?_
  exact ⟨.ref s.heap.objs.size, _, I.laid (t' := tk) old (Nat.le_refl _) (setO_new R), rfl, q _ c (I.hok.fresh (Nat.le_refl _)) hn⟩
def rSortS (w : World) : List V → Hp → VK → Prop := fun vs H Q => ∃ (a : Addr) (S : Int → Bool) (n : Nat), vs = [V.ref a] ∧ H a = some (SetO w a S n) ∧ n ≤ sizeLine ∧
  ∀ (ns : List Int) (p : Addr), ns.Pairwise (· < ·) → (∀ k : Int, k ∈ ns ↔ S k = true) → H p = none → Q (.ref p) (upd H p (.lst (ns.map V.int)))
theorem cr_sortS (hc : X.calm = true) : CallR X (.builtin "sorted") (rSortS X.w) := by
  intro pins s σ H vs us Q I r h
  obtain ⟨a, S, n, rfl, ha, hz, q⟩ := h
  rw [Vals.ref1 r]
  refine sorted_of_set (setO_get I ha) (I.ok.hd hc) hz fun z p out c ns k g o hp hg hi hs hm hl => ?_
  have hn : H p = none := I.hok.fresh hp
  have hlen : (ns.map V.int).length ≤ sizeLine := by rw [List.length_map, hl]; exact hz
  have J : Inv X pins σ (upd H p (.lst (ns.map V.int))) ⟨z.heap, z.gens, z.drawn, z.toks, s.os⟩ :=
    I.call (ch := []) (Un.laid k hp hn) (I.hok.laid k hp ⟨hlen, out, c, vals_of_ints hi, hg⟩) (by rw [g]; exact I.bare) (fun _ z => nomatch z)
  have e : z = ⟨z.heap, z.gens, z.drawn, z.toks, s.os⟩ := by
    cases z
    cases o
    rfl
  rw [e]
  exact ⟨.ref p, _, J, rfl, q ns p hs hm hn⟩
end
end T

/-! T: soundness: what is walked, comprehensions; the whole of the expressions. -/
namespace T
open PySem L2 PyProof.Rows
section
variable {K : Frag} {Z : Wd} {G G1 H H1 G' H' : Hp} {M M1 M' : Mp} {σ : L2.St} {ρ : Env} {p : Addr} {vs : List V} {ds : List D} {o : HO}
/-- an object that the maps don't know stays -/
theorem Tr.loose (t : Tr G H M G' H' M') (h : H p = some o) (hg : G p = none) (hm : M p = none) : H' p = some o ∧ G' p = none ∧ M' p = none := by
  refine ⟨t.keep p o h hm, ?_, ?_⟩
  · cases e : G' p with
    | none => rfl
    | some u =>
      rcases t.new p hg (by rw [e]; exact Option.some_ne_none _) with q | q
      · rw [h] at q
        cases q
      · exact absurd hm q
  · cases e : M' p with
    | none => rfl
    | some u =>
      rcases t.m p (by rw [e]; exact Option.some_ne_none _) with q | q
      · exact absurd hm q
      · rw [h] at q
        cases q
theorem Base.looseW (b : Base K G H M) (hg : G p = none) (hm : M p = none) : Base K G (upd H p o) M := by
  refine ⟨fun a u e => ?_, fun a c e => ?_⟩
  · rw [upd_ne (ne_of_none e hg)]
    exact b.ex a u e
  · have q : a ≠ p := fun q => by
      rw [q, hm] at e
      cases e
    obtain ⟨c1, c2⟩ := b.cell a c e
    exact ⟨c1, c2.up (Ex.refl _) fun u h => by rw [upd_ne q]; exact h⟩
/-- p is younger than the state Z -/
def Young (Z : Wd) (p : Addr) : Prop := Z.H p = none ∨ Z.M p ≠ none
theorem young_of (t : Tr Z.G Z.H Z.M G H M) (h : H p = none) : Young Z p := by
  cases e : Z.H p with
  | none => exact .inl e
  | some u =>
    cases f : Z.M p with
    | some c => exact .inr (by rw [f]; exact Option.some_ne_none _)
    | none =>
      have := t.keep p u e f
      rw [h] at this
      cases this
theorem Tr.looseW (t : Tr Z.G Z.H Z.M G H M) (y : Young Z p) (hm : M p = none) : Tr Z.G Z.H Z.M G (upd H p o) M := by
  refine ⟨t.g, t.new, fun a u e m => ?_, t.m⟩
  have q : a ≠ p := fun q => by
    rw [q] at e m
    rcases y with y | y
    · rw [e] at y
      cases y
    · exact y m
  rw [upd_ne q]
  exact t.keep a u e m
theorem Base.adopt (b : Base K G H M) (hd : H p = some o) (hg : G p = none) (hm : M p = none) : Base K (upd G p o) H M := by
  refine ⟨fun a u e => ?_, fun a c e => ?_⟩
  · by_cases q : a = p
    · subst q
      rw [upd_same] at e
      cases e
      exact hd
    · rw [upd_ne q] at e
      exact b.ex a u e
  · have q : a ≠ p := fun q => by
      rw [q, hm] at e
      cases e
    obtain ⟨c1, c2⟩ := b.cell a c e
    exact ⟨by rw [upd_ne q]; exact c1, c2.up (Ex.new hg) fun _ h => h⟩
theorem Tr.adopt (t : Tr Z.G Z.H Z.M G H M) (hg : G p = none) (y : Young Z p) : Tr Z.G Z.H Z.M (upd G p o) H M := by
  refine ⟨t.g.trans (Ex.new hg), fun a h1 h2 => ?_, t.keep, t.m⟩
  by_cases q : a = p
  · rw [q]
    exact y
  · rw [upd_ne q] at h2
    exact t.new a h1 h2
theorem Base.adoptM (b : Base K G H M) (hd : H p = some (.lst vs)) (hg : G p = none) (r : Reps K G vs ds) : Base K G H (mset M p (.lst ds)) := by
  refine ⟨b.ex, fun a c e => ?_⟩
  by_cases q : a = p
  · subst q
    rw [mset_same] at e
    cases e
    exact ⟨hg, vs, hd, r⟩
  · rw [mset_ne q] at e
    exact b.cell a c e
theorem Tr.adoptM {c : Cell} (t : Tr Z.G Z.H Z.M G H M) (y : Young Z p) : Tr Z.G Z.H Z.M G H (mset M p c) := by
  refine ⟨t.g, t.new, t.keep, fun a q => ?_⟩
  by_cases e : a = p
  · rw [e]
    exact y.symm
  · rw [mset_ne e] at q
    exact t.m a q
theorem Rel.at (r : Rel K Z G H M σ ρ) {Z2 : Wd} (e : Ex G G') (b : Base K G' H' M') (t : Tr Z2.G Z2.H Z2.M G' H' M') : Rel K Z2 G' H' M' σ ρ :=
  ⟨b, t, r.len, fun i d q => by
    obtain ⟨v, h1, h2⟩ := r.slot i d q
    exact ⟨v, h1, h2.up e⟩⟩
end

/-! ### what is walked -/
section
variable {K : Frag}
theorem list_now {G0 H0 : Hp} {M1 : Mp} {v : V} {d : D} {l : List D} (b : Base K G0 H0 M1) (p : Rep K G0 v d) (e : vw M1 d = .lst l) : ∃ a, v = .ref a ∧ ∀ Z G H M σ ρ, Rel K Z G H M σ ρ → Ex G0 G → guardD M1 d M → ∃ xs, SqL K H a xs ∧ Reps K G xs l := by
  cases d with
  | ref a =>
    cases p
    refine ⟨a, rfl, fun Z G H M σ ρ r x g => ?_⟩
    have g : M a = M1 a := g
    cases q : M1 a with
    | none =>
      rw [vw_none q] at e
      cases e
    | some c =>
      cases c with
      | pot =>
        rw [vw_pot q] at e
        cases e
      | exc _ =>
        rw [vw_oth q rfl] at e
        cases e
      | ins _ _ =>
        rw [vw_oth q rfl] at e
        cases e
      | dct _ =>
        rw [vw_oth q rfl] at e
        cases e
      | bdt _ =>
        rw [vw_oth q rfl] at e
        cases e
      | lst l' =>
        rw [vw_lst q] at e
        cases e
        rw [q] at g
        obtain ⟨_, xs, h1, h2⟩ := r.base.cell a _ g
        exact ⟨xs, .inl (.inl h1), h2⟩
  | lst l' =>
    cases e
    cases p with
    | lst h1 h2 =>
      exact ⟨_, rfl, fun Z G H M σ ρ r x g => ⟨_, .inl (.inl (r.base.ex _ _ (x _ _ h1))), h2.up x⟩⟩
  | scr l' =>
    cases e
    cases p with
    | scr h1 h2 =>
      exact ⟨_, rfl, fun Z G H M σ ρ r x g => ⟨_, ex_l r.base.ex (ex_l x h1), h2.up x⟩⟩
  | non => cases e
  | fnm _ => cases e
  | bl _ => cases e
  | int _ => cases e
  | str _ => cases e
  | tup _ => cases e
theorem walks_list {G0 H0 : Hp} {M1 : Mp} {v : V} {d : D} {l : List D} (b : Base K G0 H0 M1) (p : Rep K G0 v d) (e : vw M1 d = .lst l) : ∃ a, v = .ref a ∧ (∃ xs, SqL K H0 a xs) ∧ Walks K G0 (Itl K a) l (guardD M1 d) := by
  obtain ⟨a, hv, now⟩ := list_now b p e
  obtain ⟨a', xs, hv', h1, h2⟩ := b.viewL p e
  have ea : a = a' := by
    rw [hv] at hv'
    cases hv'
    rfl
  subst ea
  refine ⟨a, hv, ⟨xs, h1⟩, ⟨fun Z i G H M σ ρ r x g hi => ?_, fun Z i G H M σ ρ y H' d r x g hd hy => ?_, fun Z G H M σ ρ r x g => ?_⟩⟩
  · obtain ⟨ys, h3, h4⟩ := now Z G H M σ ρ r x g
    obtain ⟨v, h5, _⟩ := h4.get (List.getElem?_eq_getElem hi)
    exact ⟨ys, v, h3, h5⟩
  · obtain ⟨ys, h3, h4⟩ := now Z G H M σ ρ r x g
    obtain ⟨v, h5, h6⟩ := h4.get hd
    obtain ⟨rfl, hy⟩ := hy
    have e2 : some v = some y := h5.symm.trans (hy ys h3)
    cases e2
    exact ⟨G, r.base, .refl, h6⟩
  · obtain ⟨ys, h3, h4⟩ := now Z G H M σ ρ r x g
    exact ⟨ys, h3, Nat.le_of_eq h4.length⟩
theorem walks_tup {G0 : Hp} {a : Addr} {xs : List V} {l : List D} (h : SqT K G0 a xs) (r : Reps K G0 xs l) : Walks K G0 (Itt K a) l (fun _ => True) := by
  refine ⟨fun Z i G H M σ ρ rr x g hi => ?_, fun Z i G H M σ ρ y H' d rr x g hd hy => ?_, fun Z G H M σ ρ rr x g => ?_⟩
  · obtain ⟨v, h5, _⟩ := r.get (List.getElem?_eq_getElem hi)
    exact ⟨xs, v, ex_t rr.base.ex (ex_t x h), h5⟩
  · obtain ⟨v, h5, h6⟩ := r.get hd
    obtain ⟨rfl, hy⟩ := hy
    have e2 : some v = some y := h5.symm.trans (hy xs (ex_t rr.base.ex (ex_t x h)))
    cases e2
    exact ⟨G, rr.base, .refl, h6.up x⟩
  · exact ⟨xs, ex_t rr.base.ex (ex_t x h), Nat.le_of_eq r.length⟩
theorem rangeD_get {i j : Int} {n : Nat} {d : D} (h : (rangeD i j)[n]? = some d) : d = .int (i + n) ∧ n < (j - i).toNat := by
  unfold rangeD at h
  rw [List.getElem?_map] at h
  cases e : (List.range (j - i).toNat)[n]? with
  | none =>
    rw [e] at h
    cases h
  | some m =>
    rw [e] at h
    obtain ⟨h1, h2⟩ := List.getElem?_eq_some_iff.mp e
    rw [List.getElem_range] at h2
    rw [List.length_range] at h1
    subst h2
    cases h
    exact ⟨rfl, h1⟩
theorem rangeD_length (i j : Int) : (rangeD i j).length = (j - i).toNat := by
  unfold rangeD
  rw [List.length_map, List.length_range]
theorem walks_range {G0 : Hp} {i j : Int} : Walks K G0 (Itr i (j - i).toNat) (rangeD i j) (fun _ => True) := by
  refine ⟨fun Z n G H M σ ρ rr x g hi => by rw [rangeD_length] at hi; exact hi, fun Z n G H M σ ρ y H' d rr x g hd hy => ?_, fun Z G H M σ ρ rr x g => Nat.le_of_eq (rangeD_length i j).symm⟩
  obtain ⟨h1, h2⟩ := rangeD_get hd
  obtain ⟨rfl, rfl⟩ := hy
  subst h1
  exact ⟨G, rr.base, .refl, .int _⟩
theorem enumD_get {l : List D} {n : Nat} {d : D} (h : (enumD l)[n]? = some d) : ∃ x, l[n]? = some x ∧ d = .tup [.int (n : Nat), x] := by
  unfold enumD at h
  rw [List.getElem?_map, List.getElem?_zipIdx] at h
  cases e : l[n]? with
  | none =>
    rw [e] at h
    cases h
  | some x =>
    rw [e] at h
    simp at h
    exact ⟨x, rfl, h.symm⟩
theorem enumD_length (l : List D) : (enumD l).length = l.length := by
  unfold enumD
  rw [List.length_map, List.length_zipIdx]
theorem walks_enum {G0 H0 : Hp} {M1 : Mp} {v : V} {d : D} {l : List D} (b : Base K G0 H0 M1) (p : Rep K G0 v d) (e : vw M1 d = .lst l) : ∃ a xs, v = .ref a ∧ SqL K H0 a xs ∧ Walks K G0 (Ite K a) (enumD l) (guardD M1 d) := by
  obtain ⟨a, hv, now⟩ := list_now b p e
  obtain ⟨a', xs, hv', h1, h2⟩ := b.viewL p e
  have ea : a = a' := by
    rw [hv] at hv'
    cases hv'
    rfl
  subst ea
  refine ⟨a, xs, hv, h1, ⟨fun Z i G H M σ ρ r x g hi => ?_, fun Z i G H M σ ρ y H' d r x g hd hy => ?_, fun Z G H M σ ρ r x g => ?_⟩⟩
  · rw [enumD_length] at hi
    obtain ⟨ys, h3, h4⟩ := now Z G H M σ ρ r x g
    obtain ⟨v, h5, _⟩ := h4.get (List.getElem?_eq_getElem hi)
    exact ⟨ys, v, h3, h5⟩
  · obtain ⟨ys, h3, h4⟩ := now Z G H M σ ρ r x g
    obtain ⟨d', h7, rfl⟩ := enumD_get hd
    obtain ⟨v, h5, h6⟩ := h4.get h7
    obtain ⟨T, z, rfl, hT, rfl, hy⟩ := hy
    have e2 : some v = some z := h5.symm.trans (hy ys h3)
    cases e2
    obtain ⟨b2, t2⟩ := r.base.laid (o := .tup [.int (i : Nat), v]) hT
    exact ⟨_, b2, t2, .tup (.inl (.inl upd_same)) (.cons (.int _) (.cons (h6.up t2.g) .nil))⟩
  · obtain ⟨ys, h3, h4⟩ := now Z G H M σ ρ r x g
    exact ⟨ys, h3, by rw [enumD_length]; exact Nat.le_of_eq h4.length⟩
end
section
variable {X : Cx} {kk : Nat} {cv : Str → Value} {W : WX} {a b c d : E} {ea eb ec ed : Expr} {pos : Pos}
theorem si_r1 {tg : Expr} {x : Str} {p : Pos} (G : Good kk X) (hx : x = "range") (hg : glB X.env.scope x = true) (hp : plainX ea = true) (ha : SE X cv W a ea) : PI X tg (.Call (.Name x p) [ea] [] pos) (tIs X.K cv W (.r1 a)) := by
  subst hx
  obtain ⟨g1, g2, g3⟩ := gl_of hg
  refine (pi_range1 g1 (nb_of G (by decide)) (pa_of hp ha.pe pa_nil) (star_plain hp)).of fun σ H Q ⟨Z, G, M, ρ, k, x, r, w, hk, hx⟩ => ⟨Z, G, M, ρ, _, x, r, w, fun d M1 q v G1 H1 r1 e1 p1 => ?_, hx⟩
  obtain ⟨j, rfl, ⟨h1, h2⟩, q⟩ := asInt_of q
  refine ⟨j, by rw [p1.int_eq], h1, h2, ?_⟩
  have wk := walks_range (K := X.K) (G0 := G1) (i := 0) (j := j)
  rw [Int.sub_zero] at wk
  exact hk _ _ M1 q _ G1 H1 r1 e1 wk
theorem si_r2 {tg : Expr} {x : Str} {p : Pos} (G : Good kk X) (hx : x = "range") (hg : glB X.env.scope x = true) (hp : plainX ea = true) (hp2 : plainX eb = true) (ha : SE X cv W a ea) (hb : SE X cv W b eb) : PI X tg (.Call (.Name x p) [ea, eb] [] pos) (tIs X.K cv W (.r2 a b)) := by
  subst hx
  obtain ⟨g1, g2, g3⟩ := gl_of hg
  have hs : starEach [ea, eb] X.env = [(false, eval ea X.env), (false, eval eb X.env)] := by
    rw [star_plain hp, star_plain hp2]
    rfl
  refine (pi_range2 g1 (nb_of G (by decide)) (pa_of hp ha.pe (pa_of hp2 hb.pe pa_nil)) hs (star_plain hp2)).of fun σ H Q ⟨Z, G, M, ρ, k, x, r, w, hk, hx⟩ => two (Q := fun v1 v2 H2 => ∃ i j : Int, [v1, v2] = [.int i, .int j] ∧ (-(2 ^ 62) ≤ i ∧ i < 2 ^ 62 ∧ -(2 ^ 62) ≤ j ∧ j < 2 ^ 62) ∧ Q (Itr i (j - i).toNat) H2) r w hx fun d1 d2 M2 v1 v2 G2 H2 q r2 e2 p1 p2 => ?_
  obtain ⟨i, f1, q1⟩ := asInt_of q
  obtain ⟨j, f2, ⟨⟨h1, h2⟩, h3, h4⟩, q2⟩ := asInt_of q1
  clear q q1
  subst f1 f2
  exact ⟨i, j, by rw [p1.int_eq, p2.int_eq], ⟨h1, h2, h3, h4⟩, hk _ _ M2 q2 _ G2 H2 r2 e2 walks_range⟩
theorem si_lst {tg : Expr} (ha : SE X cv W a ea) : PI X tg ea (tIs X.K cv W (.lst a)) := by
  refine (pi_list ha.pe).of fun σ H Q ⟨Z, G, M, ρ, k, x, r, w, hk, hx⟩ => ⟨Z, G, M, ρ, _, x, r, w, fun d M1 q v G1 H1 r1 e1 p1 => ?_, hx⟩
  obtain ⟨l, f, q⟩ := asL_of q
  obtain ⟨a1, h1, h2, wk⟩ := walks_list r1.base p1 f
  exact ⟨a1, h1, h2, hk _ _ M1 q _ G1 H1 r1 e1 wk⟩
theorem walks_str {K : Frag} {G0 : Hp} {s : Str} : Walks K G0 (Its s) (signsD s) (fun _ => True) := by
  have hl : (signsD s).length = s.cps.size := by
    unfold signsD
    rw [List.length_map, Array.length_toList]
  refine ⟨fun Z n G H M σ ρ rr x g hi => by rw [hl] at hi; exact hi, fun Z n G H M σ ρ y H' d rr x g hd hy => ?_, fun Z G H M σ ρ rr x g => Nat.le_of_eq hl.symm⟩
  obtain ⟨rfl, c, hc, rfl⟩ := hy
  unfold signsD at hd
  rw [List.getElem?_map, Array.getElem?_toList, hc] at hd
  cases hd
  exact ⟨G, rr.base, .refl, .str _⟩
theorem si_str {tg : Expr} (ha : SE X cv W a ea) : PI X tg ea (tIs X.K cv W (.str a)) := by
  refine (pi_str ha.pe).of fun σ H Q ⟨Z, G, M, ρ, k, x, r, w, hk, hx⟩ => ⟨Z, G, M, ρ, _, x, r, w, fun d M1 q v G1 H1 r1 e1 p1 => ?_, hx⟩
  obtain ⟨s, rfl, q⟩ := q
  cases p1
  exact ⟨s, rfl, hk _ _ M1 q _ G1 H1 r1 e1 walks_str⟩
theorem si_tup {tg : Expr} (ha : SE X cv W a ea) : PI X tg ea (tIs X.K cv W (.tup a)) := by
  refine (pi_tup ha.pe).of fun σ H Q ⟨Z, G, M, ρ, k, x, r, w, hk, hx⟩ => ⟨Z, G, M, ρ, _, x, r, w, fun d M1 q v G1 H1 r1 e1 p1 => ?_, hx⟩
  obtain ⟨l, rfl, q⟩ := asT_of q
  cases p1 with
  | tup h1 h2 => exact ⟨_, rfl, ⟨_, ex_t r1.base.ex h1⟩, hk _ _ M1 q _ G1 H1 r1 e1 (walks_tup h1 h2)⟩
theorem si_enum {es : List Expr} {j : Nat} {p2 : Pos} {x : Str} {p : Pos} (G : Good kk X) (hx : x = "enumerate") (hg : glB X.env.scope x = true) (hp : plainX ea = true) (ha : SE X cv W a ea) : PI X (.Tuple es j p2) (.Call (.Name x p) [ea] [] pos) (tIs X.K cv W (.enum a)) := by
  subst hx
  obtain ⟨g1, g2, g3⟩ := gl_of hg
  refine (pi_enum g1 (nb_of G (by decide)) (pa_of hp ha.pe pa_nil) (star_plain hp)).of fun σ H Q ⟨Z, G, M, ρ, k, x, r, w, hk, hx⟩ => ⟨Z, G, M, ρ, _, x, r, w, fun d M1 q v G1 H1 r1 e1 p1 => ?_, hx⟩
  obtain ⟨l, f, q⟩ := asL_of q
  obtain ⟨a1, xs, h1, h2, wk⟩ := walks_enum r1.base p1 f
  exact ⟨a1, xs, by rw [h1], h2, hk _ _ M1 q _ G1 H1 r1 e1 wk⟩

/-! ### comprehensions -/
theorem comp_reads {m : Bool} {own : List (Str × Nat)} {tg : List Nat} {tup : Bool} {it : I} {ca : A} {e : E} (hin : ∀ i ∈ tg, i ∈ own.map (·.2)) :
    ∀ σ H Q, tE X.K cv W (.comp m own tg tup it ca e) σ H Q → tLc (tIs X.K cv W it) (gT X.K tg tup) (tIf1 X.K ca) (tE X.K cv W0 e) (own.map (·.2)) σ H Q := by
  refine fun σ H Q ⟨Z, G, M, ρ, k, x, r, w, hk, hx⟩ => ⟨Z, G, M, ρ, _, x, r, w, fun ds g M1 q J G1 H1 r1 e1 wk => ?_, hx⟩
  obtain ⟨hl, q⟩ := q
  intro L hL
  generalize hvs : own.map (·.2) = vs at hin q ⊢
  generalize hstep : (fun (d : D) (M2 : Mp) (q : Option D → Mp → Prop) => target (wipeE ρ vs) tg tup d fun ρ2 => wpT ca ρ2 M2 fun b M3 => if b = true then wpE e ρ2 M3 (fun y M4 => q (some y) M4) (fun _ _ => False) else q none M3) = step at q
  have yg : Young Z L := young_of r1.tr hL
  have g1L := r1.base.gnone hL
  have m1L := r1.base.mnone hL
  have rw1 := r1.wipe vs
  refine ⟨fun i n H2 => ∃ G2 M2 acc accD, Rel X.K Z G2 H2 M2 (L2.wipe σ vs) (wipeE ρ vs) ∧ Ex G1 G2 ∧ H2 L = some (.lst acc) ∧ G2 L = none ∧ M2 L = none ∧ Reps X.K G2 acc accD ∧ acc.length ≤ i ∧ i ≤ ds.length ∧ n = ds.length - i ∧
    turns g step (ds.drop i) accD M2 (fun l M2 => newL m l M2 k), ⟨ds.length, G1, M1, [], [], ?_, Ex.refl _, upd_same, g1L, m1L, .nil, Nat.le_refl _, Nat.zero_le _, (Nat.sub_zero _).symm, q⟩, ?_⟩
  · exact rw1.at (Ex.refl _) (r1.base.looseW g1L m1L) (r1.tr.looseW yg m1L)
  rintro i n H2 ⟨G2, M2, acc, accD, r2, e2, h2L, g2L, m2L, ra, ha, hi, rfl, q⟩
  by_cases hlt : i < ds.length
  · right
    obtain ⟨d, hd⟩ : ∃ d, ds[i]? = some d := ⟨_, List.getElem?_eq_getElem hlt⟩
    have hdrop : ds.drop i = d :: ds.drop (i + 1) := by
      rw [List.drop_eq_getElem_cons hlt]
      congr 1
      rw [List.getElem?_eq_getElem hlt] at hd
      exact Option.some.inj hd
    rw [hdrop] at q
    obtain ⟨gm, q⟩ := q
    refine ⟨wk.go Z i G2 H2 M2 _ _ r2 e2 gm hlt, fun H' => ∃ G3 M3 acc accD, Rel X.K Z G3 H' M3 (L2.wipe σ vs) (wipeE ρ vs) ∧ Ex G1 G3 ∧ H' L = some (.lst acc) ∧ G3 L = none ∧ M3 L = none ∧ Reps X.K G3 acc accD ∧ acc.length ≤ i + 1 ∧
      turns g step (ds.drop (i + 1)) accD M3 (fun l M2 => newL m l M2 k), fun H' ⟨G3, M3, acc', accD', h1, h2, h3, h4, h5, h6, h7, h8⟩ => ⟨ds.length - (i + 1), by omega, G3, M3, acc', accD', h1, h2, h3, h4, h5, h6, h7, by omega, rfl, h8⟩, fun y H3 hy => ?_⟩
    obtain ⟨G3, b3, t3, p3⟩ := wk.yld Z i G2 H2 M2 _ _ y H3 d r2 e2 gm hd hy
    obtain ⟨h3L, g3L, m3L⟩ := t3.loose h2L g2L m2L
    have r3 : Rel X.K ⟨G3, H3, M2⟩ G3 H3 M2 (L2.wipe σ vs) (wipeE ρ vs) := r2.at t3.g b3 .refl
    rw [← hstep] at q
    refine target_go q r3 p3 fun σ2 ρ2 kq r4 hw => ⟨?_, ?_⟩
    · rw [hw vs hin]
      exact wipe_wipe vs vs fun v hv => hv
    have back : ∀ {G5 H5 : Hp} {M5 : Mp}, Tr G3 H3 M2 G5 H5 M5 → Tr Z.G Z.H Z.M G5 H5 M5 := fun t => (r2.tr.trans t3).trans t
    have up : ∀ {G5 H5 : Hp} {M5 : Mp}, Tr G3 H3 M2 G5 H5 M5 → Ex G2 G5 := fun t => t3.g.trans t.g
    refine ⟨⟨G3, H3, M2⟩, G3, M2, ρ2, _, r4, kq, fun t M4 q4 G4 H4 r5 e5 => ?_⟩
    cases t with
    | false =>
      refine iteF ?_
      have q4 := (show turns g _ (ds.drop (i + 1)) accD M4 _ from q4)
      rw [hstep] at q4
      obtain ⟨h4L, g4L, m4L⟩ := r5.tr.loose h3L g3L m3L
      exact ⟨G4, M4, acc, accD, r2.at (up r5.tr) r5.base (back r5.tr), e2.trans (up r5.tr), h4L, g4L, m4L, ra.up (up r5.tr), Nat.le_succ_of_le ha, q4⟩
    | true =>
      refine iteT ⟨⟨G3, H3, M2⟩, G4, M4, ρ2, _, _, r5, (show wpE e ρ2 M4 _ _ from q4), fun y M5 q5 v G5 H5 r6 e6 p6 => ?_, fun _ _ z => z.elim⟩
      have q5 := (show turns g _ (ds.drop (i + 1)) (accD ++ [y]) M5 _ from q5)
      rw [hstep] at q5
      obtain ⟨h5L, g5L, m5L⟩ := r6.tr.loose h3L g3L m3L
      refine ⟨acc, h5L, by omega, G5, M5, acc ++ [v], accD ++ [y], r2.at (up r6.tr) (r6.base.looseW g5L m5L) ((back r6.tr).looseW yg m5L), e2.trans (up r6.tr), upd_same, g5L, m5L, (ra.up (up r6.tr)).append (.cons p6 .nil), ?_, q5⟩
      rw [List.length_append]
      exact Nat.succ_le_succ ha
  · left
    have hii : i = ds.length := by omega
    subst hii
    rw [List.drop_length] at q
    obtain ⟨gm, q⟩ := q
    refine ⟨wk.stop Z G2 H2 M2 _ _ r2 e2 gm, ?_⟩
    cases m with
    | true =>
      have q : ∀ a, M2 a = none → k (.ref a) (mset M2 a (.lst accD)) := q
      exact hk _ _ (q L m2L) _ G2 H2 (r1.at e2 (r2.base.adoptM h2L g2L ra) (r2.tr.adoptM yg)) (e1.trans e2) (.ref L)
    | false =>
      have q : k (.lst accD) M2 := q
      exact hk _ _ q _ _ H2 (r1.at (e2.trans (Ex.new g2L)) (r2.base.adopt h2L g2L m2L) (r2.tr.adopt g2L yg)) ((e1.trans e2).trans (Ex.new g2L)) (.lst upd_same (ra.up (Ex.new g2L)))
theorem se_comp {m : Bool} {own : List (Str × Nat)} {tg : List Nat} {tup : Bool} {it : I} {ca : A} {e : E} {tgt iter elt : Expr} {ifs : List Expr} {scope : Scope} (GX : Good kk X) (hb : blkC X.N X.env.scope scope own = true) (hp : plainX iter = true)
    (hi : PI X tgt iter (tIs X.K cv W it)) (hin : ∀ i ∈ tg, i ∈ own.map (·.2))
    (hg : ∀ (s : Shared) (H : Hp) (C : Addr) (cl : List (Str × Addr)) (fp : List Addr), PG (X.blk s H scope (compEnvC scope cl C X.env) fp) tgt (gT X.K tg tup))
    (ht : ∀ (s : Shared) (H : Hp) (C : Addr) (cl : List (Str × Addr)) (fp : List Addr), PTs (X.blk s H scope (compEnvC scope cl C X.env) fp) ifs (tIf1 X.K ca))
    (he : ∀ (s : Shared) (H : Hp) (C : Addr) (cl : List (Str × Addr)) (fp : List Addr), SE (X.blk s H scope (compEnvC scope cl C X.env) fp) cv W0 e elt) :
    SE X cv W (.comp m own tg tup it ca e) (.ListComp elt [⟨tgt, iter, ifs, 0⟩] scope pos) :=
  .val ((pe_lc (te := tE X.K cv W0 e) GX.calm GX.nd hi (blkOk_by hb) hg ht (fun s H C cl fp => (he s H C cl fp).pe) (fold_plain hp)).of (comp_reads hin)) (fun _ => rfl) (fun _ _ _ => nofun)
theorem se_frz (hf : frzX ea = true) (ha : SE X cv W a ea) : SE X cv W (.frz a) ea := by
  have key : ∀ {σ : L2.St} {Z : Wd} {G G1 H1 : Hp} {M1 : Mp} {ρ : Env} {k : DK} {d : D} {v : V} {R : V → Hp → Prop}, (match d with | .ref p => (match M1 p with | some (.lst l) => k (.lst l) (mdel M1 p) | _ => False) | d => k d M1) →
      Rel X.K Z G1 H1 M1 σ ρ → Ex G G1 → Rep X.K G1 v d → (∀ d M', k d M' → ∀ v G' H', Rel X.K Z G' H' M' σ ρ → Ex G G' → Rep X.K G' v d → R v H') → R v H1 := by
    intro σ Z G G1 H1 M1 ρ k d v R q r1 e1 p1 hk
    cases d with
    | ref p =>
      cases p1
      simp only at q
      cases f : M1 p with
      | none =>
        rw [f] at q
        exact q.elim
      | some cl =>
        rw [f] at q
        cases cl with
        | lst l =>
          obtain ⟨xs, h1, h2, h3, h4⟩ := r1.base.froz f
          exact hk _ _ q _ _ H1 (r1.go h2 h3) (e1.trans h3.g) h4
        | _ => exact (show False from q).elim
    | _ => exact hk _ M1 q v G1 H1 r1 e1 p1
  have hE : ∀ σ H Q, tE X.K cv W (.frz a) σ H Q → tE X.K cv W a σ H Q := fun σ H Q ⟨Z, G, M, ρ, k, x, r, w, hk, hx⟩ => ⟨Z, G, M, ρ, _, x, r, w, fun d M1 q v G1 H1 r1 e1 p1 => key q r1 e1 p1 hk, hx⟩
  refine .val (ha.pe.of hE) ?_ ?_
  · cases ea <;> first
      | (intro _; rfl)
      | cases hf
  · cases ea <;> first
      | (intro _ _ _ h; cases h; done)
      | cases hf
end
section
variable {X : Cx} {kk : Nat} {cv : Str → Value} {W : WX} {a b c d : E} {ea eb ec ed : Expr} {pos : Pos}
/-! ### is True -/
theorem se_isB {neg v : Bool} {j : Nat} {p2 : Pos} (ha : SE X cv W a ea) : SE X cv W (.isB neg v a) (.Compare ea [if neg = true then CmpOp.IsNot else CmpOp.Is] [.Constant (.bool v) j p2] pos) := by
  have h1 : behindInMarks (if neg = true then CmpOp.IsNot else CmpOp.Is) (.Constant (.bool v) j p2) = false := mark_plain rfl
  have key : ∃ r : R2, OpR X (compareOp (if neg = true then CmpOp.IsNot else CmpOp.Is)) r ∧ ∀ t H (Q : VK), Q (.bl (isBv neg v t)) H → r (.bl t) (.bl v) H Q := by
    cases neg with
    | true => exact ⟨rNotB, op_notBl, fun t H Q q => ⟨t, v, rfl, rfl, q⟩⟩
    | false => exact ⟨rIsB, op_isBl, fun t H Q q => ⟨t, v, rfl, rfl, q⟩⟩
  obtain ⟨r, ho, hr⟩ := key
  refine ⟨(pe_cmpR ho ha.pe pe_bl h1).of fun σ H Q ⟨Z, G, M, ρ, k, x, rr, w, hk, hx⟩ => ⟨Z, G, M, ρ, _, x, rr, w, fun d M1 q v1 G1 H1 r1 e1 p1 => ?_, hx⟩,
    (pt_cmpR ho ha.pe pe_bl h1).of fun σ H Q ⟨Z, G, M, ρ, k, x, rr, w, hk, hx⟩ => ⟨Z, G, M, ρ, _, x, rr, w, fun d M1 q v1 G1 H1 r1 e1 p1 => ?_, hx⟩, fun _ _ _ => nofun⟩
  · obtain ⟨t, rfl, q⟩ := asBl_of q
    cases p1
    exact hr t H1 _ (hk _ M1 q _ G1 H1 r1 e1 (.bl _))
  · obtain ⟨t, rfl, q⟩ := asBl_of q
    cases p1
    exact hr t H1 _ ⟨_, rfl, hk _ M1 q G1 H1 r1 e1⟩
/-! ### a display of a dict, asked at once -/
def tKey (k : Key) : TE := fun _ H Q => Q (kV k) H
theorem pe_key {k : Key} {e : Expr} (h : keyB k e = true) : PE X e (tKey k) := by
  unfold keyB at h
  split at h
  · have e := of_decide_eq_true h
    subst e
    exact pe_int
  · have e := of_decide_eq_true h
    subst e
    exact pe_str
  · cases h
def trD (K : Frag) (cv : Str → Value) (W : WX) : List Key → A → List (TE × TE)
  | k :: ks, .cons a as => (tKey k, tE K cv W a) :: trD K cv W ks as
  | _, _ => []
theorem pairs_of {N : List Str} {sc : Scope} {K : Frag} : ∀ (as : A) (ks : List Key) {es : List (Option Expr)} {vs : List Expr} {σ : L2.St} {H : Hp} {Z : Wd} {G : Hp} {M : Mp} {ρ : Env} {k : List D → Mp → Prop} {x : XP} {Q : List (V × V) → Hp → Prop}, okD N sc as ks es vs = true → Rel K Z G H M σ ρ →
    wpA as ρ M k x → HX K Z cv W σ ρ x → (∀ ds M', k ds M' → ks.length = ds.length → ∀ vs G' H', Rel K Z G' H' M' σ ρ → Ex G G' → Reps K G' vs ds → Q ((ks.map kV).zip vs) H') → tPairs (trD K cv W ks as) σ H Q
  | .nil, ks, es, vs, σ, H, Z, G, M, ρ, k, x, Q, ok, r, w, hx, hk => by
    cases ks with
    | cons a l => cases es <;> cases vs <;> simp [okD] at ok
    | nil => exact hk [] M w rfl [] G H r (Ex.refl G) .nil
  | .cons a as, [], es, vs, σ, H, Z, G, M, ρ, k, x, Q, ok, r, w, hx, hk => by simp [okD] at ok
  | .cons a as, k0 :: ks, es, vs, σ, H, Z, G, M, ρ, k, x, Q, ok, r, w, hx, hk => by
    obtain ⟨e, es, v, vs, rfl, rfl, ok2⟩ : ∃ e es' v vs', es = some e :: es' ∧ vs = v :: vs' ∧ okD N sc as ks es' vs' = true := by
      match es, vs, ok with
      | some e :: es, v :: vs, ok =>
        simp only [okD, Bool.and_eq_true] at ok
        exact ⟨e, es, v, vs, rfl, rfl, ok.2⟩
      | [], _, ok => simp [okD] at ok
      | none :: _, _, ok => simp [okD] at ok
      | some _ :: _, [], ok => simp [okD] at ok
    exact ⟨Z, G, M, ρ, _, x, r, w, fun d M1 w1 v G1 H1 r1 e1 p1 =>
      pairs_of (N := N) (sc := sc) as ks ok2 r1 w1 hx fun ds M2 q hl vs G2 H2 r2 e2 p2 => hk (d :: ds) M2 q (congrArg (· + 1) hl) (v :: vs) G2 H2 r2 (e1.trans e2) (.cons (p1.up e2) p2), hx⟩
theorem okD_look {N : List Str} {sc : Scope} : ∀ (as : A) (ks : List Key) (es : List (Option Expr)) (vs : List Expr), okD N sc as ks es vs = true → es.all (·.isSome) = true ∧ es.length = vs.length ∧ ks.length = es.length
  | .nil, [], [], [], _ => ⟨rfl, rfl, rfl⟩
  | .cons a as, k :: ks, some e :: es, v :: vs, ok => by
    simp only [okD, Bool.and_eq_true] at ok
    obtain ⟨h1, h2, h3⟩ := okD_look as ks es vs ok.2
    refine ⟨?_, ?_, ?_⟩
    · rw [List.all_cons, h1]; rfl
    · rw [List.length_cons, List.length_cons, h2]
    · rw [List.length_cons, List.length_cons, h3]
  | .nil, _ :: _, _, _, ok => by simp [okD] at ok
  | .nil, [], _ :: _, _, ok => by simp [okD] at ok
  | .nil, [], [], _ :: _, ok => by simp [okD] at ok
  | .cons _ _, [], _, _, ok => by simp [okD] at ok
  | .cons _ _, _ :: _, [], _, ok => by simp [okD] at ok
  | .cons _ _, _ :: _, none :: _, _, ok => by simp [okD] at ok
  | .cons _ _, _ :: _, some _ :: _, [], ok => by simp [okD] at ok
theorem valV_merge : ∀ (more acc : List (Key × V)) (k : Key), (more.map (·.1)).Nodup → valV (mergeK acc more) k = match valV more k with
    | some v => some v
    | none => valV acc k
  | [], acc, k, _ => rfl
  | p :: more, acc, k, h => by
    rw [List.map_cons, List.nodup_cons] at h
    show valV (mergeK (putK acc p.1 p.2) more) k = _
    rw [valV_merge more _ k h.2, valV_put]
    by_cases e : p.1 = k
    · subst e
      have hn : valV more p.1 = none := by
        cases q : valV more p.1 with
        | none => rfl
        | some v =>
          have a := valV_any p.1 more
          rw [q] at a
          obtain ⟨z, hz, hq⟩ := List.any_eq_true.mp a
          exact absurd (List.mem_map.mpr ⟨z, hz, of_decide_eq_true hq⟩) h.1
      rw [hn, valV_pos rfl]
      simp
    · rw [valV_neg e]
      cases valV more k with
      | some v => rfl
      | none => exact if_neg fun z => e z.symm
theorem get_rep {K : Frag} {G : Hp} {k : Key} {d : D} {y : D} : ∀ {ks : List Key} {ds : List D} {vs : List V}, Reps K G vs ds → ks.length = ds.length → dget ks ds d = some y → ∃ key v, d = (match key with | .inl i => D.int i | .inr s => D.str s) ∧ valV (ks.zip vs) key = some v ∧ Rep K G v y
  | [], [], _, .nil, _, h => by cases h
  | k :: ks, d0 :: ds, v0 :: vs, .cons r rs, hl, h => by
    unfold dget at h
    by_cases e : hit k d = true
    · rw [if_pos e] at h
      cases h
      refine ⟨k, v0, ?_, valV_pos rfl, r⟩
      cases k with
      | inl i =>
        cases d <;> simp only [hit] at e <;> first
          | (rw [of_decide_eq_true e])
          | cases e
      | inr i =>
        cases d <;> simp only [hit] at e <;> first
          | (rw [of_decide_eq_true e])
          | cases e
    · rw [if_neg e] at h
      obtain ⟨key, v, h1, h2, h3⟩ := get_rep (k := k) rs (Nat.succ.inj hl) h
      refine ⟨key, v, h1, ?_, h3⟩
      rw [List.zip_cons_cons, valV_neg]
      · exact h2
      · intro (z : k = key)
        subst z
        subst h1
        apply e
        cases k <;> simp [hit]
theorem zip_kV : ∀ (ks : List Key) (vs : List V), (ks.map kV).zip vs = (ks.zip vs).map fun kv => (kV kv.1, kv.2)
  | [], _ => rfl
  | _ :: _, [] => rfl
  | k :: ks, v :: vs => by
    rw [List.map_cons, List.zip_cons_cons, List.zip_cons_cons, List.map_cons, zip_kV ks vs]
theorem dsp_reads {N : List Str} {sc : Scope} {vs : A} {ks : List Key} {es : List (Option Expr)} {vals : List Expr} (ok : okD N sc vs ks es vals = true) (nd : ks.Nodup) (h15 : ks.length ≤ 15) : ∀ σ H Q, tE X.K cv W (.dsp ks vs a) σ H Q → tDGet (tDisp (trD X.K cv W ks vs)) (tE X.K cv W a) σ H Q := by
  intro σ H Q ⟨Z, G, M, ρ, k, x, r, w, hk, hx⟩ p hp
  have yg : Young Z p := young_of r.tr hp
  have gp := r.base.gnone hp
  have mp := r.base.mnone hp
  have r0 : Rel X.K Z G (upd H p (.dK [])) M σ ρ := r.at (Ex.refl _) (r.base.looseW gp mp) (r.tr.looseW yg mp)
  have r1 : Rel X.K ⟨G, upd H p (.dK []), M⟩ G (upd H p (.dK [])) M σ ρ := r0.at (Ex.refl _) r0.base .refl
  have back : ∀ {G' H' M'}, Rel X.K ⟨G, upd H p (.dK []), M⟩ G' H' M' σ ρ → Rel X.K Z G' H' M' σ ρ := fun r' => r'.at (Ex.refl _) r'.base (r0.tr.trans r'.tr)
  refine pairs_of vs ks ok r1 w (fun c M' xc G' H' r' => hx c M' xc G' H' (back r')) fun ds M2 q hl us G2 H2 r2 e2 p2 => ?_
  obtain ⟨hh, g2, m2⟩ := r2.tr.loose (o := .dK []) upd_same gp mp
  have hlen : (ks.zip us).length = ks.length := by rw [List.length_zip, p2.length, hl, Nat.min_self]
  refine ⟨hh, ks.zip us, zip_kV ks us, by rw [hlen]; exact h15, ?_⟩
  have r3 : Rel X.K Z G2 (upd H2 p (.dK (mergeK [] (ks.zip us)))) M2 σ ρ := (back r2).at (Ex.refl _) (r2.base.looseW g2 m2) ((back r2).tr.looseW yg m2)
  have r4 : Rel X.K ⟨G2, upd H2 p (.dK (mergeK [] (ks.zip us))), M2⟩ G2 (upd H2 p (.dK (mergeK [] (ks.zip us)))) M2 σ ρ := r3.at (Ex.refl _) r3.base .refl
  have back4 : ∀ {G' H' M'}, Rel X.K ⟨G2, upd H2 p (.dK (mergeK [] (ks.zip us))), M2⟩ G' H' M' σ ρ → Rel X.K Z G' H' M' σ ρ := fun r' => r'.at (Ex.refl _) r'.base (r3.tr.trans r'.tr)
  refine ⟨_, G2, M2, ρ, _, x, r4, q, fun d M3 q v G3 H3 r5 e3 p3 => ?_, fun c M' xc G' H' r' => hx c M' xc G' H' (back4 r')⟩
  obtain ⟨y, h1, q⟩ := q
  obtain ⟨key, v2, h2, h3, h4⟩ := get_rep (k := .inl 0) p2 hl h1
  have hd : H3 p = some (.dK (mergeK [] (ks.zip us))) := (r5.tr.loose upd_same g2 m2).1
  refine ⟨p, v2, rfl, ?_, hk y M3 q v2 G3 H3 (back4 r5) (e2.trans e3) (h4.up e3)⟩
  have hv : v = kV key := by
    subst h2
    cases key <;> cases p3 <;> rfl
  have hm : valV (mergeK [] (ks.zip us)) key = some v2 := by
    rw [valV_merge _ _ _ (by rw [List.map_fst_zip (by rw [p2.length, hl]; exact Nat.le_refl _)]; exact nd), h3]
  rw [hv, ← hm]
  exact DGet.k hd
theorem nosl_plain {e : Expr} (h : plainX e = true) : NoSl e := by
  cases e <;> first
    | (intro _ _; rfl)
    | cases h
theorem se_dsp {N : List Str} {sc : Scope} {vs : A} {ks : List Key} {es : List (Option Expr)} {vals : List Expr} {p2 : Pos} (G : Good kk X) (hp : plainX ea = true) (nd : ks.Nodup) (h0 : 0 < ks.length) (h15 : ks.length ≤ 15) (ok : okD N sc vs ks es vals = true)
    (hv : PPs X p2 es vals (trD X.K cv W ks vs)) (ha : SE X cv W a ea) : SE X cv W (.dsp ks vs a) (.Subscript (.Dict es vals p2) ea pos) := by
  obtain ⟨h1, h2, h3⟩ := okD_look vs ks es vals ok
  have hu : X.A.units + 1 < cLine := Nat.lt_of_le_of_lt (Nat.add_le_add_left (by decide) _) G.room.units
  exact .val ((pe_dget hu (pe_disp hv h1 h2 (fun z => by rw [z] at h3; rw [h3] at h0; exact absurd h0 (by decide)) (by rw [← h3]; exact h15)) ha.pe (nosl_plain hp)).of (dsp_reads ok nd h15)) (fun _ => rfl) (fun _ _ _ => nofun)
/-! ### a list the other way about; how many; a constant of the top -/
theorem se_rev {m : Bool} {k : Nat} {p1 p2 p3 : Pos} (ha : SE X cv W a ea) : SE X cv W (.rev m a) (.Subscript ea (.Slice none none (some (.UnaryOp .USub (.Constant (.int 1) k p1) p2)) p3) pos) :=
  .val ((pe_revL ha.pe).of fun σ H Q ⟨Z, G, M, ρ, k, x, r, w, hk, hx⟩ => ⟨Z, G, M, ρ, _, x, r, w, fun d M1 q v G1 H1 r1 e1 p1 => by
    obtain ⟨l, f, q⟩ := asL_of q
    obtain ⟨a1, xs, rfl, h1, h2⟩ := r1.base.viewL p1 f
    exact ⟨a1, xs, rfl, h1, fun p hp => newL_ok q r1 e1 h2.rev hk hp⟩, hx⟩) (fun _ => rfl) (fun _ _ _ => nofun)
def rCntB (K : Frag) : V → List V → Hp → VK → Prop := fun x xs H Q => ∃ (p : Addr) (bs : List Bool) (b : Bool), x = .ref p ∧ xs = [.bl b] ∧ SqL K H p (bs.map V.bl) ∧ Q (.int (bs.count b : Nat)) H
theorem bools_vals : ∀ {bs : List Bool} {us : List Value}, Vals (bs.map V.bl) us → us = bs.map Value.bool
  | [], _, r => by cases r; rfl
  | b :: bs, _, r => by
    cases r with
    | cons h t =>
      have e : _ = Value.bool b := h
      rw [e, bools_vals t]; rfl
def sameB (b : Bool) : Value → Bool
  | .bool c => c == b
  | _ => false
theorem count_sameB (b : Bool) : ∀ bs : List Bool, (bs.map Value.bool).countP (sameB b) = bs.count b
  | [] => rfl
  | c :: bs => by
    rw [List.map_cons, List.countP_cons, List.count_cons, count_sameB b bs]
    rfl
theorem mt_cntB {X : Cx} : MtR X "list.count" (rCntB X.K) := by
  intro pins s σ H x xs v us Q I rx rxs h
  obtain ⟨p, bs, b, rfl, rfl, hs, q⟩ := h
  cases rx
  obtain ⟨u, rfl, ru⟩ := rxs.one
  cases (show u = Value.bool b from ru)
  obtain ⟨its, rv, ⟨⟨cls, dd, data, sl⟩, n, ho, hc, hdn, hd⟩, hlen⟩ := I.list hs
  simp only at hc hd
  subst hc hd
  have e := bools_vals rv
  subst e
  refine call_meets PySem.F.slot_list_count ⟨_, ho, rfl⟩ PySem.F.entry_list_count (PySem.F.args_list_count_2 _ _)
    (SeqAt.list_countAt p (bs.map Value.bool).toArray n dd sl (.bool b) (sameB b)) ⟨ho, fun y hy => ?_, ?_⟩
  · have hy' : y ∈ bs.map Value.bool := by simpa using hy
    obtain ⟨c, _, rfl⟩ := List.mem_map.mp hy'
    exact SeqAt.EqAt.bool_bool c b
  · refine ⟨.int (bs.count b : Nat), H, I.tok _, ⟨s.toks, ?_⟩, q⟩
    show Value.int (((bs.map Value.bool).countP (sameB b) : Nat) : Int) s.toks = Value.int ((bs.count b : Nat) : Int) s.toks
    rw [count_sameB]
theorem Reps.bls {K : Frag} {G : Hp} : ∀ {ds : List D} {vs : List V} {bs : List Bool}, Reps K G vs ds → blsOf ds = some bs → vs = bs.map V.bl
  | [], _, bs, .nil, e => by
    cases e
    rfl
  | d :: ds, _, bs, .cons h t, e => by
    cases d <;> simp only [blsOf] at e <;> first
      | cases e; done
      | skip
    rename_i c
    cases e2 : blsOf ds with
    | none =>
      rw [e2] at e
      cases e
    | some l =>
      rw [e2] at e
      cases e
      cases h
      rw [t.bls e2]
      rfl
theorem base_noCall {o : Expr} {n : Str} (h : noCall o = true) : attributeBase o n X.env (eval o X.env) = eval o X.env := by
  cases o <;> first
    | rfl
    | cases h
theorem se_cnt {v : Bool} {j : Nat} {p q p2 : Pos} (hn : noCall ea = true) (hl : (p.endLine == q.line) = true) (ha : SE X cv W a ea) : SE X cv W (.cnt v a) (.Call (.Attribute ea "count" p) [.Constant (.bool v) j p2] [] q) :=
  .val ((pe_bm PySem.F.plainAttrs_list PySem.F.slot_list_count PySem.F.type_list_count mt_cntB ha.pe (pa_of rfl pe_bl pa_nil) (base_noCall hn) rfl hl).of fun σ H Q ⟨Z, G, M, ρ, k, x, r, w, hk, hx⟩ => ⟨Z, G, M, ρ, _, x, r, w, fun d M1 q v1 G1 H1 r1 e1 p1 => by
    obtain ⟨l, f, bs, hb, q⟩ := asL_of q
    obtain ⟨a1, xs, rfl, h1, h2⟩ := r1.base.viewL p1 f
    have e := h2.bls hb
    subst e
    exact ⟨.inl ⟨rfl, _, h1⟩, a1, bs, v, rfl, rfl, h1, hk _ M1 q _ G1 H1 r1 e1 (.int _)⟩, hx⟩) (fun _ => rfl) (fun _ _ _ => nofun)
theorem se_glb {x : Str} {d : D} (hc : CallOk cv kk X x (.con d)) (hg : glB X.env.scope x = true) : SE X cv W (.glb x d) (.Name x pos) := by
  obtain ⟨g1, g2, g3⟩ := gl_of hg
  obtain ⟨u, v, hm, rv, hr⟩ := hc
  exact .val ((pe_glob g1 hm rv g2).of fun σ H Q ⟨Z, G, M, ρ, k, x, r, w, hk, hx⟩ => hk _ M w _ G H r (Ex.refl G) (hr G)) (fun _ => rfl) (fun _ _ _ => nofun)
/-- sorted(set(a)) -/
theorem se_sset {m : Bool} {x y : Str} {p p2 pos2 : Pos} (G : Good kk X) (hx : x = "sorted") (hy : y = "set") (hg : glB X.env.scope x = true) (hg2 : glB X.env.scope y = true) (hp : plainX ea = true) (ha : SE X cv W a ea) :
    SE X cv W (.sset m a) (.Call (.Name x p) [.Call (.Name y p2) [ea] [] pos2] [] pos) := by
  subst hx hy
  obtain ⟨g1, g2, g3⟩ := gl_of hg
  obtain ⟨f1, f2, f3⟩ := gl_of hg2
  have inner := pe_callTy (pos := pos2) (p := p2) (cr_setL G.calm) f1 (nb_of G (by decide)) (by decide +kernel) (pa_of hp ha.pe pa_nil) f3 f2 (star_plain hp)
  refine .val ((pe_callB (id := "sorted") (cr_sortS G.calm) g1 (nb_of G (by decide)) (by decide +kernel) (pa_of rfl inner pa_nil) g3 g2 rfl).of fun σ H Q ⟨Z, G, M, ρ, k, x, r, w, hk, hx⟩ => ⟨Z, G, M, ρ, _, x, r, w, fun d M1 q v G1 H1 r1 e1 p1 => ?_, hx⟩) (fun _ => rfl) (fun _ _ _ => nofun)
  obtain ⟨l, f, ns, h3, h4, q⟩ := asL_of q
  obtain ⟨a1, xs, rfl, h1, h2⟩ := r1.base.viewL p1 f
  have e := h2.ints h3
  subst e
  refine ⟨a1, ns, rfl, h1, (by show ns.length + 1 < 4096; omega), fun p0 c hp0 hc => ?_⟩
  have gp := r1.base.gnone hp0
  have mp := r1.base.mnone hp0
  have r2 : Rel X.K Z G1 (upd H1 p0 (SetO X.w p0 (fun j => decide (j ∈ ns)) c)) M1 σ ρ := r1.at (Ex.refl _) (r1.base.looseW gp mp) (r1.tr.looseW (young_of r1.tr hp0) mp)
  refine ⟨p0, _, c, rfl, upd_same, (by rw [PySem.sizeLine_eq]; omega), fun out p3 o1 o2 hp3 => ?_⟩
  exact newL_ok (q out o1 fun j => by rw [o2 j, decide_eq_true_eq]) r2 e1 (Reps.ofInts out) hk hp3
end
end T

/-! T: every second item; tuples put together, empty ones too; isinstance of two types. -/
namespace T
open PySem L2 PyProof.Rows
theorem vals_evens : ∀ {xs : List V} {us : List Value}, Vals xs us → Vals (evens xs) (evens us)
  | _, _, .nil => .nil
  | _, _, .cons a .nil => .cons a .nil
  | _, _, .cons a (.cons _ t) => .cons a (vals_evens t)
theorem vals_drop : ∀ {xs : List V} {us : List Value} (n : Nat), Vals xs us → Vals (xs.drop n) (us.drop n)
  | _, _, 0, h => h
  | _, _, _ + 1, .nil => .nil
  | _, _, n + 1, .cons _ t => vals_drop n t
theorem Reps.evens {K : Frag} {G : Hp} : ∀ {vs : List V} {ds : List D}, Reps K G vs ds → Reps K G (T.evens vs) (T.evens ds)
  | _, _, .nil => .nil
  | _, _, .cons a .nil => .cons a .nil
  | _, _, .cons a (.cons _ t) => .cons a (Reps.evens t)
theorem evens_pick {α : Type} : ∀ (xs : List α) (m : Nat), xs.length ≤ 2 * m → (List.range m).filterMap (fun k => xs[2 * k]?) = evens xs
  | [], m, _ => by
    rw [List.filterMap_eq_nil_iff.mpr fun k _ => by simp]
    rfl
  | [a], 0, h => by simp at h
  | [a], m + 1, _ => by
    rw [List.range_succ_eq_map, List.filterMap_cons]
    show a :: List.filterMap _ _ = [a]
    rw [List.filterMap_map, List.filterMap_eq_nil_iff.mpr fun k _ => by simp]
  | a :: b :: l, 0, h => by simp at h
  | a :: b :: l, m + 1, h => by
    rw [List.range_succ_eq_map, List.filterMap_cons]
    show a :: List.filterMap _ _ = a :: evens l
    rw [List.filterMap_map, ← evens_pick l m (by simp at h; omega)]
    rfl
theorem evens_len {α : Type} : ∀ xs : List α, (evens xs).length ≤ xs.length
  | [] => Nat.le_refl _
  | [a] => Nat.le_refl _
  | a :: _ :: l => by
    have := evens_len l
    show (evens l).length + 1 ≤ l.length + 1 + 1
    omega
theorem fm_congr {α β : Type} {f g : α → Option β} : ∀ {l : List α}, (∀ k ∈ l, f k = g k) → l.filterMap f = l.filterMap g
  | [], _ => rfl
  | a :: l, h => by
    rw [List.filterMap_cons, List.filterMap_cons, h a List.mem_cons_self, fm_congr fun k hk => h k (List.mem_cons_of_mem _ hk)]
theorem stp_pick (items : Array Value) (i : Nat) : PySem.slicePick items (some (i : Int)) none (some 2) = (evens (items.toList.drop i)).toArray := by
  unfold PySem.slicePick
  have eb : PySem.sliceBounds (some (i : Int)) none (some 2) items.size = (((min i items.size : Nat) : Int), (items.size : Int), 2) := by
    unfold PySem.sliceBounds
    simp only [Option.getD_some, show ((2 : Int) > 0) = True from eq_true (by decide), if_true]
    rw [if_neg (by omega)]
    congr 1
    omega
  rw [eb]
  congr 1
  unfold sliceRange
  simp only [show ((2 : Int) > 0) = True from eq_true (by decide), if_true]
  rw [List.filterMap_map, ← evens_pick (items.toList.drop i) (((if ((min i items.size : Nat) : Int) < (items.size : Int) then ((items.size : Int) - ((min i items.size : Nat) : Int) + 2 - 1) / 2 else 0)).toNat) (by rw [List.length_drop, Array.length_toList]; split <;> omega)]
  refine fm_congr fun k hk => ?_
  rw [List.mem_range] at hk
  show items[(((min i items.size : Nat) : Int) + 2 * (k : Int)).toNat]? = _
  rw [List.getElem?_drop, Array.getElem?_toList]
  split at hk
  · congr 1
    omega
  · omega
section
variable {X : Cx}
def tStp (K : Frag) (te : TE) (tl : TO) : TE := fun σ H Q => te σ H fun x H1 => tl σ H1 fun o H2 => ∃ i a xs, o = some i ∧ 0 ≤ i ∧ x = .ref a ∧ SqL K H2 a xs ∧ ∀ p, H2 p = none → Q (.ref p) (upd H2 p (.lst (evens (xs.drop i.toNat))))
theorem pe_stpL {e : Expr} {te : TE} {lo : Option Expr} {tl : TO} {k : Nat} {p1 p3 pos : Pos} (he : PE X e te) (hl : PO X lo tl) : PE X (.Subscript e (.Slice lo none (some (.Constant (.int 2) k p1)) p3) pos) (tStp X.K te tl) := by
  refine ⟨fun pins s σ H Q I h => ?_⟩
  refine Subscript_ (thn (he.run pins s σ H _ I h) fun v s1 ⟨x, H1, I1, r1, q1⟩ => ?_)
  have hst : PO X (some (.Constant (.int 2) k p1)) (tPart (tC (.int 2))) := po_some pe_int
  refine wpAny_Slice (thn (hl.run pins s1 σ H1 _ I1 q1) fun vl s2 ⟨o, H2, I2, pl, q2⟩ => ?_)
  refine thn (po_none.run pins s2 σ H2 (fun o H3 => o = none ∧ H3 = H2) I2 ⟨rfl, rfl⟩) fun vu s3 ⟨u, H3, I3, pu, eu, e3⟩ => ?_
  subst eu e3
  refine thn (hst.run pins s3 σ H3 (fun o H4 => o = some 2 ∧ H4 = H3) I3 ⟨2, rfl, rfl, rfl⟩) fun vs s4 ⟨o4, H4, I4, ps, eo, e4⟩ => ?_
  subst eo e4
  obtain ⟨i, a, xs, eo, hi, ex, hx, q⟩ := q2
  subst eo ex
  cases r1
  have I5 : Inv X pins σ H4 { s4 with heap := s4.heap.push { cls := .type "slice", data := .fields #[vl, vu, vs] } } := I4.kept (t' := s4.toks) fun b ob q => Heap.get?_push_of_some _ q
  obtain ⟨its, r, ht, hz⟩ := I5.list hx
  have hlen := r.length
  show wpAny (model X.prog X.w) X.A (subscriptTail e (.Slice lo none (some (.Constant (.int 2) k p1)) p3) (.ref a) (.ref s4.heap.objs.size)) (EP X pins σ Q) X.xe { s4 with heap := s4.heap.push { cls := .type "slice", data := .fields #[vl, vu, vs] } }
  refine tail_any (ops := [.ref a, .ref s4.heap.objs.size]) ht.isList.typeIs (PySem.slot_list_getitem.lookup) ?_ (by with_unfolding_all rfl)
  obtain ⟨n, rfl⟩ : ∃ n : Nat, i = n := ⟨i.toNat, by omega⟩
  refine wpAny_getItem_list_slice ht.isList (Heap.IsSliceOf.new _ vl vu vs) pl pu ps (by decide) ?_ (by rw [List.size_toArray]; omega)
  rw [stp_pick]
  rw [Int.toNat_natCast] at q
  refine ⟨.ref _, _, I5.laid (t' := s4.toks) (o := .lst (evens (xs.drop n))) (fun b ob q => Heap.get?_push_of_some _ q) (Nat.le_refl _) ?_, rfl, q _ (I5.hok.fresh (Nat.le_refl _))⟩
  exact ⟨Nat.le_trans (evens_len _) (by rw [List.length_drop]; omega), _, 0, vals_evens (vals_drop n r), Heap.get?_push_size _ rfl⟩
end
section
variable {kk : Nat} {X : Cx} {cv : Str → Value} {W : WX} {a b : E} {ea eb : Expr} {pos : Pos}
theorem se_stp {m : Bool} {lo : A} {elo : Option Expr} {k : Nat} {p1 p3 : Pos} (ha : SE X cv W a ea) (hl : PO X elo (tOs X.K cv W lo)) : SE X cv W (.stp m a lo) (.Subscript ea (.Slice elo none (some (.Constant (.int 2) k p1)) p3) pos) :=
  .val ((pe_stpL ha.pe hl).of fun σ H Q ⟨Z, G, M, ρ, k, x, r, w, hk, hx⟩ => ⟨Z, G, M, ρ, _, x, r, w, fun d M1 w1 v G1 H1 r1 e1 p1 =>
    ⟨Z, G1, M1, ρ, _, x, r1, w1, fun o M2 q G2 H2 r2 e2 => by
      obtain ⟨i, rfl, hi, q⟩ := q
      obtain ⟨l, f, q⟩ := asL_of q
      obtain ⟨a1, xs, rfl, h1, h2⟩ := r2.base.viewL (p1.up e2) f
      exact ⟨i, a1, xs, rfl, hi, rfl, h1, fun p hp => newL_ok q r2 (e1.trans e2) (h2.drop _).evens hk hp⟩, hx⟩, hx⟩) (fun _ => rfl) (fun _ _ _ => nofun)
theorem se_catA (ha : SE X cv W a ea) (hb : SE X cv W b eb) : SE X cv W (.catA a b) (.BinOp ea .Add eb pos) :=
  .val ((pe_op op_catA ha.pe hb.pe).of fun σ H Q ⟨Z, G, M, ρ, k, x, r, w, hk, hx⟩ => two (Q := fun v1 v2 H2 => rCatA X.K v1 v2 H2 Q) r w hx fun d1 d2 M2 v1 v2 G2 H2 q r2 e2 p1 p2 => by
    obtain ⟨l1, f1, q1⟩ := asT_of q
    obtain ⟨l2, f2, n3, q3⟩ := asT_of q1
    clear q q1
    subst f1 f2
    cases p1 with
    | tup h1 h2 =>
      cases p2 with
      | tup h3 h4 =>
        refine ⟨_, _, _, _, rfl, rfl, ex_t r2.base.ex h1, ex_t r2.base.ex h3, by rw [h2.length, h4.length]; exact n3, fun z => ?_, fun _ z => ?_, fun _ _ p hp => newT_ok q3 r2 e2 (h2.append h4) hk hp⟩
        · subst z
          cases h2
          exact hk _ _ q3 _ _ _ r2 e2 (.tup h3 h4)
        · subst z
          cases h4
          rw [List.append_nil] at q3
          exact hk _ _ q3 _ _ _ r2 e2 (.tup h1 h2)) (fun _ => rfl) (fun _ _ _ => nofun)
theorem se_isi2 {ty ty2 : String} {x t u : Str} {j : Nat} {p p2 p3 p4 : Pos} (G : Good kk X) (hx : x = "isinstance") (hg : glB X.env.scope x = true) (ht : t = Str.ofString ty) (hu : u = Str.ofString ty2)
    (hin : ["bool", "int", "str", "list", "tuple"].contains ty = true) (hin2 : ["bool", "int", "str", "list", "tuple"].contains ty2 = true) (hgt : glB X.env.scope t = true) (hgu : glB X.env.scope u = true) (hp : plainX ea = true) (ha : SE X cv W a ea) :
    SE X cv W (.isi2 a ty ty2) (.Call (.Name x p) [ea, .Tuple [.Name t p2, .Name u p3] j p4] [] pos) := by
  subst hx
  subst ht
  subst hu
  obtain ⟨g1, g2, g3⟩ := gl_of hg
  obtain ⟨t1, t2, t3⟩ := gl_of hgt
  obtain ⟨u1, u2, u3⟩ := gl_of hgu
  have hb : ∀ ty : String, ["bool", "int", "str", "list", "tuple"].contains ty = true → bootBuiltins (Str.ofString ty) = some (.type ty) ∧ X.mg (Str.ofString ty) = none := by
    intro ty hin
    have hin : ty = "bool" ∨ ty = "int" ∨ ty = "str" ∨ ty = "list" ∨ ty = "tuple" := by simpa using hin
    rcases hin with e | e | e | e | e <;> subst e <;> exact ⟨by decide +kernel, nb_of G (by decide)⟩
  have b1 := hb ty hin
  have b2 := hb ty2 hin2
  have ht : PE X (.Tuple [.Name (Str.ofString ty) p2, .Name (Str.ofString ty2) p3] j p4) _ := pe_tup (pa_cons (pe_bltn (v := .ty ty) t1 b1.2 b1.1 rfl t3 t2) (pa_cons (pe_bltn (v := .ty ty2) u1 b2.2 b2.1 rfl u3 u2) pa_nil (star_plain rfl)) (star_plain rfl))
  refine .val ((pe_callB (id := "isinstance") call_isiT g1 (nb_of G (by decide)) (by decide +kernel)
    (pa_of hp ha.pe (pa_cons ht pa_nil (star_plain rfl))) g3 g2 (star_plain hp) rfl).of fun σ H Q ⟨Z, G, M, ρ, k, x, r, w, hk, hx⟩ =>
    ⟨Z, G, M, ρ, _, x, r, w, fun d M1 q v G1 H1 r1 e1 p1 => ?_, hx⟩) (fun _ => rfl) (fun _ _ _ => nofun)
  obtain ⟨t, b, b', h1, h2, h3, q⟩ := q
  refine ⟨show 2 ≤ sizeLine by decide, fun p hp => ?_⟩
  obtain ⟨bb, tt⟩ := r1.base.laid (o := .tup [.ty ty, .ty ty2]) hp
  have r2 := r1.go bb tt
  refine ⟨v, p, [.ty ty, .ty ty2], .type t, [.type ty, .type ty2], b || b', rfl, upd_same, .cons (.ty ty) (.cons (.ty ty2) .nil), (r2.base.seen (p1.up tt.g)).ty h1, ?_, hk _ M1 q _ _ _ r2 (e1.trans tt.g) (.bl _)⟩
  refine kitAny_cons (kit_ty h2) (fun z => ?_) (fun z => by rw [z]; rfl)
  refine kitAny_cons (kit_ty h3) (fun z2 => ?_) (fun z2 => by rw [z2, Bool.or_true])
  rw [z, z2]
  exact kitAny_nil
end
end T

/-! T: soundness: fields, methods, classes that are called, exceptions asked, dicts, defs as values. -/
namespace T
open PySem L2 PyProof.Rows
theorem few_of {es : List Expr} {env : PySem.Env} {pos : Pos} (hs : es.all plainX = true) (hl : es.length < 30) : methodCallForm (es.length + ([] : List Keyword).length) (backTo pos (starEach es env)) (backToKw pos (keywordEach [] env)) = true := by
  have h1 : (backTo pos (starEach es env)).all (fun x => !x.1) = true := by
    have h := stars_none (env := env) (pos := pos) hs
    rw [List.any_eq_false] at h
    rw [List.all_eq_true]
    intro x hx
    have := h x hx
    cases e : x.1 with
    | true => exact absurd e this
    | false => rfl
  unfold methodCallForm
  rw [h1]
  have h2 : decide (es.length + ([] : List Keyword).length + (if (backToKw pos (keywordEach [] env)).isEmpty then 0 else 1) < 30) = true := decide_eq_true (by
    show es.length + 0 + 0 < 30
    omega)
  rw [h2]
  rfl
theorem meth_text {o : Expr} {m : Str} {apos pos : Pos} {es : List Expr} {env : PySem.Env} (hn : noCall o = true) (hl : (apos.endLine == pos.line) = true) (hs : es.all plainX = true) (h30 : es.length < 30) :
    eval (.Call (.Attribute o m apos) es [] pos) env = (do let ov ← eval o env; standAt apos.atName; let (g, first) ← holding [ov] (getMethod ov m (plainOf o env)); callWith pos g first (backTo pos (starEach es env)) (backToKw pos (keywordEach [] env))) := by
  have h0 : attributeBase o m env (eval o env) = eval o env := by
    cases o <;> first
      | rfl
      | cases hn
  have h1 : eval (.Call (.Attribute o m apos) es [] pos) env = (do let ov ← attributeBase o m env (eval o env); standAt apos.atName; methodCall o m apos pos env ov (es.length + ([] : List Keyword).length) (backTo pos (starEach es env)) (backToKw pos (keywordEach [] env))) := rfl
  rw [h1, h0]
  congr 1
  funext ov
  congr 1
  funext _
  exact mcall_line (few_of hs h30) hl
/-! ### calls whose exceptions are wished for at the caller's slots -/
section
variable {X : Cx} {CX : CXT} {kk : Nat} {f C : Addr} {fd : FuncData} {ps : List Str} {sp : Sp} {XE' : L2.St → XK} {x m : Str} {p pos apos : Pos} {e o : Expr} {es : List Expr} {ta : TE} {ts : TA}
def tMethE (C : Addr) (m : Str) (sp : Sp) (XE' : L2.St → XK) (ta : TE) (t : TA) : TE := fun σ H Q => ta σ H fun v H1 => ∃ a dx fs, v = .ref a ∧ H1 a = some (.ins C dx fs) ∧ getA m fs = none ∧ t σ H1 fun vs H2 => sp (v :: vs) H2 Q (XE' σ)
theorem pe_methE {pl : Sem Bool} (ho : PE X o ta) (hC : Cls X.K C) (hM : Meth X.K C m f) (F : FnOk X.prog X.w X.K X.mg X.base CX kk f fd ps sp) (hr : Room kk X.A) (hb : Binds X.K fd ps []) (hx : ∀ σ, PassesAt CX X σ (XE' σ)) (ha : PA X (e :: es) ts)
    (hp : plainX e = true) (hps : (backTo pos (starEach es X.env)).any (·.1) = false)
    (ht : eval (.Call (.Attribute o m apos) (e :: es) [] pos) X.env = (do let ov ← eval o X.env; standAt apos.atName; let (g, first) ← holding [ov] (getMethod ov m pl); callWith pos g first (backTo pos (starEach (e :: es) X.env)) (backToKw pos (keywordEach [] X.env)))) :
    PE X (.Call (.Attribute o m apos) (e :: es) [] pos) (tMethE C m sp XE' ta ts) := by
  constructor
  intro pins s σ H Q I h
  refine PySem.W.methodCall_KW (pl := pl) (thn (ho.run pins s σ H _ I h) fun u s1 ⟨v, H1, I1, rv, a, dx, fs, ev, ea, hn, q⟩ => ?_) ht
  subst ev
  have eu : u = Value.ref a := rv
  subst eu
  refine getmeth_ok I1 ea hC hM (by rw [getA_lookup]; exact hn) ?_
  refine PySem.W.callWith_K (first := [.ref a]) (h₀ := X.base) I.ok.mod.kin hM.kp (thn (ha.run pos pins s1 σ H1 _ I1 q) fun us s2 ⟨vs, H2, I2, rvs, q2⟩ => ⟨I2.kIn, ?_⟩) (star_plain hp) hps
  exact run_fnS (us := .ref a :: us) (vs := .ref a :: vs) F hr hb (hx σ) I2 (.cons rfl rvs) q2
theorem pe_methE0 {pl : Sem Bool} (ho : PE X o ta) (hC : Cls X.K C) (hM : Meth X.K C m f) (F : FnOk X.prog X.w X.K X.mg X.base CX kk f fd ps sp) (hr : Room kk X.A) (hb : Binds X.K fd ps []) (hx : ∀ σ, PassesAt CX X σ (XE' σ))
    (ht : eval (.Call (.Attribute o m apos) [] [] pos) X.env = (do let ov ← eval o X.env; standAt apos.atName; let (g, first) ← holding [ov] (getMethod ov m pl); callWith pos g first (backTo pos (starEach [] X.env)) (backToKw pos (keywordEach [] X.env)))) :
    PE X (.Call (.Attribute o m apos) [] [] pos) (tMethE C m sp XE' ta (fun _ H Q => Q [] H)) := by
  constructor
  intro pins s σ H Q I h
  refine PySem.W.methodCall_KW (pl := pl) (thn (ho.run pins s σ H _ I h) fun u s1 ⟨v, H1, I1, rv, a, dx, fs, ev, ea, hn, q⟩ => ?_) ht
  subst ev
  have eu : u = Value.ref a := rv
  subst eu
  refine getmeth_ok I1 ea hC hM (by rw [getA_lookup]; exact hn) ?_
  exact PySem.W.callWith_K0 (first := [.ref a]) I1.kIn hM.kp (run_fnS (us := [.ref a]) (vs := [.ref a]) F hr hb (hx σ) I1 (.cons rfl .nil) q)
def tMakeE (C : Addr) (sp : Sp) (XE' : L2.St → XK) (t : TA) : TE := fun σ H Q => t σ H fun vs H1 => ∀ a dx, H1 a = none → H1 dx = none → dx ≠ a → sp (.ref a :: vs) (upd (upd H1 dx (.own a)) a (.ins C dx [])) (fun v H2 => v = .non ∧ Q (.ref a) H2) (XE' σ)
theorem run_makeE {pins : List (Addr × Obj)} {σ : L2.St} {H : Hp} {s : Shared} {Q : VK} {us : List Value} {vs : List V} (hM : Mk X.K C f) (F : FnOk X.prog X.w X.K X.mg X.base CX kk f fd ps sp) (hr : Room (kk + 1) X.A) (hb : Binds X.K fd ps []) (hx : PassesAt CX X σ (XE' σ))
    (I : Inv X pins σ H s) (rvs : Vals vs us) (h : ∀ a dx, H a = none → H dx = none → dx ≠ a → sp (.ref a :: vs) (upd (upd H dx (.own a)) a (.ins C dx [])) (fun v H2 => v = .non ∧ Q (.ref a) H2) (XE' σ)) :
    wpAny (model X.prog X.w) X.A (call (.ref C) us) (EP X pins σ Q) X.xe s := by
  have w := h (s.heap.objs.size + 1) s.heap.objs.size (I.hok.fresh (Nat.le_succ _)) (I.hok.fresh (Nat.le_refl _)) (Nat.ne_of_lt (Nat.lt_succ_self _))
  have J := Inv.made (C := C) I
  have rr : Vals (V.ref (s.heap.objs.size + 1) :: vs) (Value.ref (s.heap.objs.size + 1) :: us) := .cons rfl rvs
  have hl : (Value.ref (s.heap.objs.size + 1) :: us ++ []).length = ps.length := by
    rw [List.append_nil, ← rr.length]
    exact F.len _ _ _ _ w
  have b := hb _ (Value.ref (s.heap.objs.size + 1) :: us) J.kIn hl
  rw [List.append_nil] at b
  refine wpAny_call (make_map (f := f) I.kIn hM.makes hM.init (beq_iff_eq.mp hM.fn) (codeAny_mono (F.run _ X.stack _ _ ⟨Value.ref (s.heap.objs.size + 1) :: us, []⟩ (Value.ref (s.heap.objs.size + 1) :: us) _ _ (XE' σ) (hr.make C us []) (J.env0.make C us []) b rr w) fun r s' z => ?_))
  cases r with
  | error err => exact hx pins _ _ err s' J z
  | ok fl =>
    cases fl with
    | ret u =>
      obtain ⟨v, H', I3, rv, ev, q3⟩ := J.after z
      subst ev
      exact ⟨rv, ⟨V.ref (s.heap.objs.size + 1), H', I3, rfl, q3⟩⟩
    | next => exact z.elim
    | brk => exact z.elim
    | cont => exact z.elim
theorem pe_makeE (hM : Mk X.K C f) (F : FnOk X.prog X.w X.K X.mg X.base CX kk f fd ps sp) (hr : Room (kk + 1) X.A) (hg : Gl X x) (hm : X.mg x = some (.ref C)) (hb : Binds X.K fd ps []) (hx : ∀ σ, PassesAt CX X σ (XE' σ)) (ha : PA X (e :: es) ts) (hdb : (x == ("__debug__" : Str)) = false)
    (hp : plainX e = true) (hps : (backTo pos (starEach es X.env)).any (·.1) = false) : PE X (.Call (.Name x p) (e :: es) [] pos) (tMakeE C sp XE' ts) := by
  constructor
  intro pins s σ H Q I h
  refine wpAny_Call_Name_kw (ld_glob I hg hm ?_ hdb)
  exact PySem.W.callWith_K (h₀ := X.base) I.ok.mod.kin hM.kp (thn (ha.run pos pins s σ H _ I h) fun us s1 ⟨vs, H1, I1, rvs, q⟩ => ⟨I1.kIn, run_makeE hM F hr hb (hx σ) I1 rvs q⟩) (star_plain hp) hps
theorem pe_makeE0 (hM : Mk X.K C f) (F : FnOk X.prog X.w X.K X.mg X.base CX kk f fd ps sp) (hr : Room (kk + 1) X.A) (hg : Gl X x) (hm : X.mg x = some (.ref C)) (hb : Binds X.K fd ps []) (hx : ∀ σ, PassesAt CX X σ (XE' σ)) (hdb : (x == ("__debug__" : Str)) = false) :
    PE X (.Call (.Name x p) [] [] pos) (tMakeE C sp XE' (fun _ H Q => Q [] H)) := by
  constructor
  intro pins s σ H Q I h
  refine wpAny_Call_Name_kw (ld_glob I hg hm ?_ hdb)
  exact PySem.W.callWith_K0 I.kIn hM.kp (run_makeE (us := []) hM F hr hb (hx σ) I .nil h)
theorem pe_callE0 (F : FnOk X.prog X.w X.K X.mg X.base CX kk f fd ps sp) (hr : Room kk X.A) (hg : Gl X x) (hm : X.mg x = some (.ref f)) (hk : PySem.W.keepIn X.K (.ref f) = true) (hb : Binds X.K fd ps []) (hx : ∀ σ, PassesAt CX X σ (XE' σ)) (hdb : (x == ("__debug__" : Str)) = false) :
    PE X (.Call (.Name x p) [] [] pos) (fun σ H Q => sp [] H Q (XE' σ)) := by
  constructor
  intro pins s σ H Q I h
  refine wpAny_Call_Name_kw (ld_glob I hg hm ?_ hdb)
  exact PySem.W.callWith_K0 I.kIn hk (run_fnS (us := []) F hr hb (hx σ) I .nil h)
/-- a def that stands at a name of the body -/
theorem pe_callLE {i : Nat} (F : FnOk X.prog X.w X.K X.mg X.base CX kk f fd ps sp) (hr : Room kk X.A) (hk : PySem.W.keepIn X.K (.ref f) = true) (hb : Binds X.K fd ps []) (hx : ∀ σ, PassesAt CX X σ (XE' σ)) (hv : varB X.N X.env.scope i x = true) (ha : PA X (e :: es) ts)
    (hp : plainX e = true) (hps : (backTo pos (starEach es X.env)).any (·.1) = false) : ∀ pins s σ H Q, Inv X pins σ H s → σ[i]? = some (some (.ref f)) → ts σ H (fun vs H1 => sp vs H1 Q (XE' σ)) → wpAny (model X.prog X.w) X.A (eval (.Call (.Name x p) (e :: es) [] pos) X.env) (EP X pins σ Q) X.xe s := by
  intro pins s σ H Q I hs ht
  refine wpAny_Call_Name_kw (thn ((pe_vars (pos := p) hv).run pins s σ H (fun v H1 => v = .ref f ∧ H1 = H) I ⟨.ref f, hs, rfl, rfl⟩) fun u s1 ⟨v, H1, I1, r1, e1, e2⟩ => ?_)
  subst e1 e2
  cases r1
  exact PySem.W.callWith_K (h₀ := X.base) I.ok.mod.kin hk (thn (ha.run pos pins s1 σ _ _ I1 ht) fun us s2 ⟨vs, H2, I2, rvs, q⟩ => ⟨I2.kIn, run_fnS F hr hb (hx σ) I2 rvs q⟩) (star_plain hp) hps
end
/-! ### isinstance of exceptions -/
section
variable {X : Cx}
/-- None, or an exception object -/
def ExcV (K : Frag) (H : Hp) (x : V) (t : Value) : Prop := (x = .non ∧ t = .type "NoneType") ∨ ∃ a D, x = .ref a ∧ t = .ref D ∧ H a = some (ExcT D a) ∧ ExcC K D
theorem exc_inst {K : Frag} {P : Program} {w : World} {H : Hp} {h : Heap} {a D : Addr} (hok : HOk P w H h) (e : H a = some (ExcT D a)) : ∃ oe, PySem.W.InstAt h a oe D none := by
  obtain ⟨⟨oe, hget, hz, vs, hv⟩, _, _⟩ := hok a _ e
  refine ⟨oe, ?_⟩
  obtain ⟨oc, od, oda, osl⟩ := oe
  obtain ⟨h1, h2⟩ := hz
  dsimp only at h1 h2 hv
  subst h1 h2 hv
  exact ⟨hget, rfl, rfl, trivial⟩
theorem call_isX (u : Value) : CallR X (.builtin "isinstance") (fun xs H Q => ∃ (x c : V) (t : Value) (b : Bool), xs = [x, c] ∧ ClsV c u ∧ ExcV X.K H x t ∧ PySem.W.kitOne X.K t u = some b ∧ Q (.bl b) H) := by
  intro pins s σ H xs us Q I r h
  obtain ⟨x, c, t, b, rfl, kc, hx, e, q⟩ := h
  rcases hx with ⟨rfl, rfl⟩ | ⟨a, D, rfl, rfl, ha, C⟩
  · exact call_isi pins s σ H _ us Q I r ⟨_, _, _, _, b, rfl, kc, .base .non, e, q⟩
  · obtain ⟨u1, u2, rfl, r1, r2⟩ := vals2 r
    cases r1
    have e2 := kc.eq r2
    subst e2
    obtain ⟨oe, J⟩ := exc_inst (K := X.K) I.hok ha
    exact PySem.W.kia_one (PySem.W.handS_kitx_exc C.hg C.hk C.hs C.hd C.ha C.hn C.ht C.hm) I.kIn J e (fun z => nomatch z) fun tk => ⟨.bl b, H, I.tok tk, rfl, q⟩
theorem call_isXT (us : List Value) : CallR X (.builtin "isinstance") (fun xs H Q => ∃ (x : V) (tp : Addr) (cs : List V) (t : Value) (b : Bool), xs = [x, .ref tp] ∧ H tp = some (.tup cs) ∧ Paired ClsV cs us ∧ ExcV X.K H x t ∧ PySem.W.kitAny X.K t us = some b ∧ Q (.bl b) H) := by
  intro pins s σ H xs ws Q I r h
  obtain ⟨x, tp, cs, t, b, rfl, hT, kc, hx, e, q⟩ := h
  rcases hx with ⟨rfl, rfl⟩ | ⟨a, D, rfl, rfl, ha, C⟩
  · exact call_isiT pins s σ H _ ws Q I r ⟨_, tp, cs, _, us, b, rfl, hT, kc, .base .non, e, q⟩
  · obtain ⟨u1, u2, rfl, r1, r2⟩ := vals2 r
    cases r1
    cases r2
    obtain ⟨oe, J⟩ := exc_inst (K := X.K) I.hok ha
    obtain ⟨_, its, rv, ob, h1, h2, n, h3⟩ := I.hok tp _ hT
    have e3 := ClsV.all kc rv
    subst e3
    obtain ⟨oc, od, dt, sl⟩ := ob
    simp only at h2 h3
    subst h2 h3
    exact PySem.W.kia_tup (PySem.W.handS_kitx_exc C.hg C.hk C.hs C.hd C.ha C.hn C.ht C.hm) I.kIn J h1 e (fun z => nomatch z) fun tk => ⟨.bl b, H, I.tok tk, rfl, q⟩
theorem pe_clsAt {x : Str} {v : V} {u : Value} {pos : Pos} (h : ClsAt X.mg x v u) (hg : glB X.env.scope x = true) : PE X (.Name x pos) (fun _ H Q => Q v H) := by
  obtain ⟨g1, g2, g3⟩ := gl_of hg
  obtain ⟨rv, _, hm | ⟨hm, hv, hn⟩⟩ := h
  · exact pe_glob g1 hm rv g2
  · exact pe_bltn g1 hm hv rv hn g2
end
section
variable {X : Cx} {kk : Nat} {cv : Str → Value} {W : WX} {a b c d : E} {ea eb ec ed : Expr} {pos : Pos}
theorem excD_of {M : Mp} {cs : List Str} {d : D} {f : Str → Bool} {k : Bool → Prop} (h : excD M cs d f k) : (d = .non ∧ k false) ∨ ∃ p c, d = .ref p ∧ M p = some (.exc c) ∧ c ∈ cs ∧ k (f c) := by
  unfold excD at h
  split at h
  · exact .inl ⟨rfl, h⟩
  · split at h
    · exact .inr ⟨_, _, rfl, by assumption, h.1, h.2⟩
    · exact h.elim
  · exact h.elim
theorem se_isE {cs : List Str} {cl x t : Str} {p p2 : Pos} (G : Good kk X) (hc : IsaOk X.K X.mg cv cs cl) (hp : plainX ea = true) (hx : x = "isinstance") (hg : glB X.env.scope x = true) (ht : t = cl) (hgt : glB X.env.scope t = true) (ha : SE X cv W a ea) :
    SE X cv W (.isE cs cl a) (.Call (.Name x p) [ea, .Name t p2] [] pos) := by
  subst hx ht
  obtain ⟨g1, g2, g3⟩ := gl_of hg
  obtain ⟨v, u, cl1, kn, kc⟩ := hc
  refine .val ((pe_callB (id := "isinstance") (call_isX u) g1 (nb_of G (by decide)) (by decide +kernel) (pa_of hp ha.pe (pa_cons (pe_clsAt cl1 hgt) pa_nil (star_plain rfl))) g3 g2 (star_plain hp) rfl).of fun σ H Q ⟨Z, G, M, ρ, k, x, r, w, hk, hx⟩ =>
    ⟨Z, G, M, ρ, _, x, r, w, fun d M1 q v1 G1 H1 r1 e1 p1 => ?_, hx⟩) (fun _ => rfl) (fun _ _ _ => nofun)
  rcases excD_of q with ⟨rfl, q⟩ | ⟨q0, c, rfl, hm, hc, q⟩
  · cases p1
    exact ⟨_, v, _, false, rfl, cl1.2.1, .inl ⟨rfl, rfl⟩, kn, hk _ M1 q _ G1 H1 r1 e1 (.bl _)⟩
  · cases p1
    obtain ⟨C, c1, c2, c3⟩ := kc c hc
    obtain ⟨_, C', d1, d2⟩ := r1.base.cell _ _ hm
    rw [c1] at d1
    cases d1
    exact ⟨_, v, _, _, rfl, cl1.2.1, .inr ⟨_, _, rfl, rfl, d2, c2⟩, c3, hk _ M1 q _ G1 H1 r1 e1 (.bl _)⟩
/-- names of classes, as values -/
theorem pa_names {cs : List Str} {env : PySem.Env} : ∀ (cls : List Str) (ts : List Expr), nmsB X.env.scope cls ts = true → needAll (fun g n => Needs X.prog X.w X.K X.mg X.base cv kk g n) (.isa cs) cls →
    ∃ (vs : List V) (us : List Value), Paired ClsV vs us ∧ vs.length = cls.length ∧ PA X ts (fun _ H Q => Q vs H) ∧ PySem.W.kitAny X.K (.type "NoneType") us = some false ∧ ∀ c ∈ cs, ∀ C, clsK X.K c = some C → PySem.W.kitAny X.K (.ref C) us = some (excAny c cls)
  | [], [], _, _ => ⟨[], [], .nil, rfl, pa_nil, rfl, fun _ _ _ _ => rfl⟩
  | [], _ :: _, h, _ => by simp [nmsB] at h
  | _ :: _, [], h, _ => by simp [nmsB] at h
  | x :: cls, t :: ts, h, hn => by
    cases t <;> first
      | (simp [nmsB] at h; done)
      | skip
    rename_i y p
    have h' : (decide (y = x) && glB X.env.scope y && nmsB X.env.scope cls ts) = true := by simpa [nmsB] using h
    simp only [Bool.and_eq_true, decide_eq_true_eq] at h'
    obtain ⟨⟨e1, h1⟩, h2⟩ := h'
    subst e1
    obtain ⟨hn1, hn2⟩ := hn
    obtain ⟨v, u, cl1, kn, kc⟩ := (show IsaOk X.K X.mg cv cs y from hn1)
    obtain ⟨vs, us, i1, i2, i3, i4, i5⟩ := pa_names (env := env) cls ts h2 hn2
    refine ⟨v :: vs, u :: us, .cons cl1.2.1 i1, by rw [List.length_cons, List.length_cons, i2], pa_cons (pe_clsAt cl1 h1) i3 (star_plain rfl), kitAny_cons kn (fun _ => i4) nofun, fun c hc C hC => ?_⟩
    obtain ⟨C', c1, c2, c3⟩ := kc c hc
    rw [hC] at c1
    cases c1
    refine kitAny_cons c3 (fun z => ?_) (fun z => ?_)
    · rw [i5 c hc C hC]
      unfold excAny
      rw [List.any_cons, z, Bool.false_or]
    · unfold excAny
      rw [List.any_cons, z, Bool.true_or]
theorem se_isEs {cs cls : List Str} {x : Str} {ts : List Expr} {j : Nat} {p p2 : Pos} (G : Good kk X) (hc : needAll (fun g n => Needs X.prog X.w X.K X.mg X.base cv kk g n) (.isa cs) cls) (hr : ∀ c ∈ cs, cls ≠ [] → True) (hp : plainX ea = true) (hx : x = "isinstance") (hg : glB X.env.scope x = true) (ht : nmsB X.env.scope cls ts = true) (hl : cls.length ≤ 20)
    (ha : SE X cv W a ea) (hC : cls ≠ []) : SE X cv W (.isEs cs cls a) (.Call (.Name x p) [ea, .Tuple ts j p2] [] pos) := by
  subst hx
  obtain ⟨g1, g2, g3⟩ := gl_of hg
  obtain ⟨vs, us, i1, i2, i3, i4, i5⟩ := pa_names (X := X) (cv := cv) (kk := kk) (cs := cs) (env := X.env) cls ts ht hc
  refine .val ((pe_callB (id := "isinstance") (call_isXT us) g1 (nb_of G (by decide)) (by decide +kernel) (pa_of hp ha.pe (pa_cons (pe_tup i3) pa_nil (star_plain rfl))) g3 g2 (star_plain hp) rfl).of fun σ H Q ⟨Z, G, M, ρ, k, x, r, w, hk, hx⟩ =>
    ⟨Z, G, M, ρ, _, x, r, w, fun d M1 q v1 G1 H1 r1 e1 p1 => ⟨by rw [i2, PySem.sizeLine_eq]; omega, fun tp htp => ?_⟩, hx⟩) (fun _ => rfl) (fun _ _ _ => nofun)
  have gp := r1.base.gnone htp
  have mp := r1.base.mnone htp
  have r2 : Rel X.K Z G1 (upd H1 tp (.tup vs)) M1 σ ρ := r1.at (Ex.refl _) (r1.base.looseW gp mp) (r1.tr.looseW (young_of r1.tr htp) mp)
  rcases excD_of q with ⟨rfl, q⟩ | ⟨q0, c, rfl, hm, hc1, q⟩
  · cases p1
    exact ⟨_, tp, vs, _, false, rfl, upd_same, i1, .inl ⟨rfl, rfl⟩, i4, hk _ M1 q _ G1 _ r2 e1 (.bl _)⟩
  · cases p1
    obtain ⟨_, C', d1, d2⟩ := r1.base.cell _ _ hm
    have nq : q0 ≠ tp := fun z => by
      rw [z, htp] at d2
      cases d2
    obtain ⟨C, c1, c2, c3⟩ : ∃ C, clsK X.K c = some C ∧ ExcC X.K C ∧ True := by
      cases cls with
      | nil => exact absurd rfl hC
      | cons y l =>
        obtain ⟨_, _, _, _, kc⟩ := (show IsaOk X.K X.mg cv cs y from hc.1)
        obtain ⟨C, c1, c2, c3⟩ := kc c hc1
        exact ⟨C, c1, c2, trivial⟩
    rw [c1] at d1
    cases d1
    exact ⟨_, tp, vs, _, _, rfl, upd_same, i1, .inr ⟨_, _, rfl, rfl, by rw [upd_ne nq]; exact d2, c2⟩, i5 c hc1 _ c1, hk _ M1 q _ G1 _ r2 e1 (.bl _)⟩
/-! ### fields, methods, classes -/
theorem fldD_of {M : Mp} {d : D} {c f : Str} {k : D → Prop} (h : fldD M d c f k) : ∃ p fs y, d = .ref p ∧ M p = some (.ins c fs) ∧ getA f fs = some y ∧ k y := by
  unfold fldD at h
  split at h
  · split at h
    · obtain ⟨rfl, y, h1, h2⟩ := h
      exact ⟨_, _, y, rfl, by assumption, h1, h2⟩
    · exact h.elim
  · exact h.elim
theorem noF_of {M : Mp} {d : D} {c m : Str} (h : noF M d c m) : ∃ p fs, d = .ref p ∧ M p = some (.ins c fs) ∧ getA m fs = none := by
  unfold noF at h
  split at h
  · split at h
    · obtain ⟨rfl, h1⟩ := h
      exact ⟨_, _, rfl, by assumption, h1⟩
    · exact h.elim
  · exact h.elim
theorem se_fld {c f x : Str} (hc : FldOk X.K c f) (hx : x = f) (hn : noCall ea = true) (ha : SE X cv W a ea) : SE X cv W (.fld c f a) (.Attribute ea x pos) := by
  subst hx
  obtain ⟨C, c1, c2, c3⟩ := hc
  refine .val ((pe_fld ha.pe (base_noCall hn)).of fun σ H Q ⟨Z, G, M, ρ, k, x, r, w, hk, hx⟩ => ⟨Z, G, M, ρ, _, x, r, w, fun d M1 q v G1 H1 r1 e1 p1 => ?_, hx⟩) (fun _ => rfl) (fun _ _ _ => nofun)
  obtain ⟨p, fs, y, rfl, hm, hy, q⟩ := fldD_of q
  cases p1
  obtain ⟨_, C', dx, vs, d1, d2, d3⟩ := r1.base.cell p _ hm
  rw [c1] at d1
  cases d1
  obtain ⟨v, h1, h2⟩ := d3.some hy
  exact ⟨p, _, dx, vs, v, rfl, d2, c2, c3, by rw [getA_lookup]; exact h1, hk _ M1 q v G1 H1 r1 e1 h2⟩
theorem se_meth {c m x : Str} {F : Spec} {as : A} {es : List Expr} {apos : Pos} (G : Good kk X) (tk : Takes X W) (hc : MetOk X.prog X.w X.K X.mg X.base cv kk c m F) (hx : x = m) (hn : noCall ea = true) (hl : (apos.endLine == pos.line) = true) (h30 : es.length < 30) (hs : es.all plainX = true) (h : PA X es (tAs X.K cv W as)) (h0 : es = [] → as = .nil) (ha : SE X cv W a ea) :
    SE X cv W (.meth c m F a as) (.Call (.Attribute ea x apos) es [] pos) := by
  subst hx
  obtain ⟨C, f, c1, c2, c3, fd, ps, hk, hb, hf⟩ := hc
  have key : ∀ σ H Q, tE X.K cv W (.meth c x F a as) σ H Q → tMethE C x (SpM X.K cv F) (WE W) (tE X.K cv W a) (tAs X.K cv W as) σ H Q := fun σ H Q ⟨Z, G, M, ρ, k, xx, r, w, hk, hx⟩ => ⟨Z, G, M, ρ, _, xx, r, w, fun d M1 q v G1 H1 r1 e1 p1 => by
    obtain ⟨q1, q2⟩ := q
    obtain ⟨p, fs, rfl, hm, hy⟩ := noF_of q1
    obtain ⟨_, C', dx, vs, d1, d2, d3⟩ := r1.base.cell p _ hm
    rw [c1] at d1
    cases d1
    cases p1
    refine ⟨p, dx, vs, rfl, d2, d3.none hy, Z, G1, M1, ρ, _, xx, r1, q2, fun ds M2 q vs2 G2 H2 r2 e2 p2 => ?_, hx⟩
    exact ⟨G2, M2, .ref p :: ds, k, xx, r2.base, .cons (.ref p) p2, q, fun d M' q v G' H' b t pp => hk d M' q v G' H' (r2.go b t) ((e1.trans e2).trans t.g) pp, fun cc M' q G' H' b t => hx cc M' q G' H' (r2.go b t)⟩, hx⟩
  refine .val ?_ (fun _ => rfl) (fun _ _ _ => nofun)
  cases es with
  | nil =>
    have h0 := h0 rfl
    subst h0
    have key2 : ∀ σ H Q, tE X.K cv W (.meth c x F a .nil) σ H Q → tMethE C x (SpM X.K cv F) (WE W) (tE X.K cv W a) (fun _ H Q => Q [] H) σ H Q := fun σ H Q ⟨Z, G, M, ρ, k, xx, r, w, hk, hx⟩ => ⟨Z, G, M, ρ, _, xx, r, w, fun d M1 q v G1 H1 r1 e1 p1 => by
      obtain ⟨q1, q2⟩ := q
      obtain ⟨p, fs, rfl, hm, hy⟩ := noF_of q1
      obtain ⟨_, C', dx, vs, d1, d2, d3⟩ := r1.base.cell p _ hm
      rw [c1] at d1
      cases d1
      cases p1
      refine ⟨p, dx, vs, rfl, d2, d3.none hy, ?_⟩
      exact ⟨G1, M1, [.ref p], k, xx, r1.base, .cons (.ref p) .nil, q2, fun d M' q v G' H' b t pp => hk d M' q v G' H' (r1.go b t) (e1.trans t.g) pp, fun cc M' q G' H' b t => hx cc M' q G' H' (r1.go b t)⟩, hx⟩
    exact (pe_methE0 (XE' := WE W) ha.pe c2 c3 hf G.room hb (passAt tk) (meth_text hn hl hs h30)).of key2
  | cons e es =>
    have ht := meth_text (env := X.env) (m := x) hn hl hs h30
    rw [List.all_cons, Bool.and_eq_true] at hs
    exact (pe_methE (XE' := WE W) ha.pe c2 c3 hf G.room hb (passAt tk) h hs.1 (stars_none hs.2) ht).of key
theorem se_make {c x : Str} {F : Spec} {as : A} {es : List Expr} {p : Pos} (G : Good kk X) (tk : Takes X W) (hc : MakOk X.prog X.w X.K X.mg X.base cv kk c F) (hx : x = c) (hg : glB X.env.scope x = true) (hs : es.all plainX = true) (h : PA X es (tAs X.K cv W as)) (h0 : es = [] → as = .nil) :
    SE X cv W (.make c F as) (.Call (.Name x p) es [] pos) := by
  subst hx
  obtain ⟨g1, g2, g3⟩ := gl_of hg
  obtain ⟨C, f, j, hj, c1, c2, c3, fd, ps, hk, hb, hf⟩ := hc
  have hr : Room (j + 1) X.A := G.room.mono hj
  have go : ∀ {σ : L2.St} {H1 : Hp} {Q : VK} {Z : Wd} {G G1 : Hp} {M1 : Mp} {ρ : Env} {k : DK} {xx : XP} {ds : List T.D} {vs : List V}, Rel X.K Z G1 H1 M1 σ ρ → Ex G G1 → Reps X.K G1 vs ds → (∀ a, M1 a = none → F (.ref a :: ds) (mset M1 a (.ins x [])) (fun d M2 => d = .non ∧ k (.ref a) M2) xx) →
      (∀ d M', k d M' → ∀ v G' H', Rel X.K Z G' H' M' σ ρ → Ex G G' → Rep X.K G' v d → Q v H') → HX X.K Z cv W σ ρ xx →
      ∀ a dx, H1 a = none → H1 dx = none → dx ≠ a → SpM X.K cv F (.ref a :: vs) (upd (upd H1 dx (.own a)) a (.ins C dx [])) (fun v H2 => v = .non ∧ Q (.ref a) H2) (WE W σ) := by
    intro σ H1 Q Z G G1 M1 ρ k xx ds vs r1 e1 rvs q hk hx a dx ha hdx hne
    have r2 : Rel X.K Z G1 (upd H1 dx (.own a)) M1 σ ρ := r1.at (Ex.refl _) (r1.base.looseW (r1.base.gnone hdx) (r1.base.mnone hdx)) (r1.tr.looseW (young_of r1.tr hdx) (r1.base.mnone hdx))
    obtain ⟨b3, t3⟩ := r2.base.laidC (p := a) (o := .ins C dx []) (c2 := .ins x []) (by rw [upd_ne (Ne.symm hne)]; exact ha) ⟨C, dx, [], c1, upd_same, .nil⟩
    have r3 := r2.go b3 t3
    refine ⟨G1, _, .ref a :: ds, _, xx, b3, .cons (.ref a) rvs, q a (r1.base.mnone ha), fun d M' q v G' H' b t pp => ?_, fun cc M' q G' H' b t => hx cc M' q G' H' (r3.go b t)⟩
    obtain ⟨rfl, q⟩ := q
    cases pp
    exact ⟨rfl, hk _ M' q _ G' H' (r3.go b t) (e1.trans t.g) (.ref a)⟩
  refine .val ?_ (fun _ => rfl) (fun _ _ _ => nofun)
  cases es with
  | nil =>
    have h0 := h0 rfl
    subst h0
    exact (pe_makeE0 (XE' := WE W) c3 hf hr g1 c2 hb (passAt tk) g2).of fun σ H Q ⟨Z, G, M, ρ, k, xx, r, w, hk, hx⟩ => go r (Ex.refl _) .nil w hk hx
  | cons e es =>
    rw [List.all_cons, Bool.and_eq_true] at hs
    exact (pe_makeE (XE' := WE W) c3 hf hr g1 c2 hb (passAt tk) h g2 hs.1 (stars_none hs.2)).of fun σ H Q ⟨Z, G, M, ρ, k, xx, r, w, hk, hx⟩ => ⟨Z, G, M, ρ, _, xx, r, w, fun ds M1 q vs G1 H1 r1 e1 p1 => go r1 e1 p1 q hk hx, hx⟩
theorem se_call0 {g : Str} {F : Spec} {x : Str} {p : Pos} (G : Good kk X) (tk : Takes X W) (hc : CallOk cv kk X g (.fn F)) (hx : x = g) (hg : glB X.env.scope x = true) : SE X cv W (.call g F .nil) (.Call (.Name x p) [] [] pos) := by
  subst hx
  obtain ⟨g1, g2, g3⟩ := gl_of hg
  obtain ⟨f, fd, ps, hm, hk, hb, hf⟩ := hc
  refine .val ((pe_callE0 (XE' := WE W) hf G.room g1 hm hk hb (passAt tk) g2).of fun σ H Q ⟨Z, G, M, ρ, k, x, r, w, hk, hx⟩ => ?_) (fun _ => rfl) (fun _ _ _ => nofun)
  exact ⟨G, M, [], k, x, r.base, .nil, w, fun d M' q v G' H' b t pp => hk d M' q v G' H' (r.go b t) t.g pp, fun cc M' q G' H' b t => hx cc M' q G' H' (r.go b t)⟩
/-! ### the last item of a list -/
theorem popD_of {M : Mp} {a : D} {k : DK} (h : popD M a k) : ∃ p l d, a = .ref p ∧ M p = some (.lst l) ∧ l[l.length - 1]? = some d ∧ k d (mset M p (.lst l.dropLast)) := by
  unfold popD at h
  split at h
  · split at h
    · obtain ⟨d, h1, h2⟩ := h
      exact ⟨_, _, d, rfl, by assumption, h1, h2⟩
    · exact h.elim
  · exact h.elim
theorem Reps.initial {K : Frag} {G : Hp} : ∀ {vs : List V} {ds : List T.D}, Reps K G vs ds → Reps K G vs.dropLast ds.dropLast
  | _, _, .nil => .nil
  | _, _, .cons _ .nil => .nil
  | _, _, .cons h1 (.cons h2 h3) => .cons h1 (Reps.initial (.cons h2 h3))
theorem se_popE {x : Str} {p q : Pos} (hx : x = "pop") (hn : noCall ea = true) (hl : (p.endLine == q.line) = true) (ha : SE X cv W a ea) : SE X cv W (.popE a) (.Call (.Attribute ea x p) [] [] q) := by
  subst hx
  refine .val ((pe_bm0 PySem.F.plainAttrs_list PySem.F.slot_list_pop PySem.F.type_list_pop mt_pop ha.pe (base_noCall hn) hl).of fun σ H Q ⟨Z, G, M, ρ, k, x, r, w, hk, hx⟩ => ⟨Z, G, M, ρ, _, x, r, w, fun d M1 q v G1 H1 r1 e1 p1 => ?_, hx⟩) (fun _ => rfl) (fun _ _ _ => nofun)
  obtain ⟨p, l, y, rfl, hm, g1, q⟩ := popD_of q
  cases p1
  obtain ⟨_, xs, h5, h6⟩ := r1.base.cell p _ hm
  obtain ⟨z, g2, g3⟩ := h6.get g1
  obtain ⟨b, t⟩ := r1.base.writ hm h6.initial
  exact ⟨.inl ⟨rfl, xs, .inl (.inl h5)⟩, p, xs, z, rfl, rfl, h5, by rw [h6.length]; exact g2, hk _ _ q z _ _ (r1.go b t) (e1.trans t.g) (g3.up t.g)⟩
/-! ### defs as values -/
theorem se_fnv {x y : Str} (hc : FnvOk X.K X.mg x) (hx : x = y) (hg : glB X.env.scope y = true) : SE X cv W (.fnv x) (.Name y pos) := by
  subst hx
  obtain ⟨g1, g2, g3⟩ := gl_of hg
  obtain ⟨f, hm, hn⟩ := hc
  exact .val ((pe_glob (v := .ref f) g1 hm rfl g2).of fun σ H Q ⟨Z, G, M, ρ, k, x, r, w, hk, hx⟩ => hk _ M w _ G H r (Ex.refl G) (.fnm hn)) (fun _ => rfl) (fun _ _ _ => nofun)
theorem fns_of {p : Str → Need → Prop} {g : Str} {F : Spec} : ∀ {Fs : List (Str × Spec)}, needFns p Fs → specOf Fs g = some F → p g (.fnc F)
  | [], _, h => by cases h
  | (y, F') :: l, hn, h => by
    unfold specOf at h
    by_cases e : y = g
    · rw [if_pos e] at h
      cases h
      subst e
      exact hn.1
    · rw [if_neg e] at h
      exact fns_of hn.2 h
theorem se_callV {i : Nat} {Fs : List (Str × Spec)} {as : A} {e : Expr} {es : List Expr} {x : Str} {p : Pos} (G : Good kk X) (tk : Takes X W) (hc : needFns (CallOk cv kk X) Fs) (hv : varB X.N X.env.scope i x = true) (hs : (e :: es).all plainX = true) (h : PA X (e :: es) (tAs X.K cv W as)) :
    SE X cv W (.callV i Fs as) (.Call (.Name x p) (e :: es) [] pos) := by
  rw [List.all_cons, Bool.and_eq_true] at hs
  refine .val ⟨fun pins s σ H Q I ⟨Z, G1, M, ρ, k, xx, r, w, hk, hx⟩ => ?_⟩ (fun _ => rfl) (fun _ _ _ => nofun)
  obtain ⟨g, F, e1, e2, w⟩ := w
  obtain ⟨f, hn, fd, ps, hkp, hb, hf⟩ := (show FncOk X.prog X.w X.K X.mg X.base cv kk g F from fns_of hc e2)
  obtain ⟨v, s1, s2⟩ := r.slot i _ e1
  cases s2 with
  | fnm hf2 =>
    rw [hn] at hf2
    cases hf2
    exact pe_callLE (XE' := WE W) hf G.room hkp hb (passAt tk) hv h hs.1 (stars_none hs.2) pins s σ H Q I s1 ⟨Z, G1, M, ρ, _, xx, r, w, fun ds M1 q vs G2 H1 r1 e1 p1 =>
      ⟨G2, M1, ds, k, xx, r1.base, p1, q, fun d M' q v G' H' b t pp => hk d M' q v G' H' (r1.go b t) (e1.trans t.g) pp, fun cc M' q G' H' b t => hx cc M' q G' H' (r1.go b t)⟩, hx⟩
/-! ### dicts -/
theorem dctD_of {M : Mp} {d : D} {k : List (Key × D) → Prop} (h : dctD M d k) : ∃ p kvs, d = .ref p ∧ M p = some (.dct kvs) ∧ k kvs := by
  unfold dctD at h
  split at h
  · split at h
    · exact ⟨_, _, rfl, by assumption, h⟩
    · exact h.elim
  · exact h.elim
theorem keyD_of {K : Frag} {G : Hp} {d : D} {y : Key} {v : V} (h : keyD d = some y) (r : Rep K G v d) : v = kV y := by
  cases d <;> cases h <;> cases r <;> rfl
theorem merge_new : ∀ (more acc : List (Key × V)), (more.map (·.1)).Nodup → (∀ p ∈ more, ∀ q ∈ acc, q.1 ≠ p.1) → mergeK acc more = acc ++ more
  | [], acc, _, _ => (List.append_nil acc).symm
  | p :: more, acc, h, hd => by
    rw [List.map_cons, List.nodup_cons] at h
    have e : putK acc p.1 p.2 = acc ++ [p] := by
      unfold putK
      rw [if_neg]
      intro z
      obtain ⟨q, hq, hz⟩ := List.any_eq_true.mp z
      exact hd p List.mem_cons_self q hq (of_decide_eq_true hz)
    show mergeK (putK acc p.1 p.2) more = _
    rw [e, merge_new more (acc ++ [p]) h.2 fun q hq r hr => ?_, List.append_assoc]
    · rfl
    · rcases List.mem_append.mp hr with hr | hr
      · exact hd q (List.mem_cons_of_mem _ hq) r hr
      · rw [List.mem_singleton] at hr
        subst hr
        intro z
        exact h.1 (List.mem_map.mpr ⟨q, hq, z.symm⟩)
theorem zip_reps {α : Type} {K : Frag} {G : Hp} : ∀ {ks : List α} {vs : List V} {ds : List D}, Reps K G vs ds → PReps K G (ks.zip vs) (ks.zip ds)
  | [], _, _, _ => ⟨rfl, .nil⟩
  | _ :: _, _, _, .nil => ⟨rfl, .nil⟩
  | k :: ks, _, _, .cons h t => by
    obtain ⟨a, b⟩ := zip_reps (ks := ks) t
    exact ⟨by rw [List.zip_cons_cons, List.zip_cons_cons, List.map_cons, List.map_cons, a], .cons h b⟩
theorem dlit_reads {N : List Str} {sc : Scope} {vs : A} {ks : List Key} {es : List (Option Expr)} {vals : List Expr} (ok : okD N sc vs ks es vals = true) (nd : ks.Nodup) (h15 : ks.length ≤ 15) : ∀ σ H Q, tE X.K cv W (.dlit ks vs) σ H Q → tDisp (trD X.K cv W ks vs) σ H Q := by
  intro σ H Q ⟨Z, G, M, ρ, k, x, r, w, hk, hx⟩ p hp
  have yg : Young Z p := young_of r.tr hp
  have gp := r.base.gnone hp
  have mp := r.base.mnone hp
  have r0 : Rel X.K Z G (upd H p (.dK [])) M σ ρ := r.at (Ex.refl _) (r.base.looseW gp mp) (r.tr.looseW yg mp)
  have r1 : Rel X.K ⟨G, upd H p (.dK []), M⟩ G (upd H p (.dK [])) M σ ρ := r0.at (Ex.refl _) r0.base .refl
  have back : ∀ {G' H' M'}, Rel X.K ⟨G, upd H p (.dK []), M⟩ G' H' M' σ ρ → Rel X.K Z G' H' M' σ ρ := fun r' => r'.at (Ex.refl _) r'.base (r0.tr.trans r'.tr)
  refine pairs_of vs ks ok r1 w (fun c M' xc G' H' r' => hx c M' xc G' H' (back r')) fun ds M2 q hl us G2 H2 r2 e2 p2 => ?_
  obtain ⟨hh, g2, m2⟩ := r2.tr.loose (o := .dK []) upd_same gp mp
  have hlen : (ks.zip us).length = ks.length := by rw [List.length_zip, p2.length, hl, Nat.min_self]
  refine ⟨hh, ks.zip us, zip_kV ks us, by rw [hlen]; exact h15, ?_⟩
  have e3 : mergeK [] (ks.zip us) = ks.zip us := by
    rw [merge_new _ _ (by rw [List.map_fst_zip (by rw [p2.length, hl]; exact Nat.le_refl _)]; exact nd) (fun _ _ _ z => by cases z)]
    rfl
  rw [e3]
  have r3 : Rel X.K Z G2 (upd H2 p (.dK (ks.zip us))) M2 σ ρ := (back r2).at (Ex.refl _) (r2.base.looseW g2 m2) ((back r2).tr.looseW yg m2)
  have b4 : Base X.K G2 (upd H2 p (.dK (ks.zip us))) (mset M2 p (.dct (ks.zip ds))) := by
    refine ⟨r3.base.ex, fun a c e => ?_⟩
    by_cases q : a = p
    · subst q
      rw [mset_same] at e
      cases e
      exact ⟨g2, _, upd_same, zip_reps p2⟩
    · rw [mset_ne q] at e
      exact r3.base.cell a c e
  exact hk _ _ (q p m2) _ G2 _ (r3.at (Ex.refl _) b4 (r3.tr.adoptM yg)) e2 (.ref p)
theorem se_dlit {N : List Str} {sc : Scope} {vs : A} {ks : List Key} {es : List (Option Expr)} {vals : List Expr} (nd : ks.Nodup) (h15 : ks.length ≤ 15) (h0 : 0 < ks.length ∨ (es = [] ∧ vals = [])) (ok : okD N sc vs ks es vals = true) (hv : PPs X pos es vals (trD X.K cv W ks vs)) : SE X cv W (.dlit ks vs) (.Dict es vals pos) := by
  obtain ⟨h1, h2, h3⟩ := okD_look vs ks es vals ok
  by_cases h : 0 < ks.length
  · exact .val ((pe_disp hv h1 h2 (fun z => by rw [z] at h3; rw [h3] at h; exact absurd h (by decide)) (by rw [← h3]; exact h15)).of (dlit_reads ok nd h15)) (fun _ => rfl) (fun _ _ _ => nofun)
  · have e : ks = [] := List.eq_nil_of_length_eq_zero (by omega)
    subst e
    obtain ⟨rfl, rfl⟩ := h0.resolve_left h
    have ev : vs = .nil := by
      cases vs with
      | nil => rfl
      | cons _ _ => simp [okD] at ok
    subst ev
    refine .val (pe_dnewK.of fun σ H Q ⟨Z, G, M, ρ, k, x, r, w, hk, hx⟩ p hp => ?_) (fun _ => rfl) (fun _ _ _ => nofun)
    obtain ⟨b, t⟩ := r.base.laidC (p := p) (o := .dK []) (c2 := .dct []) hp ⟨[], upd_same, .nil⟩
    exact hk _ _ (w p (r.base.mnone hp)) _ G _ (r.go b t) t.g (.ref p)
theorem se_dget (G : Good kk X) (hp : plainX eb = true) (ha : SE X cv W a ea) (hb : SE X cv W b eb) : SE X cv W (.dget a b) (.Subscript ea eb pos) := by
  have hu : X.A.units + 1 < cLine := Nat.lt_of_le_of_lt (Nat.add_le_add_left (by decide) _) G.room.units
  refine .val ((pe_dget hu ha.pe hb.pe (nosl_plain hp)).of fun σ H Q ⟨Z, G, M, ρ, k, x, r, w, hk, hx⟩ => two (Q := fun v1 v2 H2 => ∃ a v, v1 = .ref a ∧ DGet H2 a v2 (some v) ∧ Q v H2) r w hx fun d1 d2 M2 v1 v2 G2 H2 q r2 e2 p1 p2 => ?_) (fun _ => rfl) (fun _ _ _ => nofun)
  obtain ⟨p, kvs, rfl, hm, y, v, hy, hg, q⟩ := dctD_of q
  cases p1
  obtain ⟨_, vs, d1, d2⟩ := r2.base.cell p _ hm
  obtain ⟨u, h1, h2⟩ := d2.some hg
  refine ⟨p, u, rfl, ?_, hk _ M2 q u G2 H2 r2 e2 h2⟩
  rw [keyD_of hy p2, ← h1, ← getA_valV]
  exact DGet.k d1
theorem se_dhas {neg : Bool} (G : Good kk X) (hp : plainX eb = true) (ha : SE X cv W a ea) (hb : SE X cv W b eb) : SE X cv W (.dhas neg a b) (.Compare ea [if neg = true then CmpOp.NotIn else CmpOp.In] [eb] pos) := by
  have hu : X.A.units + 1 < cLine := Nat.lt_of_le_of_lt (Nat.add_le_add_left (by decide) _) G.room.units
  have key : ∃ t : TE, PC X (if neg = true then CmpOp.NotIn else CmpOp.In) ea eb t ∧ ∀ σ H Q, (tE X.K cv W a σ H fun y H1 => tE X.K cv W b σ H1 fun x H2 => ∃ a o, x = .ref a ∧ DGet H2 a y o ∧ Q (.bl (if neg = true then !o.isSome else o.isSome)) H2) → t σ H Q := by
    cases neg with
    | true => exact ⟨_, pc_dnotin hu ha.pe hb.pe, fun σ H Q h => h⟩
    | false => exact ⟨_, pc_din hu ha.pe hb.pe, fun σ H Q h => h⟩
  obtain ⟨t, hc, ht⟩ := key
  have h1 : behindInMarks (if neg = true then CmpOp.NotIn else CmpOp.In) eb = false := mark_plain hp
  have go : ∀ {σ : L2.St} {H : Hp} {Q : VK} {Z : Wd} {G : Hp} {M : Mp} {ρ : Env} {k : Bool → Mp → Prop} {x : XP}, Rel X.K Z G H M σ ρ →
      wpE a ρ M (fun d M1 => wpE b ρ M1 (fun d2 M2 => dctD M2 d2 fun kvs => ∃ y, keyD d = some y ∧ k (if neg = true then !(getA y kvs).isSome else (getA y kvs).isSome) M2) x) x → HX X.K Z cv W σ ρ x →
      (∀ b M', k b M' → ∀ G' H', Rel X.K Z G' H' M' σ ρ → Ex G G' → Q (.bl b) H') → t σ H Q := by
    intro σ H Q Z G M ρ k x r w hx hk
    refine ht σ H Q (two (Q := fun v1 v2 H2 => ∃ a o, v2 = .ref a ∧ DGet H2 a v1 o ∧ Q (.bl (if neg = true then !o.isSome else o.isSome)) H2) r w hx fun d1 d2 M2 v1 v2 G2 H2 q r2 e2 p1 p2 => ?_)
    obtain ⟨p, kvs, rfl, hm, y, hy, q⟩ := dctD_of q
    cases p2
    obtain ⟨_, vs, c1, c2⟩ := r2.base.cell p _ hm
    refine ⟨p, getA y vs, rfl, ?_, ?_⟩
    · rw [keyD_of hy p1, ← getA_valV]
      exact DGet.k c1
    · rw [c2.isSome]
      exact hk _ M2 q G2 H2 r2 e2
  refine ⟨(pe_cmp hc h1).of fun σ H Q ⟨Z, G, M, ρ, k, x, r, w, hk, hx⟩ => go (k := fun b M' => k (.bl b) M') r w hx fun b M' q G' H' r' e' => hk _ M' q _ G' H' r' e' (.bl b),
    (pt_cmp hc h1).of fun σ H Q ⟨Z, G, M, ρ, k, x, r, w, hk, hx⟩ => go (k := k) r w hx fun b M' q G' H' r' e' => ⟨b, rfl, hk b M' q G' H' r' e'⟩, fun _ _ _ => nofun⟩
/-! ### a range with a step -/
theorem walks_rangeS {K : Frag} {G0 : Hp} {i j c : Int} : Walks K G0 (Itc i c (rangeN i j c)) (rangeS i j c) (fun _ => True) := by
  have hl : (rangeS i j c).length = rangeN i j c := by
    unfold rangeS
    rw [List.length_map, List.length_range]
  refine ⟨fun Z n G H M σ ρ rr x g hi => by rw [hl] at hi; exact hi, fun Z n G H M σ ρ y H' d rr x g hd hy => ?_, fun Z G H M σ ρ rr x g => Nat.le_of_eq hl.symm⟩
  obtain ⟨rfl, rfl⟩ := hy
  have hn : n < rangeN i j c := by
    have := (List.getElem?_eq_some_iff.mp hd).1
    rw [hl] at this
    exact this
  unfold rangeS at hd
  rw [List.getElem?_map, List.getElem?_range hn] at hd
  cases hd
  exact ⟨G, rr.base, .refl, .int _⟩
theorem size_of (i j c : Int) (h0 : c ≠ 0) : Builtin.Range.rangeSize i j c = rangeN i j c := by
  have pos : ∀ (d s : Int), 0 < s → (if 0 < d then (d - 1) / s + 1 else 0) = (((d + s - 1) / s).toNat : Int) := fun d s hs => by
    have e : (d + s - 1) / s = (d - 1) / s + 1 := by
      rw [show d + s - 1 = (d - 1) + 1 * s by omega, Int.add_mul_ediv_right _ _ (by omega)]
    rw [e]
    by_cases h : 0 < d
    · have := Int.ediv_nonneg (show 0 ≤ d - 1 by omega) (show 0 ≤ s by omega)
      rw [if_pos h]
      omega
    · have : (d - 1) / s < 0 := Int.ediv_neg_of_neg_of_pos (by omega) hs
      rw [if_neg h]
      omega
  unfold Builtin.Range.rangeSize rangeN
  by_cases h : 0 < c
  · have z := pos (j - i) c h
    rw [if_pos (show c > 0 from h), if_pos h, ← z]
    by_cases q : i < j
    · rw [if_pos q, if_pos (by omega)]
    · rw [if_neg q, if_neg (by omega)]
  · have z := pos (i - j) (-c) (by omega)
    rw [if_neg (show ¬ c > 0 from h), if_neg h, show i - j - c - 1 = i - j + -c - 1 by omega, ← z]
    by_cases q : i > j
    · rw [if_pos q, if_pos (by omega)]
    · rw [if_neg q, if_neg (by omega)]
theorem rgc_of {i j c : Int} (h0 : c ≠ 0) (h1 : -1000 ≤ c) (h2 : c < 1000) (h3 : -1000000 ≤ i) (h4 : i < 1000000) (h5 : -1000000 ≤ j) (h6 : j < 1000000) : RgC i j c (rangeN i j c) := by
  refine ⟨h0, by omega, ?_, size_of i j c h0⟩
  have hs : 0 ≤ Builtin.Range.rangeSize i j c ∧ Builtin.Range.rangeSize i j c ≤ 4000000 := by
    have pos : ∀ (d s : Int), 0 < s → d ≤ 2000000 → 0 ≤ (if 0 < d then (d - 1) / s + 1 else 0) ∧ (if 0 < d then (d - 1) / s + 1 else 0) ≤ 4000000 := fun d s hs hd => by
      by_cases h : 0 < d
      · have e1 := Int.ediv_nonneg (show 0 ≤ d - 1 by omega) (show 0 ≤ s by omega)
        have e2 := Int.ediv_le_self s (show 0 ≤ d - 1 by omega)
        rw [if_pos h]
        omega
      · rw [if_neg h]
        omega
    unfold Builtin.Range.rangeSize
    by_cases h : c > 0
    · rw [if_pos h]
      have z := pos (j - i) c h (by omega)
      by_cases q : i < j
      · rw [if_pos q]
        rw [if_pos (by omega)] at z
        exact z
      · rw [if_neg q]
        omega
    · rw [if_neg h]
      have z := pos (i - j) (-c) (by omega) (by omega)
      by_cases q : i > j
      · rw [if_pos q]
        rw [if_pos (by omega)] at z
        exact z
      · rw [if_neg q]
        omega
  unfold Builtin.Range.small
  generalize Builtin.Range.rangeSize i j c = n at hs
  simp only [Builtin.Range.rangeFitsLong, Bool.and_eq_true, Bool.or_eq_true, decide_eq_true_eq, beq_iff_eq]
  refine ⟨⟨⟨⟨by omega, by omega⟩, by omega⟩, by omega⟩, .inr ?_⟩
  split <;> (simp only [Bool.and_eq_true, decide_eq_true_eq]; omega)
theorem pe_cst {c : Int} {e : Expr} (h : cstB c e = true) : PE X e (fun _ H Q => Q (.int c) H) ∧ plainX e = true := by
  unfold cstB at h
  split at h
  · have e := of_decide_eq_true h
    subst e
    exact ⟨pe_int, rfl⟩
  · have e := of_decide_eq_true h
    subst e
    exact ⟨(pe_un un_neg pe_int).of fun σ H Q q => ⟨_, rfl, q⟩, rfl⟩
  · cases h
theorem si_r3 {c : Int} {tg : Expr} {x : Str} {p : Pos} (G : Good kk X) (hx : x = "range") (hg : glB X.env.scope x = true) (hp : plainX ea = true) (hp2 : plainX eb = true) (hc : cstB c ec = true) (ha : SE X cv W a ea) (hb : SE X cv W b eb) : PI X tg (.Call (.Name x p) [ea, eb, ec] [] pos) (tIs X.K cv W (.r3 a b c)) := by
  subst hx
  obtain ⟨g1, g2, g3⟩ := gl_of hg
  obtain ⟨hc1, hc2⟩ := pe_cst (X := X) hc
  have hs : starEach [ea, eb, ec] X.env = (false, eval ea X.env) :: starEach [eb, ec] X.env := star_plain hp
  have hst : (backTo pos (starEach [eb, ec] X.env)).any (·.1) = false := stars_none (by rw [List.all_cons, hp2, List.all_cons, hc2]; rfl)
  refine (pi_range3 g1 (nb_of G (by decide)) (pa_of hp ha.pe (pa_of hp2 hb.pe (pa_of hc2 hc1 pa_nil))) hs hst).of fun σ H Q ⟨Z, G, M, ρ, k, x, r, w, hk, hx⟩ => two (Q := fun v1 v2 H2 => ∃ (i j c' : Int) (n : Nat), [v1, v2, .int c] = [.int i, .int j, .int c'] ∧ RgC i j c' n ∧ Q (Itc i c' n) H2) r w hx fun d1 d2 M2 v1 v2 G2 H2 q r2 e2 p1 p2 => ?_
  obtain ⟨i, f1, q1⟩ := asInt_of q
  obtain ⟨j, f2, ⟨h0, h1, h2, h3, h4, h5, h6⟩, q2⟩ := asInt_of q1
  clear q q1
  subst f1 f2
  exact ⟨i, j, c, _, by rw [p1.int_eq, p2.int_eq], rgc_of h0 h1 h2 h3 h4 h5 h6, hk _ _ M2 q2 _ G2 H2 r2 e2 walks_rangeS⟩
theorem tE_mono {K : Frag} {a : T.E} {σ : L2.St} {H : Hp} {Q Q' : VK} (h : tE K cv W a σ H Q) (f : ∀ v H', Q v H' → Q' v H') : tE K cv W a σ H Q' := by
  obtain ⟨Z, G, M, ρ, k, x, r, w, hk, hx⟩ := h
  exact ⟨Z, G, M, ρ, k, x, r, w, fun d M' q v G' H' r' e' p' => f _ _ (hk d M' q v G' H' r' e' p'), hx⟩
theorem reps_ints (K : Frag) (G : Hp) (f : Nat → Int) : ∀ l : List Nat, Reps K G (l.map fun n => V.int (f n)) (l.map fun n => D.int (f n))
  | [] => .nil
  | n :: l => .cons (.int _) (reps_ints K G f l)
theorem pe_listRg3 {a b c : Expr} {ta : TA} {p p2 q pos : Pos} (hc : X.calm = true) (hg1 : Gl X "list") (hm1 : X.mg "list" = none) (hg : Gl X "range") (hm : X.mg "range" = none) (ha : PA X [a, b, c] ta)
    (hs : starEach [a, b, c] X.env = (false, eval a X.env) :: starEach [b, c] X.env) (hpl : (backTo q (starEach [b, c] X.env)).any (·.1) = false) :
    PE X (.Call (.Name "list" p2) [.Call (.Name "range" p) [a, b, c] [] q] [] pos) (fun σ H Q => ta σ H fun vs H1 => ∃ (i j c : Int) (n : Nat), vs = [.int i, .int j, .int c] ∧ RgC i j c n ∧ n ≤ 2 ^ 24 ∧ ∀ l, H1 l = none → Q (.ref l) (upd H1 l (.lst ((List.range n).map fun k => V.int (i + (k : Nat) * c))))) := by
  have na : starEach [Expr.Call (.Name "range" p) [a, b, c] [] q] X.env = (false, eval (.Call (.Name "range" p) [a, b, c] [] q) X.env) :: starEach [] X.env := rfl
  refine ⟨fun pins s σ H Q I h => ?_⟩
  have rg : wpAny (model X.prog X.w) X.A (eval (.Call (.Name "range" p) [a, b, c] [] q) X.env) (fun x s' => ∃ r i j k n t u v H', x = .ref r ∧ IsRange s'.heap r i j k t u v ∧ Inv X pins σ H' s' ∧ RgC i j k n ∧ n ≤ 2 ^ 24 ∧ ∀ l, H' l = none → Q (.ref l) (upd H' l (.lst ((List.range n).map fun m => V.int (i + (m : Nat) * k))))) X.xe s := by
    refine Call_ (ld_blt I hg hm boot_range (PyProof.Rows.callWith_type1 (thn (ha.run q pins s σ H _ I h) fun us s1 ⟨vs, H1, I1, r1, q1⟩ => ?_) hs hpl))
    obtain ⟨i, j, k, n, e, ⟨c0, c1, c2, c3⟩, n24, q⟩ := q1
    subst e
    cases r1 with
    | cons r rr =>
      cases rr with
      | cons r' rr =>
        cases rr with
        | cons r'' rr =>
          cases rr
          obtain ⟨t, rfl⟩ := r
          obtain ⟨t', rfl⟩ := r'
          obtain ⟨t'', rfl⟩ := r''
          exact call_range_3 c0 ⟨_, i, j, k, n, _, _, _, H1, rfl, IsRange.new .., I1.kept (t' := s1.toks) fun b o e => Heap.get?_push_of_some _ e, ⟨c0, c1, c2, c3⟩, n24, q⟩ (.inl (PyProof.noPylong_small c1))
  refine Call_ (ld_blt I hg1 hm1 boot_list (PyProof.Rows.callWith_type1 (args_cons (thn rg fun x s1 ⟨r, i, j, k, n, t, u, v, H1, ex, hr, I1, ⟨c0, c1, c2, c3⟩, n24, q⟩ => args_nil ?_) na) na))
  subst ex
  refine call_list_range (n := n) (I1.ok.hd hc) hr c2 c3 n24 fun h' tk acc c' hk e' hi => ?_
  have el : acc.toList.length = n := by rw [Array.length_toList]; exact hi.1
  refine ⟨.ref s1.heap.objs.size, upd H1 s1.heap.objs.size (.lst ((List.range n).map fun m => V.int (i + (m : Nat) * k))), I1.laid hk (Nat.le_refl _) (show ObjOk X.prog X.w _ _ _ (.lst ((List.range n).map fun m => V.int (i + (m : Nat) * k))) from ⟨?_, acc.toList, c', ?_, ?_⟩), rfl, q _ (I1.hok.fresh (Nat.le_refl _))⟩
  · rw [List.length_map, List.length_range, sizeLine_eq]; omega
  · rw [← el]
    refine vals_of_get acc.toList _ fun m u hm => ?_
    obtain ⟨t, rfl⟩ := hi.2 m u (by rw [← hm, Array.getElem?_toList])
    exact ⟨t, rfl⟩
  · rw [Array.toArray_toList]; exact e'
theorem rangeN_le {i j c : Int} (h0 : c ≠ 0) (h1 : -1000 ≤ c) (h2 : c < 1000) (h3 : -1000000 ≤ i) (h4 : i < 1000000) (h5 : -1000000 ≤ j) (h6 : j < 1000000) : rangeN i j c ≤ 2 ^ 24 := by
  have pos : ∀ a b : Int, 0 < b → a ≤ 3000000 → a / b ≤ 3000000 := fun a b hb ha => by
    by_cases z : 0 ≤ a
    · have := Int.ediv_le_self b z
      omega
    · have := Int.ediv_neg_of_neg_of_pos (show a < 0 by omega) hb
      omega
  unfold rangeN
  split
  · have := pos (j - i + c - 1) c (by omega) (by omega)
    omega
  · have := pos (i - j - c - 1) (-c) (by omega) (by omega)
    omega
theorem se_lrg {c : Int} {x y : Str} {p p2 q : Pos} {es : List Expr} (G : Good kk X) (hy : y = "list") (hx : x = "range") (hgy : glB X.env.scope y = true) (hgx : glB X.env.scope x = true) (hp : plainX ea = true) (hp2 : plainX eb = true) (hs : stpB c es = true) (ha : SE X cv W a ea) (hb : SE X cv W b eb) : SE X cv W (.lrg a b c) (.Call (.Name y p2) [.Call (.Name x p) (ea :: eb :: es) [] q] [] pos) := by
  subst hx hy
  obtain ⟨g1, g2, g3⟩ := gl_of hgx
  obtain ⟨f1, f2, f3⟩ := gl_of hgy
  have key : ∃ t : TE, PE X (.Call (.Name "list" p2) [.Call (.Name "range" p) (ea :: eb :: es) [] q] [] pos) t ∧ ∀ σ H Q, (tE X.K cv W a σ H fun v1 H1 => tE X.K cv W b σ H1 fun v2 H2 => ∃ i j : Int, v1 = .int i ∧ v2 = .int j ∧ (c ≠ 0 ∧ -1000 ≤ c ∧ c < 1000 ∧ -1000000 ≤ i ∧ i < 1000000 ∧ -1000000 ≤ j ∧ j < 1000000) ∧ ∀ l, H2 l = none → Q (.ref l) (upd H2 l (.lst ((List.range (rangeN i j c)).map fun k => V.int (i + (k : Nat) * c))))) → t σ H Q := by
    unfold stpB at hs
    split at hs
    · have e := of_decide_eq_true hs
      subst e
      refine ⟨_, pe_listRg G.calm f1 (nb_of G (by decide)) (prg_2 g1 (nb_of G (by decide)) ha.pe hb.pe (star_plain hp) (star_plain hp2) (stars_none (by rw [List.all_cons, hp2]; rfl))), fun σ H Q h => ?_⟩
      refine tE_mono h fun v1 H1 h => tE_mono h fun v2 H2 ⟨i, j, e1, e2, ⟨_, _, _, b1, b2, b3, b4⟩, h⟩ => ⟨i, j, e1, e2, ⟨by omega, by omega, by omega, by omega, by omega⟩, fun l hl => ?_⟩
      have := h l hl
      have e3 : rangeN i j 1 = (j - i).toNat := by
        unfold rangeN
        rw [if_pos (by decide)]
        congr 1
        omega
      rw [e3] at this
      unfold rgV
      simpa using this
    · obtain ⟨hc1, hc2⟩ := pe_cst (X := X) hs
      refine ⟨_, pe_listRg3 G.calm f1 (nb_of G (by decide)) g1 (nb_of G (by decide)) (pa_of hp ha.pe (pa_of hp2 hb.pe (pa_of hc2 hc1 pa_nil))) (star_plain hp) (stars_none (by rw [List.all_cons, hp2, List.all_cons, hc2]; rfl)), fun σ H Q h => ?_⟩
      refine tE_mono h fun v1 H1 h => tE_mono h fun v2 H2 ⟨i, j, e1, e2, ⟨h0, h1, h2, h3, h4, h5, h6⟩, h⟩ => ⟨i, j, c, _, by rw [e1, e2], rgc_of h0 h1 h2 h3 h4 h5 h6, rangeN_le h0 h1 h2 h3 h4 h5 h6, h⟩
    · cases hs
  obtain ⟨t, hc, ht⟩ := key
  refine .val (hc.of fun σ H Q ⟨Z, G, M, ρ, k, x, r, w, hk, hx⟩ => ht σ H Q (two (Q := fun v1 v2 H2 => ∃ i j : Int, v1 = .int i ∧ v2 = .int j ∧ (c ≠ 0 ∧ -1000 ≤ c ∧ c < 1000 ∧ -1000000 ≤ i ∧ i < 1000000 ∧ -1000000 ≤ j ∧ j < 1000000) ∧ ∀ l, H2 l = none → Q (.ref l) (upd H2 l (.lst ((List.range (rangeN i j c)).map fun k => V.int (i + (k : Nat) * c))))) r w hx fun d1 d2 M2 v1 v2 G2 H2 q r2 e2 p1 p2 => ?_)) (fun _ => rfl) (fun _ _ _ => nofun)
  obtain ⟨i, f1, q1⟩ := asInt_of q
  obtain ⟨j, f2, q2, q3⟩ := asInt_of q1
  clear q q1
  subst f1 f2
  exact ⟨i, j, p1.int_eq, p2.int_eq, q2, fun l hl => newL_ok (m := false) q3 r2 e2 (reps_ints _ _ (fun n => i + (n : Nat) * c) _) hk hl⟩
theorem se_join {p q : Pos} (hn : noCall ea = true) (hl : (p.endLine == q.line) = true) (hp : plainX eb = true) (ha : SE X cv W a ea) (hb : SE X cv W b eb) : SE X cv W (.join a b) (.Call (.Attribute ea "join" p) [eb] [] q) :=
  .val ((pe_join ha.pe hb.pe (star_plain hp) (base_noCall hn) hl).of fun σ H Q ⟨Z, G, M, ρ, k, x, r, w, hk, hx⟩ => ⟨Z, G, M, ρ, _, x, r, w, fun d M1 q v1 G1 H1 r1 e1 p1 => by
    obtain ⟨s, rfl, w2⟩ := q
    cases p1
    refine ⟨⟨s, rfl⟩, Z, G1, M1, ρ, _, x, r1, w2, fun d2 M2 q v2 G2 H2 r2 e2 p2 => ?_, hx⟩
    obtain ⟨l, f, ys, hs, hb, q⟩ := asL_of q
    obtain ⟨a1, xs, rfl, h1, h2⟩ := r2.base.viewL p2 f
    have e := h2.strs hs
    subst e
    exact ⟨s, a1, ys, rfl, rfl, .inl h1, hb, hk _ M2 q _ G2 H2 r2 (e1.trans e2) (.str _)⟩, hx⟩) (fun _ => rfl) (fun _ _ _ => nofun)
theorem reps_strs (K : Frag) (G : Hp) : ∀ l : List Str, Reps K G (l.map V.str) (l.map D.str)
  | [] => .nil
  | n :: l => .cons (.str _) (reps_strs K G l)
theorem se_splt {m : Bool} {p q : Pos} (hn : noCall ea = true) (hl : (p.endLine == q.line) = true) (hp : plainX eb = true) (ha : SE X cv W a ea) (hb : SE X cv W b eb) : SE X cv W (.splt m a b) (.Call (.Attribute ea "split" p) [eb] [] q) :=
  .val ((pe_split ha.pe hb.pe (star_plain hp) (base_noCall hn) hl).of fun σ H Q ⟨Z, G, M, ρ, k, x, r, w, hk, hx⟩ => ⟨Z, G, M, ρ, _, x, r, w, fun d M1 q v1 G1 H1 r1 e1 p1 => by
    obtain ⟨s, rfl, w2⟩ := q
    cases p1
    refine ⟨⟨s, rfl⟩, Z, G1, M1, ρ, _, x, r1, w2, fun d2 M2 q v2 G2 H2 r2 e2 p2 => ?_, hx⟩
    obtain ⟨t, rfl, ⟨h1, h2⟩, q⟩ := q
    cases p2
    exact ⟨s, t, rfl, rfl, h1, h2, fun l hl => newL_ok q r2 (e1.trans e2) (reps_strs _ _ _) hk hl⟩, hx⟩) (fun _ => rfl) (fun _ _ _ => nofun)
theorem se_upp {p q : Pos} (hn : noCall ea = true) (hl : (p.endLine == q.line) = true) (ha : SE X cv W a ea) : SE X cv W (.upp a) (.Call (.Attribute ea "upper" p) [] [] q) :=
  .val ((pe_upper ha.pe (base_noCall hn) hl).of fun σ H Q ⟨Z, G, M, ρ, k, x, r, w, hk, hx⟩ => ⟨Z, G, M, ρ, _, x, r, w, fun d M1 q v1 G1 H1 r1 e1 p1 => by
    obtain ⟨s, rfl, h1, q⟩ := q
    cases p1
    exact ⟨⟨s, rfl⟩, s, rfl, rfl, h1, hk _ M1 q _ G1 H1 r1 e1 (.str _)⟩, hx⟩) (fun _ => rfl) (fun _ _ _ => nofun)
theorem Key.rep (K : Frag) (G : Hp) (y : Key) : Rep K G (kV y) (keyV y) := by
  cases y with
  | inl i => exact .int i
  | inr i => exact .str i
theorem keys_reps {K : Frag} {G : Hp} {vs : List (Key × V)} {ds : List (Key × D)} (h : PReps K G vs ds) : Reps K G (vs.map fun kv => kV kv.1) (ds.map fun kv => keyV kv.1) :=
  PReps.ind (P := fun vs ds => Reps K G (vs.map fun kv => kV kv.1) (ds.map fun kv => keyV kv.1)) .nil (fun f v d vs ds _ _ ih => by rw [List.map_cons, List.map_cons]; exact .cons (Key.rep K G f) ih) vs ds h
theorem se_dkeys {m : Bool} {x : Str} {p : Pos} (G : Good kk X) (hx : x = "list") (hg : glB X.env.scope x = true) (hp : plainX ea = true) (ha : SE X cv W a ea) : SE X cv W (.dkeys m a) (.Call (.Name x p) [ea] [] pos) := by
  subst hx
  obtain ⟨g1, g2, g3⟩ := gl_of hg
  refine .val ((pe_callTy (T := "list") (call_list_dK G.calm) g1 (nb_of G (by decide)) (by decide +kernel) (pa_of hp ha.pe pa_nil) g3 g2 (star_plain hp)).of fun σ H Q ⟨Z, G, M, ρ, k, x, r, w, hk, hx⟩ => ⟨Z, G, M, ρ, _, x, r, w, fun d M1 q v G1 H1 r1 e1 p1 => ?_, hx⟩) (fun _ => rfl) (fun _ _ _ => nofun)
  obtain ⟨q0, kvs, rfl, hm, q⟩ := dctD_of q
  cases p1
  obtain ⟨_, vs, d1, d2⟩ := r1.base.cell q0 _ hm
  exact ⟨q0, vs, rfl, d1, fun l hl => newL_ok q r1 e1 (keys_reps d2) hk hl⟩
theorem se_dl1 (ha : SE X cv W a ea) (hb : SE X cv W b eb) : SE X cv W (.dl1 a b) (.Dict [some ea] [eb] pos) := by
  refine .val ((pe_disp (pps_cons ha.pe hb.pe pps_nil) rfl rfl nofun (by simp)).of fun σ H Q ⟨Z, G, M, ρ, k, x, r, w, hk, hx⟩ p hp => ?_) (fun _ => rfl) (fun _ _ _ => nofun)
  have yg : Young Z p := young_of r.tr hp
  have gp := r.base.gnone hp
  have mp := r.base.mnone hp
  have r0 : Rel X.K Z G (upd H p (.dK [])) M σ ρ := r.at (Ex.refl _) (r.base.looseW gp mp) (r.tr.looseW yg mp)
  have r1 : Rel X.K ⟨G, upd H p (.dK []), M⟩ G (upd H p (.dK [])) M σ ρ := r0.at (Ex.refl _) r0.base .refl
  have back : ∀ {G' H' M'}, Rel X.K ⟨G, upd H p (.dK []), M⟩ G' H' M' σ ρ → Rel X.K Z G' H' M' σ ρ := fun r' => r'.at (Ex.refl _) r'.base (r0.tr.trans r'.tr)
  refine two (Q := fun v1 v2 H2 => H2 p = some (.dK []) ∧ ∃ kvs : List (Key × V), [(v1, v2)] = kvs.map (fun kv => (kV kv.1, kv.2)) ∧ kvs.length ≤ 15 ∧ Q (.ref p) (upd H2 p (.dK (mergeK [] kvs)))) r1 w (fun c M' xc G' H' r' => hx c M' xc G' H' (back r')) fun d1 d2 M2 v1 v2 G2 H2 q r2 e2 p1 p2 => ?_
  obtain ⟨y, hy, q⟩ := q
  have ev := keyD_of hy p1
  subst ev
  obtain ⟨hh, g2, m2⟩ := r2.tr.loose (o := .dK []) upd_same gp mp
  refine ⟨hh, [(y, v2)], rfl, by simp, ?_⟩
  have r3 : Rel X.K Z G2 (upd H2 p (.dK [(y, v2)])) M2 σ ρ := (back r2).at (Ex.refl _) (r2.base.looseW g2 m2) ((back r2).tr.looseW yg m2)
  have b4 : Base X.K G2 (upd H2 p (.dK [(y, v2)])) (mset M2 p (.dct [(y, d2)])) := by
    refine ⟨r3.base.ex, fun a c e => ?_⟩
    by_cases q : a = p
    · subst q
      rw [mset_same] at e
      cases e
      exact ⟨g2, _, upd_same, .cons p2 .nil⟩
    · rw [mset_ne q] at e
      exact r3.base.cell a c e
  exact hk _ _ (q p m2) _ G2 _ (r3.at (Ex.refl _) b4 (r3.tr.adoptM yg)) e2 (.ref p)
theorem m2_of {o e f : Expr} {m : Str} {p q : Pos} (hn : noCall o = true) (hl : (p.endLine == q.line) = true) (h1 : plainX e = true) (h2 : plainX f = true) : M2 X o m p e f q := by
  have hs : starEach [e, f] X.env = [(false, eval e X.env), (false, eval f X.env)] := by
    rw [star_plain h1, star_plain h2]
    rfl
  refine ⟨base_noCall hn, ?_, hl, ?_⟩
  · have := few_of (es := [e, f]) (env := X.env) (pos := q) (by rw [List.all_cons, h1, List.all_cons, h2]; rfl) (by simp)
    unfold methodCallForm at this
    exact this
  · rw [hs]
    rfl
theorem se_dgetd {p q : Pos} (G : Good kk X) (hn : noCall ea = true) (hl : (p.endLine == q.line) = true) (h1 : plainX eb = true) (h2 : plainX ec = true) (ha : SE X cv W a ea) (hb : SE X cv W b eb) (hc : SE X cv W c ec) : SE X cv W (.dgetd a b c) (.Call (.Attribute ea "get" p) [eb, ec] [] q) := by
  have hu : X.A.units + 1 < cLine := Nat.lt_of_le_of_lt (Nat.add_le_add_left (by decide) _) G.room.units
  refine .val ((pe_dget2 hu ha.pe hb.pe hc.pe (m2_of hn hl h1 h2)).of fun σ H Q ⟨Z, G, M, ρ, k, x, r, w, hk, hx⟩ => ⟨Z, G, M, ρ, _, x, r, w, fun d M1 q v1 G1 H1 r1 e1 p1 => ?_, hx⟩) (fun _ => rfl) (fun _ _ _ => nofun)
  obtain ⟨q1, q⟩ := q
  obtain ⟨p0, kvs0, rfl, hm0, _⟩ := dctD_of q1
  cases p1
  obtain ⟨_, vs0, c1, c2⟩ := r1.base.cell p0 _ hm0
  refine ⟨p0, rfl, .inl ⟨vs0, .inl c1⟩, two (Q := fun v2 v3 H3 => ∃ o, DGet H3 p0 v2 o ∧ Q (o.getD v3) H3) r1 q hx fun d2 d3 M3 v2 v3 G3 H3 q r3 e3 p2 p3 => ?_⟩
  obtain ⟨p, kvs, ep, hm, y, hy, q⟩ := dctD_of q
  cases ep
  obtain ⟨_, vs, d1, d4⟩ := r3.base.cell p0 _ hm
  refine ⟨getA y vs, ?_, ?_⟩
  · rw [keyD_of hy p2, ← getA_valV]
    exact DGet.k d1
  · cases e : getA y kvs with
    | none =>
      rw [e] at q
      rw [d4.none e]
      exact hk _ M3 q _ G3 H3 r3 (e1.trans e3) p3
    | some d =>
      rw [e] at q
      obtain ⟨u, h1, h2⟩ := d4.some e
      rw [h1]
      exact hk _ M3 q _ G3 H3 r3 (e1.trans e3) h2
end
end T

/-! T: tuples that are cut, whole ones too, and repeated, once too; dicts by tuples of truths; dict(..) of pairs; sorted(..) of a dict. -/
namespace T
open PySem L2 PyProof.Rows
/-! ### a tuple that is cut -/
section
open HT
variable {prog : Program} {w : World} {A : Around} {E : Value → Shared → Prop} {s : Shared}
theorem getItem_tuple_whole {t sl : Addr} {items : Array Value} {vl vu : Value} {lo hi : Option Int} {Q : Value → Shared → Prop} (ht : IsTup s.heap t items) (hs : s.heap.IsSliceOf sl vl vu .none) (pl : IsPart vl lo) (pu : IsPart vu hi)
    (hw : sIx items.size 0 lo = 0 ∧ sIx items.size items.size hi = items.size) (h : Q (.ref t) s) : wpAny (model prog w) A (getItem (.ref t) (.ref sl)) Q E s := by
  obtain ⟨os, hos, hcs, hds⟩ := id hs
  have hTs : s.TypeIs (.ref sl) "slice" := ⟨os, hos, hcs⟩
  unfold getItem
  try with_reducible refine wpAny_holding ?_
  first | refine wpAny_bind (wpAny_pure ?_) | skip
  refine wpAny_bind (wpAny_sequenceKey ht.typeIs (by decide) ?_)
  refine wpAny_bind (wpAny_callSpecial?_slot (name := Str.ofString "__getitem__") ht.typeIs PyProof.Rows.slot_tuple_getitem
    (wpAny_call_entry PyProof.Rows.slot_tuple_getitem ht.typeIs entry_tuple_getitem ?_ (args_tuple_getitem _ _)))
  show wpAny _ _ (Builtin.Tuple.tupleItemsOf (.ref t) >>= _) _ _ s
  refine wpAny_bind (tupleItemsOf_ ht ?_)
  refine wpAny_bind (wpAny_typeOf hTs ?_)
  rw [if_pos (by decide)]
  refine wpAny_bind (sliceApplied_gen hs pl pu ?_)
  have hyes : (((sIx items.size 0 lo : Nat) : Int) == 0 && (1 : Int) == 1 && (sIx items.size items.size hi - sIx items.size 0 lo) == items.size) = true := by
    rw [hw.1, hw.2]
    simp
  show wpAny _ _ (if (((sIx items.size 0 lo : Nat) : Int) == 0 && (1 : Int) == 1 && (sIx items.size items.size hi - sIx items.size 0 lo) == items.size) = true then _ else _) _ _ s
  rw [if_pos hyes]
  refine wpAny_bind (m := Builtin.Tuple.tupleIsExact _) (wpAny_bind (wpAny_typeOf ht.typeIs (wpAny_pure ?_)))
  rw [if_pos (by decide)]
  first
    | exact wpAny_bind (wpAny_rule (wpAny_bind (wpAny_pure ⟨_, rfl, wpAny_pure h⟩)))
    | exact wpAny_bind (wpAny_rule (wpAny_bind (wpAny_pure (wpAny_pure ⟨_, rfl, wpAny_pure h⟩))))
    | exact wpAny_bind (wpAny_rule (wpAny_pure ⟨_, rfl, wpAny_pure h⟩))
    | exact wpAny_rule (wpAny_pure ⟨_, rfl, wpAny_pure h⟩)
end
section
variable {X : Cx}
def rSlA (K : Frag) : V → Option Int → Option Int → Hp → VK → Prop := fun x lo hi H Q => ∃ a xs, x = .ref a ∧ SqT K H a xs ∧
  ((HT.sIx xs.length 0 lo = 0 ∧ HT.sIx xs.length xs.length hi = xs.length) → Q (.ref a) H) ∧ ∀ p, H p = none → Q (.ref p) (upd H p (.tup (cutV xs lo hi)))
theorem sl_tupA : SlR X (rSlA X.K) := by
  intro pins s σ H x v vl vu lo hi sl Q I rx hs pl pu h
  obtain ⟨a, xs, rfl, hx, q1, q2⟩ := h
  by_cases c : HT.sIx xs.length 0 lo = 0 ∧ HT.sIx xs.length xs.length hi = xs.length
  · cases rx
    obtain ⟨its, r, ht, hz⟩ := I.tuple hx
    have hlen : its.toArray.size = xs.length := by rw [List.size_toArray]; exact r.length.symm
    refine ⟨"tuple", _, PyProof.Rows.slot_tuple_getitem.lookup, ht.typeIs, ?_⟩
    exact getItem_tuple_whole ht hs pl pu (by rw [hlen]; exact c) ⟨.ref a, H, I, rfl, q1 c⟩
  · exact sl_tup pins s σ H _ v vl vu lo hi sl Q I rx hs pl pu ⟨a, xs, rfl, hx, c, q2⟩
/-! ### a tuple once -/
theorem tuple_mul1 (l : Addr) (items : Array Value) (n : Nat) (dd : Option Addr) (sl : Array (Option Value)) (u : Tok) :
    Meets (Builtin.«tuple.__mul__» ⟨[.ref l, .int 1 u], []⟩) (fun _ R s => s.heap.get? l = some { cls := .type "tuple", dict := dd, data := .seq items n, slots := sl } ∧ R (.ok (.ret (Value.ref l))) s) :=
  .of_wp fun prog w A R s h => by
    obtain ⟨hp, g, d, tk, os⟩ := s
    obtain ⟨hl, h⟩ := h
    have f1 := AutoSeq1.idx_int
    have c0 : (decide ((1 : Int) < -(2 ^ 63)) || decide ((1 : Int) ≥ 2 ^ 63)) = false := by decide
    have c1 : (items.isEmpty || (1 : Int) == 1) = true := by rw [Bool.or_eq_true]; exact .inr rfl
    wp_walk using wpAny_loadPart' hl
    repeat (first
      | (refine wpAny_ite_false (decide_eq_false (by rw [c0]; exact Bool.false_ne_true)) ?_; wp_walk using wpAny_loadPart' hl)
      | (refine wpAny_ite_true (decide_eq_true c1) ?_; wp_walk using wpAny_loadPart' hl)
      | (rw [if_pos c1]; wp_walk using wpAny_loadPart' hl))
    exact ⟨_, rfl, h⟩
def rRepA (K : Frag) : R2 := fun x y H Q => ∃ l k xs, x = .ref l ∧ y = .int k ∧ SqT K H l xs ∧ xs ≠ [] ∧ 1 ≤ k ∧ k ≤ 1000 ∧ xs.length ≤ 1000 ∧ (k = 1 → Q (.ref l) H) ∧ ∀ p, H p = none → Q (.ref p) (upd H p (.tup (List.replicate k.toNat xs).flatten))
theorem op_repA : OpR X (binaryOp .Mult) (rRepA X.K) := by
  intro pins s σ H x y v u Q I rx ry h
  obtain ⟨l, k, xs, rfl, rfl, hT, hne, h1, h2, hz, q1, q2⟩ := h
  by_cases c : k = 1
  · subst c
    cases rx
    obtain ⟨t, rfl⟩ := ry
    obtain ⟨its, r, ⟨⟨cls, dd, data, sl⟩, ho, hc, n, hd⟩, hs⟩ := I.tuple hT
    simp only at hc hd
    subst hc hd
    exact wpAny_binaryOp_repeat_ref (T := "tuple") (U := "int") (by decide) ⟨_, ho, rfl⟩ (fun s' => typeIs_int s' 1 t) noFill_tuple_mul F.fills_int_mul F.slot_int_rmul repeat_tuple F.slot_int_index.lookup
      (call_meets F.slot_int_rmul (typeIs_int s 1 t) F.entry_int_rmul (F.args_int_rmul_2 _ _) (int_rmul_tuple 1 t l its.toArray n dd sl)
        ⟨ho, rfl, ⟨_, ho, rfl⟩, call_meets F.slot_tuple_mul ⟨_, ho, rfl⟩ F.entry_tuple_mul (F.args_tuple_mul_2 _ _) (tuple_mul1 l its.toArray n dd sl t) ⟨ho, ⟨.ref l, H, I, rfl, q1 rfl⟩⟩⟩)
  · exact op_repT pins s σ H _ _ v u Q I rx ry ⟨l, k, xs, rfl, rfl, hT, hne, by omega, h2, hz, q2⟩
end
/-! ### dicts by tuples of truths -/
def lf (b : Bool) : Leaf := .num (if b = true then 1 else 0)
theorem lf_inj {a b : Bool} (h : lf a = lf b) : a = b := by
  cases a <;> cases b <;> first
    | rfl
    | (unfold lf at h; injection h with h; exact absurd h (by decide))
theorem lfs_inj : ∀ {a b : List Bool}, a.map lf = b.map lf → a = b
  | [], [], _ => rfl
  | [], _ :: _, h => by simp at h
  | _ :: _, [], h => by simp at h
  | x :: a, y :: b, h => by
    rw [List.map_cons, List.map_cons] at h
    injection h with h1 h2
    rw [lf_inj h1, lfs_inj h2]
def xsOf (xs : BX) : List (List Leaf × Addr × Value) := xs.map fun x => (x.1.map lf, x.2, .bool true)
theorem bdE_eq {prog : Program} {w : World} (x : List Bool × Addr) : bdE x = entryOfKey (tupleKind (leafKind prog w)) (x.1.map lf, x.2, .bool true) := by
  show bdE x = ⟨reduceHash (Builtin.Tuple.tupleHashOf ((x.1.map lf).map fun k => k.key.hash w)), .ref x.2, .bool true⟩
  rw [List.map_map]
  unfold bdE
  congr 3
theorem bdEs_eq {prog : Program} {w : World} (xs : BX) : xs.map bdE = (xsOf xs).map (entryOfKey (tupleKind (leafKind prog w))) := by
  unfold xsOf
  rw [List.map_map]
  exact List.map_congr_left fun x _ => bdE_eq x
theorem xsOf_keys (xs : BX) : (xsOf xs).map (·.1) = (xs.map (·.1)).map (·.map lf) := by
  unfold xsOf
  rw [List.map_map, List.map_map]
  rfl
theorem nodup_lf : ∀ {l : List (List Bool)}, (l.map (·.map lf)).Nodup ↔ l.Nodup
  | [] => by simp
  | a :: l => by
    rw [List.map_cons, List.nodup_cons, List.nodup_cons, nodup_lf]
    refine and_congr_left fun _ => not_congr ?_
    rw [List.mem_map]
    constructor
    · rintro ⟨b, h1, h2⟩
      rw [← lfs_inj h2]
      exact h1
    · exact fun h => ⟨a, h, rfl⟩
theorem atKey_xs (bs : List Bool) : ∀ xs : BX, (atKey (xsOf xs) (bs.map lf)).isSome = decide (bs ∈ xs.map (·.1))
  | [] => by simp [xsOf, atKey]
  | x :: xs => by
    have ih := atKey_xs bs xs
    unfold atKey at ih ⊢
    show (Option.map _ (List.find? _ ((x.1.map lf, x.2, Value.bool true) :: xsOf xs))).isSome = _
    rw [List.find?_cons]
    by_cases c : x.1 = bs
    · subst c
      simp
    · have c2 : ¬ x.1.map lf = bs.map lf := fun z => c (lfs_inj z)
      have c3 : ¬ bs = x.1 := fun z => c z.symm
      simp only [c2, decide_false]
      rw [ih]
      simp [c3]
section
variable {P : Program} {w : World} {H : Hp} {h : Heap} {a : Addr} {xs : BX}
theorem bd_ok (h1 : (a == sysModules) = false) (h2 : xs.length ≤ sizeLine) (dd : h.DictOfH (tupleKind (leafKind P w)) a (xsOf xs)) : ObjOk P w H h a (BdT a xs) := by
  obtain ⟨o, es, ep, e1, e2, e3, e4, _, e6⟩ := dd
  have n : (xs.map (·.1)).Nodup := by
    rw [xsOf_keys] at e6
    exact nodup_lf.mp e6
  exact ⟨⟨h1, h2, o, es, ep, e1, e2, e3, by rw [e4, bdEs_eq (prog := P) (w := w)], n⟩, ⟨o, e1⟩, fun g1 g2 ⟨x1, x2, o', es', ep', y1, y2, y3, y4, y5⟩ k => ⟨x1, x2, o', es', ep', k _ y1, y2, y3, y4, y5⟩⟩
end
section
variable {X : Cx} {pins : List (Addr × Obj)} {σ : L2.St} {H : Hp} {s : Shared} {a b : Addr} {xs : BX} {bs : List Bool}
theorem bls_are {P : Program} {w : World} : ∀ {bs : List Bool} {us : List Value}, Vals (bs.map V.bl) us → ItemsAre (leafKind P w) (bs.map lf) us
  | [], _, r => by rw [List.map_nil] at r; cases r; exact .nil
  | k :: ks, _, r => by
    rw [List.map_cons] at r
    cases r with
    | cons h t =>
      refine .cons ?_ (bls_are t)
      cases (show _ = Value.bool k from h)
      show Leaf.isOf (.num (if k = true then 1 else 0)) (.bool k) = true
      exact decide_eq_true rfl
theorem bkey_of (I : Inv X pins σ H s) (h : SqT X.K H b (bs.map V.bl)) : (tupleKind (leafKind X.prog X.w)).is s.heap (bs.map lf) b := by
  obtain ⟨its, r, ⟨o, h1, h2, n, h3⟩, _⟩ := I.tuple h
  exact ⟨o, its.toArray, n, h1, h2, h3, by simpa using bls_are r⟩
/-- its keys stand -/
def BKeys (K : Frag) (H : Hp) (xs : BX) : Prop := ∀ x ∈ xs, SqT K H x.2 (x.1.map V.bl)
theorem bd_of (I : Inv X pins σ H s) (e : H a = some (BdT a xs)) (k : BKeys X.K H xs) : (a == sysModules) = false ∧ xs.length ≤ sizeLine ∧ s.heap.DictOfH (tupleKind (leafKind X.prog X.w)) a (xsOf xs) := by
  obtain ⟨⟨h1, h2, o, es, ep, e1, e2, e3, e4, e5⟩, _⟩ := (show ObjOk X.prog X.w H s.heap a (BdT a xs) from I.hok a _ e)
  refine ⟨h1, h2, o, es, ep, e1, e2, e3, by rw [e4, bdEs_eq (prog := X.prog) (w := X.w)], fun x hx => ?_, ?_⟩
  · unfold xsOf at hx
    obtain ⟨y, hy, rfl⟩ := List.mem_map.mp hx
    exact bkey_of I (k y hy)
  · rw [xsOf_keys]
    exact nodup_lf.mpr e5
theorem bd_notIn {A : Around} {E : Value → Shared → Prop} {Q : Value → Shared → Prop} (hu : A.units + 1 < cLine) (I : Inv X pins σ H s) (e : H a = some (BdT a xs)) (k : BKeys X.K H xs) (hb : SqT X.K H b (bs.map V.bl))
    (h : ∀ s', Inv X pins σ H s' → Q (.bool (!decide (bs ∈ xs.map (·.1)))) s') : wpAny (model X.prog X.w) A (compareOp .NotIn (.ref b) (.ref a)) Q E s := by
  obtain ⟨hd, hz, dd⟩ := bd_of I e k
  refine wpAny_notIn_heap (tupleKind_room_in1 hu) (bkey_of I hb) hd dd ?_
  rw [atKey_xs]
  exact h _ (I.tok _)
theorem bd_set {A : Around} {E : Value → Shared → Prop} {Q : Unit → Shared → Prop} (hu : A.units + 1 < cLine) (I : Inv X pins σ H s) (e : H a = some (BdT a xs)) (k : BKeys X.K H xs) (hb : SqT X.K H b (bs.map V.bl)) (hn : bs ∉ xs.map (·.1)) (hl : xs.length < sizeLine)
    (h : ∀ s', Inv X pins σ (upd H a (BdT a (xs ++ [(bs, b)]))) s' → Q () s') : wpAny (model X.prog X.w) A (setItem (.ref a) (.ref b) (.bool true)) Q E s := by
  obtain ⟨hd, hz, dd⟩ := bd_of I e k
  refine wpAny_setItem_heap (hsz := by unfold xsOf; rw [List.length_map]; exact hz) (tupleKind_room_in1 hu) (bkey_of I hb) dd fun h' dd' hs => h _ ?_
  have en : atKey (xsOf xs) (bs.map lf) = none := by
    have := atKey_xs bs xs
    rw [decide_eq_false hn] at this
    cases q : atKey (xsOf xs) (bs.map lf) with
    | none => rfl
    | some _ => rw [q] at this; cases this
  rw [storedH_new en] at dd'
  have ex : xsOf xs ++ [(bs.map lf, b, Value.bool true)] = xsOf (xs ++ [(bs, b)]) := by
    unfold xsOf
    rw [List.map_append]
    rfl
  rw [ex] at dd'
  have he : ∃ q, h'.get? a = some q := let ⟨q, _, _, hq, _⟩ := dd'; ⟨q, hq⟩
  exact d_write I (by rw [e]; exact True.intro) hs he (bd_ok hd (by rw [List.length_append]; exact hl) dd')
def tBNot (K : Frag) (ty td : TE) : TE := fun σ H Q => ty σ H fun y H1 => td σ H1 fun x H2 => ∃ a xs b bs, x = .ref a ∧ y = .ref b ∧ H2 a = some (BdT a xs) ∧ BKeys K H2 xs ∧ SqT K H2 b (bs.map V.bl) ∧ Q (.bl (!decide (bs ∈ xs.map (·.1)))) H2
theorem pc_bnot {i o : Expr} {ty td : TE} (hu : X.A.units + 1 < cLine) (hi : PE X i ty) (ho : PE X o td) : PC X .NotIn i o (tBNot X.K ty td) := by
  refine ⟨fun pins s σ H Q I h => ?_⟩
  refine thn (hi.run pins s σ H _ I h) fun iv s1 ⟨y, H1, I1, ry, q1⟩ => thn (ho.run pins s1 σ H1 _ I1 q1) fun u s2 ⟨x, H2, I2, rx, a, xs, b, bs, ex, ey, e, k, hb, q2⟩ => ?_
  subst ex ey
  obtain rfl : u = Value.ref a := rx
  obtain rfl : iv = Value.ref b := ry
  exact bd_notIn hu I2 e k hb fun s3 I3 => ⟨.bl _, H2, I3, rfl, q2⟩
def sBPut (K : Frag) (td ty tv : TE) : TS := fun D σ H => tv σ H fun v H1 => td σ H1 fun x H2 => ty σ H2 fun y H3 => ∃ a xs b bs, v = .bl true ∧ x = .ref a ∧ y = .ref b ∧ H3 a = some (BdT a xs) ∧ BKeys K H3 xs ∧ SqT K H3 b (bs.map V.bl) ∧ bs ∉ xs.map (·.1) ∧ xs.length < sizeLine ∧ D.nx σ (upd H3 a (BdT a (xs ++ [(bs, b)])))
theorem ps_bput {o i value : Expr} {pos pos' : Pos} {td ty tv : TE} (hu : X.A.units + 1 < cLine) (ho : PE X o td) (hi : PE X i ty) (hv : PE X value tv) (hs : swapsWith value (some (.Subscript o i pos')) pos.line X.env = pure false) :
    PS X (.Assign [.Subscript o i pos'] value pos) (sBPut X.K td ty tv) := by
  refine ⟨fun pins s σ H D I h => ?_⟩
  refine wpAny_Assign_Subscript (thn (hv.run pins s σ H _ I h) fun r s1 ⟨v, H1, I1, rv, q1⟩ => thn (ho.run pins s1 σ H1 _ I1 q1) fun u s2 ⟨x, H2, I2, rx, q2⟩ => thn (hi.run pins s2 σ H2 _ I2 q2) fun iv s3 ⟨y, H3, I3, ry, a, xs, b, bs, ev, ex, ey, e, k, hb, hn, hl, q3⟩ => ?_) hs
  subst ev ex ey
  obtain rfl : u = Value.ref a := rx
  obtain rfl : iv = Value.ref b := ry
  obtain rfl : r = Value.bool true := rv
  exact bd_set hu I3 e k hb hn hl fun s4 I4 => ⟨σ, _, I4, q3⟩
def tBl1 (K : Frag) (ta tb : TE) : TE := fun σ H Q => ∀ p, H p = none → tPairs [(ta, tb)] σ (upd H p (BdT p [])) fun ps H2 => ∃ b bs, ps = [(V.ref b, V.bl true)] ∧ H2 p = some (BdT p []) ∧ SqT K H2 b (bs.map V.bl) ∧ Q (.ref p) (upd H2 p (BdT p [(bs, b)]))
theorem pe_bl1 {pos : Pos} {k v : Expr} {tk tv : TE} (hu : X.A.units < cLine) (hk : PE X k tk) (hv : PE X v tv) : PE X (.Dict [some k] [v] pos) (tBl1 X.K tk tv) := by
  refine ⟨fun pins s σ H Q I q => ?_⟩
  have hn := I.hok.fresh (Nat.le_refl s.heap.objs.size)
  have hm : (s.heap.objs.size == sysModules) = false := beq_eq_false_iff_ne.mpr (Nat.ne_of_gt I.big)
  have I1 := I.laid (a := s.heap.objs.size) (o := BdT s.heap.objs.size []) (h' := s.heap.push { cls := .type "dict", data := .dict #[] }) (t' := s.toks) (fun _ _ q => Heap.get?_push_of_some _ q) (Nat.le_refl _)
    (bd_ok hm (Nat.zero_le _) (Heap.DictOfH.new (knd := tupleKind (leafKind X.prog X.w)) s.heap))
  refine wpAny_Dict_any rfl rfl nofun (by simp) (thn ((pps_cons hk hv pps_nil).run pins _ σ _ _ I1 (q _ hn)) fun ws s2 ⟨ps, H2, I2, rel, b, bs, ep, e, hb, q2⟩ => ?_)
  subst ep
  cases rel with
  | @cons p q0 ps qs r1 r2 =>
    cases r2
    obtain ⟨u1, u2⟩ := q0
    obtain ⟨r1, r3⟩ := r1
    obtain rfl : u1 = Value.ref b := r1
    obtain rfl : u2 = Value.bool true := r3
    obtain ⟨hd, hz, dd⟩ := bd_of (xs := []) I2 e (fun x hx => nomatch hx)
    unfold storeAll
    refine wpAny_storeAllH (knd := tupleKind (leafKind X.prog X.w)) hu _ [(bs.map lf, b, .bool true)] [] s2 _ ⟨rfl, rfl, bkey_of I2 hb, trivial⟩ dd (by rw [sizeLine_eq]; simp) fun h' tk' dd' hs => ⟨.ref s.heap.objs.size, _, ?_, rfl, q2⟩
    have he : ∃ q, h'.get? s.heap.objs.size = some q := let ⟨q, _, _, hq, _⟩ := dd'; ⟨q, hq⟩
    exact d_write I2 (by rw [e]; exact True.intro) hs he (bd_ok hd (by rw [sizeLine_eq]; simp) dd')
end
section
variable {X : Cx}
/-- sorted(d) of a dict of whole numbers, any number of them -/
theorem call_sortedDA (hcalm : X.calm = true) : CallR X (.builtin "sorted") (fun xs H Q => ∃ (a : Addr) (kvs : List (Key × V)) (ks : List Int), xs = [.ref a] ∧ Rd H a (.dK kvs) ∧ kvs.map (·.1) = ks.map Sum.inl ∧ ks.length ≤ 100000 ∧
    ∀ (ys : List Int) (p : Addr), ys.Perm ks → ys.Pairwise (· ≤ ·) → H p = none → Q (.ref p) (upd H p (.lst (ys.map V.int)))) := by
  intro pins s σ H xs us Q I r q
  obtain ⟨a, kvs, ks, ex, hd, hks, h64, q⟩ := q
  subst ex
  obtain ⟨u, eu, rx⟩ := vals1 r
  subst eu
  cases rx
  obtain ⟨z, lo, vs, rel, dd⟩ := dk_rd I.hok hd
  obtain ⟨ep, hat⟩ := dd.dictAt
  have hkeys : vs.map (·.1) = ks.map Sum.inl := rel.keys.symm.trans hks
  have hl : vs.length = ks.length := by
    have e := congrArg List.length hkeys
    rw [List.length_map, List.length_map] at e
    exact e
  have h16 : vs.length ≤ sizeLine := by rw [hl, sizeLine_eq]; omega
  refine Calls.call_function_entry PyProof.Rows.kind_sorted PyProof.Rows.plain_sorted PyProof.Rows.entry_sorted (PyProof.Rows.args_sorted1 _) ?_
  unfold Builtin.«sorted»
  refine wpAny_bind (m := checkCount "sorted" 1 1 _) (wpAny_pure ?_)
  refine wpAny_bind (PySem.W.kdu_collect (A := X.A.in1) (PySem.W.kdl_dict (knd := mixKind X.prog X.w) (kvs := vs) (ep := ep) lo) (I.ok.hd hcalm) hat h16 fun h' tk acc hk hacc => ?_)
  have hal : acc.toList.length = ks.length := by rw [Array.length_toList, hacc.1, hl]
  have hS : IntsAre acc.toList ks := ints_each hal fun j v e => by
    obtain ⟨k, x, e1, e2⟩ := hacc.2 j v (by rw [← Array.getElem?_toList]; exact e)
    have e3 : (vs.map (·.1))[j]? = some k := by rw [List.getElem?_map, e1]; rfl
    rw [hkeys, List.getElem?_map] at e3
    cases e4 : ks[j]? with
    | none => rw [e4] at e3; cases e3
    | some y =>
      rw [e4] at e3
      have e5 : Sum.inl y = k := Option.some.inj e3
      subst e5
      rcases keyIs_shape (show keyIs (Sum.inl y) v = true from e2) with ⟨i, t, ek, ev⟩ | ⟨z, t, ek, ev⟩
      · cases ek
        exact ⟨y, t, rfl, ev⟩
      · cases ek
  have I1 : Inv X pins σ H { s with heap := h', toks := tk } := I.kept hk
  have hsz : acc.toList.length ≤ sizeLine := by rw [hal, sizeLine_eq]; omega
  refine wpAny_bind (wpAny_newList ?_ hsz)
  have hoL : (h'.push (seqObj "list" acc.toList.toArray 0)).get? h'.objs.size = some (seqObj "list" acc.toList.toArray 0) := Heap.get?_push_size _ rfl
  show wpAny _ _ _ _ _ { s with heap := h'.push (seqObj "list" acc.toList.toArray 0), toks := tk }
  refine wpAny_bind (wpAny_holding (wpAny_call_entry PyProof.Rows.slot_list_sort ⟨_, hoL, rfl⟩ PyProof.Rows.entry_list_sort
    (SrtO.list_sort_ord SrtO.swo_int (s := { s with heap := h'.push (seqObj "list" acc.toList.toArray 0), toks := tk }) hoL hsz (fun h2 => SrtO.ints_sortable hS h2) fun out o1 o2 => ⟨_, rfl, ?_⟩) (PyProof.Rows.args_list_sort _)))
  obtain ⟨k1, k2, k3⟩ := SrtO.ints_out hS o1 o2
  obtain ⟨e', he'⟩ := PyProof.Rows.sortedHeap_at (vs := acc.toList) (out := out.toArray) hoL
  have hlen : ((out.map SrtO.iv).map V.int).length ≤ sizeLine := by
    rw [List.length_map, k2.length_eq, sizeLine_eq]
    omega
  refine wpAny_pure ⟨_, rfl, .ref h'.objs.size, upd H h'.objs.size (.lst ((out.map SrtO.iv).map V.int)), I1.laid (t' := tk) (fun b u e => ?_) (Nat.le_refl _)
    (show ObjOk X.prog X.w _ _ _ (.lst ((out.map SrtO.iv).map V.int)) from ⟨hlen, out, e', vals_of_ints k1, he'⟩), rfl, q _ _ k2 k3 (I1.hok.fresh (Nat.le_refl _))⟩
  have hb : b < h'.objs.size := Heap.lt_size e
  rw [PyProof.Rows.sortedHeap_old (Nat.ne_of_lt hb) (by rw [size_push']; exact Nat.lt_succ_of_lt hb)]
  exact Heap.get?_push_of_some _ e
end
section
variable {kk : Nat} {X : Cx} {cv : Str → Value} {W : WX} {a b : E} {ea eb : Expr} {pos : Pos}
theorem btup_of {K : Frag} {G : Hp} {v : V} {bs : List Bool} (h : Rep K G v (.tup (bs.map D.bl))) : ∃ b, v = .ref b ∧ SqT K G b (bs.map V.bl) := by
  cases h with
  | @tup a vs ds h1 h2 =>
    have e : ∀ (bs : List Bool) (vs : List V), Reps K G vs (bs.map D.bl) → vs = bs.map V.bl := by
      intro bs
      induction bs with
      | nil => intro vs h; cases h; rfl
      | cons c bs ih =>
        intro vs h
        rw [List.map_cons] at h
        cases h with
        | cons h1 h2 =>
          cases h1
          rw [ih _ h2, List.map_cons]
    rw [e _ _ h2] at h1
    exact ⟨_, rfl, h1⟩
theorem se_slcT {lo hi : A} {elo ehi : Option Expr} {p2 : Pos} (ha : SE X cv W a ea) (hl : PO X elo (tOs X.K cv W lo)) (hh : PO X ehi (tOs X.K cv W hi)) : SE X cv W (.slcT a lo hi) (.Subscript ea (.Slice elo ehi none p2) pos) :=
  .val ((pe_slice sl_tupA ha.pe hl hh).of fun σ H Q ⟨Z, G, M, ρ, k, x, r, w, hk, hx⟩ => ⟨Z, G, M, ρ, _, x, r, w, fun d M1 w1 v G1 H1 r1 e1 p1 =>
    ⟨Z, G1, M1, ρ, _, x, r1, w1, fun l M2 w2 G2 H2 r2 e2 => ⟨Z, G2, M2, ρ, _, x, r2, w2, fun h M3 q G3 H3 r3 e3 => by
      have p3 := (p1.up e2).up e3
      have e13 := (e1.trans e2).trans e3
      obtain ⟨l', el, q5⟩ := asT_of q
      subst el
      clear q
      cases p3 with
      | tup h1 h2 =>
        refine ⟨_, _, rfl, ex_t r3.base.ex h1, fun z => ?_, fun p hp => newT_ok q5 r3 e13 (h2.cut l h) hk hp⟩
        rw [h2.length] at z
        have e : cutD l' l h = l' := by
          unfold cutD
          rw [z.1, z.2, Nat.sub_zero, List.drop_zero, List.take_length]
        rw [e] at q5
        exact hk _ _ q5 _ _ _ r3 e13 (.tup h1 h2), hx⟩, hx⟩, hx⟩) (fun _ => rfl) (fun _ _ _ => nofun)
theorem se_repT (ha : SE X cv W a ea) (hb : SE X cv W b eb) : SE X cv W (.repT a b) (.BinOp ea .Mult eb pos) :=
  .val ((pe_op op_repA ha.pe hb.pe).of fun σ H Q ⟨Z, G, M, ρ, k, x, r, w, hk, hx⟩ => two (Q := fun v1 v2 H2 => rRepA X.K v1 v2 H2 Q) r w hx fun d1 d2 M2 v1 v2 G2 H2 q r2 e2 p1 p2 => by
    obtain ⟨l, rfl, q⟩ := asT_of q
    obtain ⟨j, rfl, ⟨n1, n2, n3, n4⟩, q⟩ := asInt_of q
    cases p2
    cases p1 with
    | tup h1 h2 =>
      refine ⟨_, j, _, rfl, rfl, ex_t r2.base.ex h1, fun z => n1 (by subst z; cases h2; rfl), n2, n3, by rw [h2.length]; exact n4, fun z => ?_, fun p hp => newT_ok q r2 e2 (Reps.flat _ h2) hk hp⟩
      subst z
      have e : (List.replicate (1 : Int).toNat l).flatten = l := by simp
      rw [e] at q
      exact hk _ _ q _ _ _ r2 e2 (.tup h1 h2)) (fun _ => rfl) (fun _ _ _ => nofun)
theorem se_tupO {x : Str} {p : Pos} (G : Good kk X) (hx : x = "tuple") (hg : glB X.env.scope x = true) (hp : plainX ea = true) (ha : SE X cv W a ea) : SE X cv W (.tupO a) (.Call (.Name x p) [ea] [] pos) := by
  subst hx
  obtain ⟨g1, g2, g3⟩ := gl_of hg
  refine .val ((pe_tupleOf g1 (nb_of G (by decide)) ha.pe (star_plain hp)).of fun σ H Q ⟨Z, G, M, ρ, k, x, r, w, hk, hx⟩ => ⟨Z, G, M, ρ, _, x, r, w, fun d M1 q v G1 H1 r1 e1 p1 => ?_, hx⟩) (fun _ => rfl) (fun _ _ _ => nofun)
  obtain ⟨l, f, q⟩ := asL_of q
  obtain ⟨a1, xs, rfl, h1, h2⟩ := r1.base.viewL p1 f
  exact .inl ⟨a1, xs, rfl, h1, fun p hp => newT_ok q r1 e1 h2 hk hp⟩
theorem reps_prs {K : Frag} {G H : Hp} (e : Ex G H) : ∀ {kvs : List (Key × D)} {vs : List V}, Reps K G vs (kvs.map fun kv => D.tup [keyV kv.1, kv.2]) →
    ∃ (ps : List Addr) (kus : List (Key × V)), vs = ps.map V.ref ∧ Paired (fun p kv => SqT K H p [kV kv.1, kv.2]) ps kus ∧ PReps K G kus kvs
  | [], _, h => by
    cases h
    exact ⟨[], [], rfl, .nil, .nil⟩
  | (y, d) :: kvs, _, h => by
    rw [List.map_cons] at h
    cases h with
    | cons h1 h2 =>
      obtain ⟨ps, kus, rfl, i2, i3⟩ := reps_prs e h2
      cases h1 with
      | tup g1 g2 =>
        cases g2 with
        | cons j1 j2 =>
          cases j2 with
          | cons j3 j4 =>
            cases j4
            have ey := keyD_of (d := keyV y) (y := y) (by cases y <;> rfl) j1
            subst ey
            exact ⟨_ :: ps, (y, _) :: kus, rfl, .cons (ex_t e g1) i2, .cons j3 i3⟩
theorem PReps.merge {K : Frag} {G : Hp} : ∀ {kus : List (Key × V)} {kvs : List (Key × D)} {as : List (Key × V)} {bs : List (Key × D)}, PReps K G kus kvs → PReps K G as bs → PReps K G (mergeK as kus) (mergeM bs kvs) := by
  intro kus kvs as bs h
  refine PReps.ind (P := fun kus kvs => ∀ as bs, PReps K G as bs → PReps K G (mergeK as kus) (mergeM bs kvs)) (fun _ _ h => h) (fun f v d vs ds r _ ih as bs h => ?_) kus kvs h as bs
  exact ih _ _ (h.putM r)
theorem se_dictP {x : Str} {p : Pos} (G : Good kk X) (hx : x = "dict") (hg : glB X.env.scope x = true) (hp : plainX ea = true) (ha : SE X cv W a ea) : SE X cv W (.dictP a) (.Call (.Name x p) [ea] [] pos) := by
  subst hx
  obtain ⟨g1, g2, g3⟩ := gl_of hg
  refine .val ((pe_callTy (T := "dict") (call_dictP G.calm) g1 (nb_of G (by decide)) (by decide +kernel) (pa_of hp ha.pe pa_nil) g3 g2 (star_plain hp)).of fun σ H Q ⟨Z, G, M, ρ, k, x, r, w, hk, hx⟩ => ⟨Z, G, M, ρ, _, x, r, w, fun d M1 q v G1 H1 r1 e1 p1 => ?_, hx⟩) (fun _ => rfl) (fun _ _ _ => nofun)
  obtain ⟨l, f, kvs, el, q⟩ := asL_of q
  subst el
  obtain ⟨a1, xs, rfl, h1, h2⟩ := r1.base.viewL p1 f
  obtain ⟨ps, kus, rfl, i2, i3⟩ := reps_prs (H := H1) r1.base.ex h2
  refine ⟨a1, ps, kus, rfl, h1, i2, fun p hp => ?_⟩
  obtain ⟨b, t⟩ := r1.base.laidC (p := p) (o := .dK (mergeK [] kus)) (c2 := .dct (mergeM [] kvs)) hp ⟨_, upd_same, i3.merge .nil⟩
  exact hk _ _ (q p (r1.base.mnone hp)) _ G1 _ (r1.go b t) (e1.trans t.g) (.ref p)
theorem se_srtk {m : Bool} {x : Str} {p : Pos} (G : Good kk X) (hx : x = "sorted") (hg : glB X.env.scope x = true) (hp : plainX ea = true) (ha : SE X cv W a ea) : SE X cv W (.srtk m a) (.Call (.Name x p) [ea] [] pos) := by
  subst hx
  obtain ⟨g1, g2, g3⟩ := gl_of hg
  refine .val ((pe_callB (id := "sorted") (call_sortedDA G.calm) g1 (nb_of G (by decide)) (by decide +kernel) (pa_of hp ha.pe pa_nil) g3 g2 (star_plain hp)).of fun σ H Q ⟨Z, G, M, ρ, k, x, r, w, hk, hx⟩ => ⟨Z, G, M, ρ, _, x, r, w, fun d M1 q v G1 H1 r1 e1 p1 => ?_, hx⟩) (fun _ => rfl) (fun _ _ _ => nofun)
  obtain ⟨p, kvs, rfl, hm, ns, h1, h2, q⟩ := dctD_of q
  cases p1
  obtain ⟨_, vs, d1, d2⟩ := r1.base.cell p _ hm
  exact ⟨p, vs, ns, rfl, .inl d1, by rw [d2.k]; exact h1, h2, fun ms p2 pm ps hp => newL_ok (q ms pm ps) r1 e1 (Reps.ofInts ms) hk hp⟩
theorem se_bl1 (GG : Good kk X) (ha : SE X cv W a ea) (hb : SE X cv W b eb) : SE X cv W (.bl1 a b) (.Dict [some ea] [eb] pos) := by
  have hu : X.A.units < cLine := Nat.lt_of_le_of_lt (Nat.le_add_right _ _) GG.room.units
  refine .val ((pe_bl1 hu ha.pe hb.pe).of fun σ H Q ⟨Z, G, M, ρ, k, x, r, w, hk, hx⟩ p hp => ?_) (fun _ => rfl) (fun _ _ _ => nofun)
  have yg : Young Z p := young_of r.tr hp
  have gp := r.base.gnone hp
  have mp := r.base.mnone hp
  have r0 : Rel X.K Z G (upd H p (BdT p [])) M σ ρ := r.at (Ex.refl _) (r.base.looseW gp mp) (r.tr.looseW yg mp)
  have r1 : Rel X.K ⟨G, upd H p (BdT p []), M⟩ G (upd H p (BdT p [])) M σ ρ := r0.at (Ex.refl _) r0.base .refl
  have back : ∀ {G' H' M'}, Rel X.K ⟨G, upd H p (BdT p []), M⟩ G' H' M' σ ρ → Rel X.K Z G' H' M' σ ρ := fun r' => r'.at (Ex.refl _) r'.base (r0.tr.trans r'.tr)
  refine two (Q := fun v1 v2 H2 => ∃ b bs, [(v1, v2)] = [(V.ref b, V.bl true)] ∧ H2 p = some (BdT p []) ∧ SqT X.K H2 b (bs.map V.bl) ∧ Q (.ref p) (upd H2 p (BdT p [(bs, b)]))) r1 w (fun c M' xc G' H' r' => hx c M' xc G' H' (back r')) fun d1 d2 M2 v1 v2 G2 H2 q r2 e2 p1 p2 => ?_
  obtain ⟨bs, rfl, rfl, q⟩ := q
  cases p2
  obtain ⟨b, rfl, hb⟩ := btup_of p1
  obtain ⟨hh, g2, m2⟩ := r2.tr.loose (o := BdT p []) upd_same gp mp
  refine ⟨b, bs, rfl, hh, ex_t r2.base.ex hb, ?_⟩
  have r3 : Rel X.K Z G2 (upd H2 p (BdT p [(bs, b)])) M2 σ ρ := (back r2).at (Ex.refl _) (r2.base.looseW g2 m2) ((back r2).tr.looseW yg m2)
  have b4 : Base X.K G2 (upd H2 p (BdT p [(bs, b)])) (mset M2 p (.bdt [bs])) := by
    refine ⟨r3.base.ex, fun a c e => ?_⟩
    by_cases q : a = p
    · subst q
      rw [mset_same] at e
      cases e
      refine ⟨g2, [(bs, b)], upd_same, rfl, fun x hx => ?_⟩
      rw [List.mem_singleton] at hx
      subst hx
      exact hb
    · rw [mset_ne q] at e
      exact r3.base.cell a c e
  exact hk _ _ (q p m2) _ G2 _ (r3.at (Ex.refl _) b4 (r3.tr.adoptM yg)) e2 (.ref p)
theorem bdtD_of {M : Mp} {d : D} {k : List (List Bool) → Prop} (h : bdtD M d k) : ∃ p ks, d = .ref p ∧ M p = some (.bdt ks) ∧ k ks := by
  unfold bdtD at h
  split at h
  · split at h
    · exact ⟨_, _, rfl, by assumption, h⟩
    · exact h.elim
  · exact h.elim
theorem se_bnot (G : Good kk X) (hp : plainX eb = true) (ha : SE X cv W a ea) (hb : SE X cv W b eb) : SE X cv W (.bnot a b) (.Compare ea [.NotIn] [eb] pos) := by
  have hu : X.A.units + 1 < cLine := Nat.lt_of_le_of_lt (Nat.add_le_add_left (by decide) _) G.room.units
  have hc := pc_bnot hu ha.pe hb.pe
  have h1 : behindInMarks .NotIn eb = false := mark_plain hp
  have go : ∀ {σ : L2.St} {H : Hp} {Q : VK} {Z : Wd} {G : Hp} {M : Mp} {ρ : Env} {k : Bool → Mp → Prop} {x : XP}, Rel X.K Z G H M σ ρ →
      wpE a ρ M (fun d1 M1 => wpE b ρ M1 (fun d2 M2 => bdtD M2 d2 fun ks => ∃ bs : List Bool, d1 = .tup (bs.map .bl) ∧ k (!decide (bs ∈ ks)) M2) x) x → HX X.K Z cv W σ ρ x →
      (∀ b M', k b M' → ∀ G' H', Rel X.K Z G' H' M' σ ρ → Ex G G' → Q (.bl b) H') → tBNot X.K (tE X.K cv W a) (tE X.K cv W b) σ H Q := by
    intro σ H Q Z G M ρ k x r w hx hk
    refine two (Q := fun v1 v2 H2 => ∃ a xs b bs, v2 = .ref a ∧ v1 = .ref b ∧ H2 a = some (BdT a xs) ∧ BKeys X.K H2 xs ∧ SqT X.K H2 b (bs.map V.bl) ∧ Q (.bl (!decide (bs ∈ xs.map (·.1)))) H2) r w hx fun d1 d2 M2 v1 v2 G2 H2 q r2 e2 p1 p2 => ?_
    obtain ⟨p, ks, rfl, hm, bs, rfl, q⟩ := bdtD_of q
    cases p2
    obtain ⟨b, rfl, hb⟩ := btup_of p1
    obtain ⟨_, xs, c1, c2, c3⟩ := r2.base.cell p _ hm
    subst c2
    exact ⟨p, xs, b, bs, rfl, rfl, c1, fun x hx => ex_t r2.base.ex (c3 x hx), ex_t r2.base.ex hb, hk _ M2 q G2 H2 r2 e2⟩
  refine ⟨(pe_cmp hc h1).of fun σ H Q ⟨Z, G, M, ρ, k, x, r, w, hk, hx⟩ => go (k := fun b M' => k (.bl b) M') r w hx fun b M' q G' H' r' e' => hk _ M' q _ G' H' r' e' (.bl b),
    (pt_cmp hc h1).of fun σ H Q ⟨Z, G, M, ρ, k, x, r, w, hk, hx⟩ => go (k := k) r w hx fun b M' q G' H' r' e' => ⟨b, rfl, hk b M' q G' H' r' e'⟩, fun _ _ _ => nofun⟩
theorem se_kin {x y : Str} {kvs : List (Str × Bool)} {p : Pos} (hc : CallOk cv kk X x (.kdc kvs)) (hy : y = x) (hg : glB X.env.scope y = true) (ha : SE X cv W a ea) : SE X cv W (.kin x kvs a) (.Compare ea [.In] [.Name y p] pos) := by
  subst hy
  obtain ⟨g1, g2, g3⟩ := gl_of hg
  obtain ⟨d, es, n, hm, D, hk⟩ := hc
  have hb := pe_glob (pos := p) (v := V.ref d) g1 hm rfl g2
  have h1 : behindInMarks .In (.Name y p) = false := mark_plain rfl
  refine ⟨(pe_cmpR (op_in_kd D) ha.pe hb h1).of fun σ H Q ⟨Z, G, M, ρ, k, x, r, w, hk1, hx⟩ => ⟨Z, G, M, ρ, _, x, r, w, fun d1 M1 q v1 G1 H1 r1 e1 p1 => by
      obtain ⟨s, rfl, q⟩ := q
      cases p1
      exact ⟨s, _, rfl, rfl, hk s, by rw [Option.isSome_map]; exact hk1 _ M1 q _ G1 H1 r1 e1 (.bl _)⟩, hx⟩,
    (pt_cmpR (op_in_kd D) ha.pe hb h1).of fun σ H Q ⟨Z, G, M, ρ, k, x, r, w, hk1, hx⟩ => ⟨Z, G, M, ρ, _, x, r, w, fun d1 M1 q v1 G1 H1 r1 e1 p1 => by
      obtain ⟨s, rfl, q⟩ := q
      cases p1
      exact ⟨s, _, rfl, rfl, hk s, by rw [Option.isSome_map]; exact ⟨_, rfl, hk1 _ M1 q G1 H1 r1 e1⟩⟩, hx⟩, fun _ _ _ => nofun⟩
theorem se_kget {x y : Str} {kvs : List (Str × Bool)} {p : Pos} (hc : CallOk cv kk X x (.kdc kvs)) (hy : y = x) (hg : glB X.env.scope y = true) (hp : plainX ea = true) (ha : SE X cv W a ea) : SE X cv W (.kget x kvs a) (.Subscript (.Name y p) ea pos) := by
  subst hy
  obtain ⟨g1, g2, g3⟩ := gl_of hg
  obtain ⟨d, es, n, hm, D, hk⟩ := hc
  have hb := pe_glob (pos := p) (v := V.ref d) g1 hm rfl g2
  refine .val ((pe_ix ix_kdict hb ha.pe (ix_plain hp)).of fun σ H Q ⟨Z, G, M, ρ, k, x, r, w, hk1, hx⟩ => ⟨Z, G, M, ρ, _, x, r, w, fun d1 M1 q v1 G1 H1 r1 e1 p1 => ?_, hx⟩) (fun _ => rfl) (fun _ _ _ => nofun)
  obtain ⟨s, b, rfl, hb, q⟩ := q
  cases p1
  exact ⟨d, s, .bl b, rfl, rfl, ⟨es, n, .bool b, D.at_, D.lit, by rw [hk s, hb]; rfl, rfl⟩, hk1 _ M1 q _ G1 H1 r1 e1 (.bl _)⟩
end
end T

/-! T: the expressions, all together. -/
namespace T
open PySem L2 PyProof.Rows
theorem and_of {p q : Bool} (h : (p && q) = true) : p = true ∧ q = true := by
  rw [Bool.and_eq_true] at h
  exact h
theorem dec_of {p : Prop} [Decidable p] (h : decide p = true) : p := of_decide_eq_true h
section
variable {kk : Nat} {cv : Str → Value}
/-- a comprehension's block is as good -/
theorem Good.blk {X : Cx} (G : Good kk X) (s : Shared) (H : Hp) (scope : Scope) (cenv : PySem.Env) (fp : List Addr) : Good kk (X.blk s H scope cenv fp) := ⟨G.calm, G.nd, G.room, G.nb⟩
mutual
theorem sE : ∀ (a : E) {X : Cx} {W : WX} {e : Expr}, Good kk X → Takes X W → a.calls (CallOk cv kk X) → okE X.N X.env.scope a e = true → SE X cv W a e
  | .var i, X, W, e, G, tk, hc, h => by
    unfold okE at h
    split at h
    · exact se_var h
    · cases h
  | .int i, X, W, e, G, tk, hc, h => by
    unfold okE at h
    split at h
    · have e := dec_of h
      subst e
      exact se_int
    · cases h
  | .str i, X, W, e, G, tk, hc, h => by
    unfold okE at h
    split at h
    · have e := dec_of h
      subst e
      exact se_str
    · cases h
  | .bl i, X, W, e, G, tk, hc, h => by
    unfold okE at h
    split at h
    · have e := dec_of h
      subst e
      exact se_bl
    · cases h
  | .non, X, W, e, G, tk, hc, h => by
    unfold okE at h
    split at h
    · exact se_non
    · cases h
  | .bin o a b, X, W, e, G, tk, hc, h => by
    unfold okE at h
    split at h
    · obtain ⟨g3, h3⟩ := and_of h
      obtain ⟨g2, h2⟩ := and_of g3
      have h1 := g2
      have e := dec_of h1
      subst e
      exact se_bin (sE a G tk hc.1 h2) (sE b G tk hc.2 h3)
    · cases h
  | .cat m a b, X, W, e, G, tk, hc, h => by
    unfold okE at h
    split at h
    · obtain ⟨g3, h3⟩ := and_of h
      obtain ⟨g2, h2⟩ := and_of g3
      have h1 := g2
      have e := dec_of h1
      subst e
      exact se_cat (sE a G tk hc.1 h2) (sE b G tk hc.2 h3)
    · cases h
  | .catT a b, X, W, e, G, tk, hc, h => by
    unfold okE at h
    split at h
    · obtain ⟨g3, h3⟩ := and_of h
      obtain ⟨g2, h2⟩ := and_of g3
      have h1 := g2
      have e := dec_of h1
      subst e
      exact se_catT (sE a G tk hc.1 h2) (sE b G tk hc.2 h3)
    · cases h
  | .rep m a b, X, W, e, G, tk, hc, h => by
    unfold okE at h
    split at h
    · obtain ⟨g3, h3⟩ := and_of h
      obtain ⟨g2, h2⟩ := and_of g3
      have h1 := g2
      have e := dec_of h1
      subst e
      exact se_rep (sE a G tk hc.1 h2) (sE b G tk hc.2 h3)
    · cases h
  | .un o a, X, W, e, G, tk, hc, h => by
    unfold okE at h
    split at h
    · obtain ⟨g2, h2⟩ := and_of h
      have h1 := g2
      have e := dec_of h1
      subst e
      exact se_un (sE a G tk hc h2)
    · cases h
  | .cmp o a b, X, W, e, G, tk, hc, h => by
    unfold okE at h
    split at h
    · obtain ⟨g4, h4⟩ := and_of h
      obtain ⟨g3, h3⟩ := and_of g4
      obtain ⟨g2, h2⟩ := and_of g3
      have h1 := g2
      have e := dec_of h1
      subst e
      exact se_cmp G h2 (sE a G tk hc.1 h3) (sE b G tk hc.2 h4)
    · cases h
  | .ch2 o1 o2 a b c, X, W, e, G, tk, hc, h => by
    unfold okE at h
    split at h
    · obtain ⟨g6, h6⟩ := and_of h
      obtain ⟨g5, h5⟩ := and_of g6
      obtain ⟨g4, h4⟩ := and_of g5
      obtain ⟨g3, h3⟩ := and_of g4
      obtain ⟨g2, h2⟩ := and_of g3
      have h1 := g2
      have e := dec_of h1
      subst e
      have e := dec_of h2
      subst e
      exact se_ch2 G h3 (sE a G tk hc.1 h4) (sE b G tk hc.2.1 h5) (sE c G tk hc.2.2 h6)
    · cases h
  | .ch3 o1 o2 o3 a b c d, X, W, e, G, tk, hc, h => by
    unfold okE at h
    split at h
    · obtain ⟨g8, h8⟩ := and_of h
      obtain ⟨g7, h7⟩ := and_of g8
      obtain ⟨g6, h6⟩ := and_of g7
      obtain ⟨g5, h5⟩ := and_of g6
      obtain ⟨g4, h4⟩ := and_of g5
      obtain ⟨g3, h3⟩ := and_of g4
      obtain ⟨g2, h2⟩ := and_of g3
      have h1 := g2
      have e := dec_of h1
      subst e
      have e := dec_of h2
      subst e
      have e := dec_of h3
      subst e
      exact se_ch3 G h4 (sE a G tk hc.1 h5) (sE b G tk hc.2.1 h6) (sE c G tk hc.2.2.1 h7) (sE d G tk hc.2.2.2 h8)
    · cases h
  | .isN neg a, X, W, e, G, tk, hc, h => by
    unfold okE at h
    split at h
    · obtain ⟨g2, h2⟩ := and_of h
      have h1 := g2
      have e := dec_of h1
      subst e
      exact se_isN (sE a G tk hc h2)
    · cases h
  | .and a b, X, W, e, G, tk, hc, h => by
    unfold okE at h
    split at h
    · obtain ⟨g2, h2⟩ := and_of h
      have h1 := g2
      exact se_and (sE a G tk hc.1 h1) (sE b G tk hc.2 h2)
    · cases h
  | .or a b, X, W, e, G, tk, hc, h => by
    unfold okE at h
    split at h
    · obtain ⟨g2, h2⟩ := and_of h
      have h1 := g2
      exact se_or (sE a G tk hc.1 h1) (sE b G tk hc.2 h2)
    · cases h
  | .one a, X, W, e, G, tk, hc, h => by
    unfold okE at h
    split at h
    · exact se_one (sE a G tk hc h)
    · cases h
  | .not a, X, W, e, G, tk, hc, h => by
    unfold okE at h
    split at h
    · obtain ⟨g2, h2⟩ := and_of h
      have h1 := g2
      have e := dec_of h1
      subst e
      exact se_not (sE a G tk hc h2)
    · cases h
  | .ite c a b, X, W, e, G, tk, hc, h => by
    unfold okE at h
    split at h
    · obtain ⟨g3, h3⟩ := and_of h
      obtain ⟨g2, h2⟩ := and_of g3
      have h1 := g2
      exact se_ite (sE c G tk hc.1 h1) (sE a G tk hc.2.1 h2) (sE b G tk hc.2.2 h3)
    · cases h
  | .slc m a lo hi, X, W, e, G, tk, hc, h => by
    unfold okE at h
    split at h
    · obtain ⟨g3, h3⟩ := and_of h
      obtain ⟨g2, h2⟩ := and_of g3
      have h1 := g2
      exact se_slc (sE a G tk hc.1 h1) (sO lo G tk hc.2.1 h2) (sO hi G tk hc.2.2 h3)
    · cases h
  | .idx a b, X, W, e, G, tk, hc, h => by
    unfold okE at h
    split at h
    · obtain ⟨g3, h3⟩ := and_of h
      obtain ⟨g2, h2⟩ := and_of g3
      have h1 := g2
      exact se_idx h1 (sE a G tk hc.1 h2) (sE b G tk hc.2 h3)
    · cases h
  | .tup as, X, W, e, G, tk, hc, h => by
    unfold okE at h
    split at h
    · exact se_tup (sA as G tk hc h)
    · cases h
  | .lst m as, X, W, e, G, tk, hc, h => by
    unfold okE at h
    split at h
    · exact se_lst (sA as G tk hc h)
    · cases h
  | .cpy m a, X, W, e, G, tk, hc, h => by
    unfold okE at h
    split at h
    · obtain ⟨g4, h4⟩ := and_of h
      obtain ⟨g3, h3⟩ := and_of g4
      obtain ⟨g2, h2⟩ := and_of g3
      have h1 := g2
      exact se_cpy G (dec_of h2) h3 h1 (sE a G tk hc h4)
    · cases h
  | .srt m a, X, W, e, G, tk, hc, h => by
    unfold okE at h
    split at h
    · obtain ⟨g4, h4⟩ := and_of h
      obtain ⟨g3, h3⟩ := and_of g4
      obtain ⟨g2, h2⟩ := and_of g3
      have h1 := g2
      exact se_srt G (dec_of h2) h3 h1 (sE a G tk hc h4)
    · cases h
  | .call g F as, X, W, e, G, tk, hc, h => by
    unfold okE at h
    split at h
    · obtain ⟨g3, h3⟩ := and_of h
      obtain ⟨g2, h2⟩ := and_of g3
      have h1 := g2
      rename_i x p es pos
      cases es with
      | nil =>
        cases as with
        | nil => exact se_call0 G tk hc.1 (dec_of h1) h2
        | cons _ _ => simp [okA] at h3
      | cons e es => exact se_call G tk hc.1 (dec_of h1) h2 (okA_plain as _ h3) (sA as G tk hc.2 h3)
    · cases h
  | .fld c f a, X, W, e, G, tk, hc, h => by
    unfold okE at h
    split at h
    · obtain ⟨g3, h3⟩ := and_of h
      obtain ⟨h1, h2⟩ := and_of g3
      exact se_fld hc.1 (dec_of h1) h2 (sE a G tk hc.2 h3)
    · cases h
  | .meth c m F a as, X, W, e, G, tk, hc, h => by
    unfold okE at h
    split at h
    · obtain ⟨g6, h6⟩ := and_of h
      obtain ⟨g5, h5⟩ := and_of g6
      obtain ⟨g4, h4⟩ := and_of g5
      obtain ⟨g3, h3⟩ := and_of g4
      obtain ⟨h1, h2⟩ := and_of g3
      refine se_meth G tk hc.1 (dec_of h1) h2 h3 (dec_of h4) (okA_plain as _ h6) (sA as G tk hc.2.2 h6) (fun z => ?_) (sE a G tk hc.2.1 h5)
      rw [z] at h6
      cases as with
      | nil => rfl
      | cons _ _ => simp [okA] at h6
    · cases h
  | .make c F as, X, W, e, G, tk, hc, h => by
    unfold okE at h
    split at h
    · obtain ⟨g3, h3⟩ := and_of h
      obtain ⟨h1, h2⟩ := and_of g3
      refine se_make G tk hc.1 (dec_of h1) h2 (okA_plain as _ h3) (sA as G tk hc.2 h3) (fun z => ?_)
      rw [z] at h3
      cases as with
      | nil => rfl
      | cons _ _ => simp [okA] at h3
    · cases h
  | .isE cs cl a, X, W, e, G, tk, hc, h => by
    unfold okE at h
    split at h
    · obtain ⟨g6, h6⟩ := and_of h
      obtain ⟨g5, h5⟩ := and_of g6
      obtain ⟨g4, h4⟩ := and_of g5
      obtain ⟨g3, h3⟩ := and_of g4
      obtain ⟨h1, h2⟩ := and_of g3
      exact se_isE G hc.1 h1 (dec_of h2) h3 (dec_of h4) h5 (sE a G tk hc.2 h6)
    · cases h
  | .isEs cs cls a, X, W, e, G, tk, hc, h => by
    unfold okE at h
    split at h
    · obtain ⟨g7, h7⟩ := and_of h
      obtain ⟨g6, h6⟩ := and_of g7
      obtain ⟨g5, h5⟩ := and_of g6
      obtain ⟨g4, h4⟩ := and_of g5
      obtain ⟨g3, h3⟩ := and_of g4
      obtain ⟨h1, h2⟩ := and_of g3
      refine se_isEs G hc.1 (fun _ _ _ => trivial) h1 (dec_of h2) h3 h4 (dec_of h6) (sE a G tk hc.2 h7) (fun z => ?_)
      rw [z] at h5
      exact absurd h5 (by decide)
    · cases h
  | .popE a, X, W, e, G, tk, hc, h => by
    unfold okE at h
    split at h
    · obtain ⟨g4, h4⟩ := and_of h
      obtain ⟨g3, h3⟩ := and_of g4
      obtain ⟨h1, h2⟩ := and_of g3
      exact se_popE (dec_of h1) h2 h3 (sE a G tk hc h4)
    · cases h
  | .fnv x, X, W, e, G, tk, hc, h => by
    unfold okE at h
    split at h
    · obtain ⟨h1, h2⟩ := and_of h
      exact se_fnv hc (dec_of h1) h2
    · cases h
  | .callV i Fs as, X, W, e, G, tk, hc, h => by
    unfold okE at h
    split at h
    · obtain ⟨h1, h2⟩ := and_of h
      exact se_callV G tk hc.1 h1 (okA_plain as _ h2) (sA as G tk hc.2 h2)
    · cases h
  | .dlit ks vs, X, W, e, G, tk, hc, h => by
    unfold okE at h
    split at h
    · obtain ⟨g4, h4⟩ := and_of h
      obtain ⟨g3, h3⟩ := and_of g4
      obtain ⟨h1, h2⟩ := and_of g3
      refine se_dlit (dec_of h2) (dec_of h3) ?_ h4 (sD vs ks G tk hc h4)
      rcases Bool.or_eq_true_iff.mp h1 with z | z
      · exact .inl (dec_of z)
      · obtain ⟨z1, z2⟩ := and_of z
        exact .inr ⟨List.isEmpty_iff.mp z1, List.isEmpty_iff.mp z2⟩
    · cases h
  | .dget a b, X, W, e, G, tk, hc, h => by
    unfold okE at h
    split at h
    · obtain ⟨g3, h3⟩ := and_of h
      obtain ⟨h1, h2⟩ := and_of g3
      exact se_dget G h1 (sE a G tk hc.1 h2) (sE b G tk hc.2 h3)
    · cases h
  | .dhas neg a b, X, W, e, G, tk, hc, h => by
    unfold okE at h
    split at h
    · obtain ⟨g4, h4⟩ := and_of h
      obtain ⟨g3, h3⟩ := and_of g4
      obtain ⟨h1, h2⟩ := and_of g3
      have e1 := dec_of h1
      subst e1
      exact se_dhas G h2 (sE a G tk hc.1 h3) (sE b G tk hc.2 h4)
    · cases h
  | .join a b, X, W, e, G, tk, hc, h => by
    unfold okE at h
    split at h
    · obtain ⟨g6, h6⟩ := and_of h
      obtain ⟨g5, h5⟩ := and_of g6
      obtain ⟨g4, h4⟩ := and_of g5
      obtain ⟨g3, h3⟩ := and_of g4
      obtain ⟨h1, h2⟩ := and_of g3
      have e := dec_of h1
      subst e
      exact se_join h2 h3 h4 (sE a G tk hc.1 h5) (sE b G tk hc.2 h6)
    · cases h
  | .splt m a b, X, W, e, G, tk, hc, h => by
    unfold okE at h
    split at h
    · obtain ⟨g6, h6⟩ := and_of h
      obtain ⟨g5, h5⟩ := and_of g6
      obtain ⟨g4, h4⟩ := and_of g5
      obtain ⟨g3, h3⟩ := and_of g4
      obtain ⟨h1, h2⟩ := and_of g3
      have e := dec_of h1
      subst e
      exact se_splt h2 h3 h4 (sE a G tk hc.1 h5) (sE b G tk hc.2 h6)
    · cases h
  | .upp a, X, W, e, G, tk, hc, h => by
    unfold okE at h
    split at h
    · obtain ⟨g3, h4⟩ := and_of h
      obtain ⟨g2, h3⟩ := and_of g3
      obtain ⟨h1, h2⟩ := and_of g2
      have e := dec_of h1
      subst e
      exact se_upp h2 h3 (sE a G tk hc h4)
    · cases h
  | .dgetd a b c, X, W, e, G, tk, hc, h => by
    unfold okE at h
    split at h
    · obtain ⟨g7, h8⟩ := and_of h
      obtain ⟨g6, h7⟩ := and_of g7
      obtain ⟨g5, h6⟩ := and_of g6
      obtain ⟨g4, h5⟩ := and_of g5
      obtain ⟨g3, h4⟩ := and_of g4
      obtain ⟨g2, h3⟩ := and_of g3
      obtain ⟨h1, h2⟩ := and_of g2
      have e := dec_of h1
      subst e
      exact se_dgetd G h2 h3 h4 h5 (sE a G tk hc.1 h6) (sE b G tk hc.2.1 h7) (sE c G tk hc.2.2 h8)
    · cases h
  | .dl1 a b, X, W, e, G, tk, hc, h => by
    unfold okE at h
    split at h
    · obtain ⟨h1, h2⟩ := and_of h
      exact se_dl1 (sE a G tk hc.1 h1) (sE b G tk hc.2 h2)
    · cases h
  | .dkeys m a, X, W, e, G, tk, hc, h => by
    unfold okE at h
    split at h
    · obtain ⟨g3, h4⟩ := and_of h
      obtain ⟨g2, h3⟩ := and_of g3
      obtain ⟨h1, h2⟩ := and_of g2
      exact se_dkeys G (dec_of h2) h3 h1 (sE a G tk hc h4)
    · cases h
  | .slcT a lo hi, X, W, e, G, tk, hc, h => by
    unfold okE at h
    split at h
    · obtain ⟨g3, h3⟩ := and_of h
      obtain ⟨h1, h2⟩ := and_of g3
      exact se_slcT (sE a G tk hc.1 h1) (sO lo G tk hc.2.1 h2) (sO hi G tk hc.2.2 h3)
    · cases h
  | .repT a b, X, W, e, G, tk, hc, h => by
    unfold okE at h
    split at h
    · obtain ⟨g3, h3⟩ := and_of h
      obtain ⟨h1, h2⟩ := and_of g3
      have e := dec_of h1
      subst e
      exact se_repT (sE a G tk hc.1 h2) (sE b G tk hc.2 h3)
    · cases h
  | .tupO a, X, W, e, G, tk, hc, h => by
    unfold okE at h
    split at h
    · obtain ⟨g3, h4⟩ := and_of h
      obtain ⟨g2, h3⟩ := and_of g3
      obtain ⟨h1, h2⟩ := and_of g2
      exact se_tupO G (dec_of h2) h3 h1 (sE a G tk hc h4)
    · cases h
  | .dictP a, X, W, e, G, tk, hc, h => by
    unfold okE at h
    split at h
    · obtain ⟨g3, h4⟩ := and_of h
      obtain ⟨g2, h3⟩ := and_of g3
      obtain ⟨h1, h2⟩ := and_of g2
      exact se_dictP G (dec_of h2) h3 h1 (sE a G tk hc h4)
    · cases h
  | .srtk m a, X, W, e, G, tk, hc, h => by
    unfold okE at h
    split at h
    · obtain ⟨g3, h4⟩ := and_of h
      obtain ⟨g2, h3⟩ := and_of g3
      obtain ⟨h1, h2⟩ := and_of g2
      exact se_srtk G (dec_of h2) h3 h1 (sE a G tk hc h4)
    · cases h
  | .kin x kvs a, X, W, e, G, tk, hc, h => by
    unfold okE at h
    split at h
    · obtain ⟨g3, h4⟩ := and_of h
      obtain ⟨g2, h3⟩ := and_of g3
      obtain ⟨h1, h2⟩ := and_of g2
      have e := dec_of h1
      subst e
      exact se_kin hc.1 (dec_of h2) h3 (sE a G tk hc.2 h4)
    · cases h
  | .kget x kvs a, X, W, e, G, tk, hc, h => by
    unfold okE at h
    split at h
    · obtain ⟨g3, h4⟩ := and_of h
      obtain ⟨g2, h3⟩ := and_of g3
      obtain ⟨h1, h2⟩ := and_of g2
      exact se_kget hc.1 (dec_of h1) h2 h3 (sE a G tk hc.2 h4)
    · cases h
  | .bl1 a b, X, W, e, G, tk, hc, h => by
    unfold okE at h
    split at h
    · obtain ⟨h1, h2⟩ := and_of h
      exact se_bl1 G (sE a G tk hc.1 h1) (sE b G tk hc.2 h2)
    · cases h
  | .bnot a b, X, W, e, G, tk, hc, h => by
    unfold okE at h
    split at h
    · obtain ⟨g4, h4⟩ := and_of h
      obtain ⟨g3, h3⟩ := and_of g4
      obtain ⟨h1, h2⟩ := and_of g3
      have e := dec_of h1
      subst e
      exact se_bnot G h2 (sE a G tk hc.1 h3) (sE b G tk hc.2 h4)
    · cases h
  | .lrg a b c, X, W, e, G, tk, hc, h => by
    unfold okE at h
    split at h
    · obtain ⟨g9, h9⟩ := and_of h
      obtain ⟨g8, h8⟩ := and_of g9
      obtain ⟨g7, h7⟩ := and_of g8
      obtain ⟨g6, h6⟩ := and_of g7
      obtain ⟨g5, h5⟩ := and_of g6
      obtain ⟨g4, h4⟩ := and_of g5
      obtain ⟨g3, h3⟩ := and_of g4
      obtain ⟨h1, h2⟩ := and_of g3
      exact se_lrg G (dec_of h1) (dec_of h2) h3 h4 h5 h6 h7 (sE a G tk hc.1 h8) (sE b G tk hc.2 h9)
    · cases h
  | .blt f as, X, W, e, G, tk, hc, h => by
    unfold okE at h
    split at h
    · obtain ⟨g3, h3⟩ := and_of h
      obtain ⟨g2, h2⟩ := and_of g3
      have h1 := g2
      exact se_blt G (dec_of h1) h2 (okA_plain as _ h3) (sA as G tk hc h3)
    · cases h
  | .isi a ty, X, W, e, G, tk, hc, h => by
    unfold okE at h
    split at h
    · obtain ⟨g7, h7⟩ := and_of h
      obtain ⟨g6, h6⟩ := and_of g7
      obtain ⟨g5, h5⟩ := and_of g6
      obtain ⟨g4, h4⟩ := and_of g5
      obtain ⟨g3, h3⟩ := and_of g4
      obtain ⟨g2, h2⟩ := and_of g3
      have h1 := g2
      exact se_isi G (dec_of h2) h3 (dec_of h4) h5 h6 h1 (sE a G tk hc h7)
    · cases h
  | .comp m own tg tup it ca el, X, W, e, G, tk, hc, h => by
    unfold okE at h
    split at h
    · obtain ⟨g8, h8⟩ := and_of h
      obtain ⟨g7, h7⟩ := and_of g8
      obtain ⟨g6, h6⟩ := and_of g7
      obtain ⟨g5, h5⟩ := and_of g6
      obtain ⟨g4, h4⟩ := and_of g5
      obtain ⟨g3, h3⟩ := and_of g4
      obtain ⟨g2, h2⟩ := and_of g3
      have h1 := g2
      have e := dec_of h2
      subst e
      refine se_comp G h3 h1 (sI it G tk hc.1 (fun z => targ_tup (by rw [z] at h5; exact h5)) h4) (fun i hi => ?_) (fun s H C cl fp => targ_ok G.calm G.nd locOk_lcl h5) (fun s H C cl fp => sT ca (G.blk s H _ _ fp) hc.2.1 h7) (fun s H C cl fp => sE el (G.blk s H _ _ fp) takes0 hc.2.2 h8)
      have z := List.all_eq_true.mp h6 i hi
      obtain ⟨q, hq, hz⟩ := List.any_eq_true.mp z
      exact List.mem_map.mpr ⟨q, hq, by simpa using hz⟩
    · cases h
  | .frz a, X, W, e, G, tk, hc, h => by
    unfold okE at h
    obtain ⟨h1, h2⟩ := and_of h
    exact se_frz h1 (sE a G tk hc h2)
  | .isB neg v a, X, W, e, G, tk, hc, h => by
    unfold okE at h
    split at h
    · obtain ⟨g3, h3⟩ := and_of h
      obtain ⟨h1, h2⟩ := and_of g3
      have e := dec_of h1
      subst e
      have e := dec_of h2
      subst e
      exact se_isB (sE a G tk hc h3)
    · cases h
  | .dsp ks vs a, X, W, e, G, tk, hc, h => by
    unfold okE at h
    split at h
    · obtain ⟨g6, h6⟩ := and_of h
      obtain ⟨g5, h5⟩ := and_of g6
      obtain ⟨g4, h4⟩ := and_of g5
      obtain ⟨g3, h3⟩ := and_of g4
      obtain ⟨h1, h2⟩ := and_of g3
      exact se_dsp G h1 (dec_of h2) (dec_of h3) (dec_of h4) h5 (sD vs ks G tk hc.1 h5) (sE a G tk hc.2 h6)
    · cases h
  | .rev m a, X, W, e, G, tk, hc, h => by
    unfold okE at h
    split at h
    · obtain ⟨h1, h2⟩ := and_of h
      have e := dec_of h1
      subst e
      exact se_rev (sE a G tk hc h2)
    · cases h
  | .stp m a lo, X, W, e, G, tk, hc, h => by
    unfold okE at h
    split at h
    · obtain ⟨g3, h3⟩ := and_of h
      obtain ⟨g2, h2⟩ := and_of g3
      have e := dec_of g2
      subst e
      exact se_stp (sE a G tk hc.1 h2) (sO lo G tk hc.2 h3)
    · cases h
  | .catA a b, X, W, e, G, tk, hc, h => by
    unfold okE at h
    split at h
    · obtain ⟨g3, h3⟩ := and_of h
      obtain ⟨g2, h2⟩ := and_of g3
      have e := dec_of g2
      subst e
      exact se_catA (sE a G tk hc.1 h2) (sE b G tk hc.2 h3)
    · cases h
  | .isi2 a ty ty2, X, W, e, G, tk, hc, h => by
    unfold okE at h
    split at h
    · obtain ⟨g, h10⟩ := and_of h
      obtain ⟨g, h9⟩ := and_of g
      obtain ⟨g, h8⟩ := and_of g
      obtain ⟨g, h7⟩ := and_of g
      obtain ⟨g, h6⟩ := and_of g
      obtain ⟨g, h5⟩ := and_of g
      obtain ⟨g, h4⟩ := and_of g
      obtain ⟨g, h3⟩ := and_of g
      obtain ⟨h1, h2⟩ := and_of g
      exact se_isi2 G (dec_of h2) h3 (dec_of h4) (dec_of h5) h6 h7 h8 h9 h1 (sE a G tk hc h10)
    · cases h
  | .cnt v a, X, W, e, G, tk, hc, h => by
    unfold okE at h
    split at h
    · obtain ⟨g5, h5⟩ := and_of h
      obtain ⟨g4, h4⟩ := and_of g5
      obtain ⟨g3, h3⟩ := and_of g4
      obtain ⟨h1, h2⟩ := and_of g3
      have e := dec_of h1
      subst e
      have e := dec_of h2
      subst e
      exact se_cnt h3 h4 (sE a G tk hc h5)
    · cases h
  | .sset m a, X, W, e, G, tk, hc, h => by
    unfold okE at h
    split at h
    · obtain ⟨g6, h6⟩ := and_of h
      obtain ⟨g5, h5⟩ := and_of g6
      obtain ⟨g4, h4⟩ := and_of g5
      obtain ⟨g3, h3⟩ := and_of g4
      obtain ⟨h1, h2⟩ := and_of g3
      exact se_sset G (dec_of h2) (dec_of h3) h4 h5 h1 (sE a G tk hc h6)
    · cases h
  | .glb x d, X, W, e, G, tk, hc, h => by
    unfold okE at h
    split at h
    · obtain ⟨h1, h2⟩ := and_of h
      have e := dec_of h1
      subst e
      exact se_glb hc h2
    · cases h
theorem sD : ∀ (as : A) (ks : List Key) {X : Cx} {W : WX} {es : List (Option Expr)} {vals : List Expr} {p : Pos}, Good kk X → Takes X W → as.calls (CallOk cv kk X) → okD X.N X.env.scope as ks es vals = true → PPs X p es vals (trD X.K cv W ks as)
  | .nil, ks, X, W, es, vals, p, G, tk, hc, h => by
    match ks, es, vals, h with
    | [], [], [], _ => exact pps_nil
    | _ :: _, _, _, h => simp [okD] at h
    | [], _ :: _, _, h => simp [okD] at h
    | [], [], _ :: _, h => simp [okD] at h
  | .cons a as, ks, X, W, es, vals, p, G, tk, hc, h => by
    match ks, es, vals, h with
    | k :: ks, some e :: es, v :: vals, h =>
      have h : (keyB k e && okE X.N X.env.scope a v && okD X.N X.env.scope as ks es vals) = true := by simpa [okD] using h
      obtain ⟨g3, h3⟩ := and_of h
      obtain ⟨h1, h2⟩ := and_of g3
      exact pps_cons (pe_key h1) (sE a G tk hc.1 h2).pe (sD as ks G tk hc.2 h3)
    | [], _, _, h => simp [okD] at h
    | _ :: _, [], _, h => simp [okD] at h
    | _ :: _, none :: _, _, h => simp [okD] at h
    | _ :: _, some _ :: _, [], h => simp [okD] at h
theorem sO : ∀ (a : A) {X : Cx} {W : WX} {e : Option Expr}, Good kk X → Takes X W → a.calls (CallOk cv kk X) → okO X.N X.env.scope a e = true → PO X e (tOs X.K cv W a)
  | .nil, X, W, e, G, tk, hc, h => by
    unfold okO at h
    split at h
    · exact so_nil
    · cases h
  | .cons a as, X, W, e, G, tk, hc, h => by
    unfold okO at h
    split at h
    · exact so_some (sE a G tk hc.1 h)
    · cases h
theorem sT : ∀ (a : A) {X : Cx} {es : List Expr}, Good kk X → a.calls (CallOk cv kk X) → okT X.N X.env.scope a es = true → PTs X es (tIf1 X.K a)
  | .nil, X, e, G, hc, h => by
    unfold okT at h
    split at h
    · exact st_nil
    · cases h
  | .cons a as, X, e, G, hc, h => by
    unfold okT at h
    split at h
    · exact st_one (sE a G takes0 hc.1 h)
    · cases h
theorem sA : ∀ (as : A) {X : Cx} {W : WX} {es : List Expr}, Good kk X → Takes X W → as.calls (CallOk cv kk X) → okA X.N X.env.scope as es = true → PA X es (tAs X.K cv W as)
  | .nil, X, W, e, G, tk, hc, h => by
    unfold okA at h
    split at h
    · exact sa_nil
    · cases h
  | .cons a as, X, W, e, G, tk, hc, h => by
    unfold okA at h
    split at h
    · obtain ⟨g3, h3⟩ := and_of h
      obtain ⟨h1, h2⟩ := and_of g3
      exact sa_cons h1 (sE a G tk hc.1 h2) (sA as G tk hc.2 h3)
    · cases h
theorem sI : ∀ (it : I) {X : Cx} {W : WX} {tg e : Expr} {tup : Bool}, Good kk X → Takes X W → it.calls (CallOk cv kk X) → (tup = true → ∃ es j p, tg = .Tuple es j p) → okI X.N X.env.scope it tup e = true → PI X tg e (tIs X.K cv W it)
  | .r1 a, X, W, tg, e, tup, G, tk, hc, ht, h => by
    unfold okI at h
    split at h
    · obtain ⟨g4, h4⟩ := and_of h
      obtain ⟨g3, h3⟩ := and_of g4
      obtain ⟨h1, h2⟩ := and_of g3
      exact si_r1 G (dec_of h2) h3 h1 (sE a G tk hc h4)
    · cases h
  | .r2 a b, X, W, tg, e, tup, G, tk, hc, ht, h => by
    unfold okI at h
    split at h
    · obtain ⟨g6, h6⟩ := and_of h
      obtain ⟨g5, h5⟩ := and_of g6
      obtain ⟨g4, h4⟩ := and_of g5
      obtain ⟨g3, h3⟩ := and_of g4
      obtain ⟨h1, h2⟩ := and_of g3
      exact si_r2 G (dec_of h3) h4 h1 h2 (sE a G tk hc.1 h5) (sE b G tk hc.2 h6)
    · cases h
  | .r3 a b c, X, W, tg, e, tup, G, tk, hc, ht, h => by
    unfold okI at h
    split at h
    · obtain ⟨g7, h7⟩ := and_of h
      obtain ⟨g6, h6⟩ := and_of g7
      obtain ⟨g5, h5⟩ := and_of g6
      obtain ⟨g4, h4⟩ := and_of g5
      obtain ⟨g3, h3⟩ := and_of g4
      obtain ⟨h1, h2⟩ := and_of g3
      exact si_r3 G (dec_of h4) h5 h1 h2 h3 (sE a G tk hc.1 h6) (sE b G tk hc.2 h7)
    · cases h
  | .lst a, X, W, tg, e, tup, G, tk, hc, ht, h => by
    unfold okI at h
    exact si_lst (sE a G tk hc h)
  | .tup a, X, W, tg, e, tup, G, tk, hc, ht, h => by
    unfold okI at h
    exact si_tup (sE a G tk hc h)
  | .str a, X, W, tg, e, tup, G, tk, hc, ht, h => by
    unfold okI at h
    exact si_str (sE a G tk hc h)
  | .enum a, X, W, tg, e, tup, G, tk, hc, ht, h => by
    unfold okI at h
    split at h
    · obtain ⟨g5, h5⟩ := and_of h
      obtain ⟨g4, h4⟩ := and_of g5
      obtain ⟨g3, h3⟩ := and_of g4
      obtain ⟨h1, h2⟩ := and_of g3
      obtain ⟨es, j, p, rfl⟩ := ht h1
      exact si_enum G (dec_of h3) h4 h2 (sE a G tk hc h5)
    · cases h
end
end
end T

/-! T: statements: the checker, soundness. -/
namespace T
open PySem L2 PyProof.Rows
/-! ### the checker -/
def noSwap : Expr → Bool
  | .ListComp _ _ _ _ => false
  | .SetComp _ _ _ _ => false
  | .DictComp _ _ _ _ _ => false
  | _ => true
def notTup : Expr → Bool
  | .Tuple _ _ _ => false
  | _ => true
/-- a name's store of a value that doesn't take the name's place over -/
def keepB (sc : Scope) (x : Str) (v : Expr) : Bool := noSwap v || (match sc.names.lookup x with | some .cell => true | _ => false)
def takeB (sc : Scope) (x : Str) (p : Pos) : Expr → Bool
  | .ListComp _ _ scope p2 => (match sc.names.lookup x with | some .local => true | _ => false) && p.line == p2.line && !(scope.names.any fun (n, k) => n == x && (k == .local || k == .cell))
  | _ => false
def augOk : BOp → Bool
  | .add => true
  | .sub => true
  | .mul => true
  | _ => false
def metB (N : List Str) (sc : Scope) (i : Nat) (m : String) (o : Expr) (a : Str) (p q : Pos) : Bool := match o with
  | .Name x _ => varB N sc i x && decide (a = Str.ofString m) && p.endLine == q.line
  | _ => false
/-- isinstance(e, cl), e at the place i -/
def isxB (N : List Str) (sc : Scope) (i : Nat) (cl : Str) : Expr → Bool
  | .Call (.Name f _) [.Name n _, .Name t _] [] _ => decide (f = ("isinstance" : Str)) && glB sc f && varB N sc i n && decide (t = cl) && glB sc t
  | _ => false
def isxs (N : List Str) (sc : Scope) (i : Nat) : List Str → List Expr → Bool
  | [], [] => true
  | cl :: cls, e :: es => isxB N sc i cl e && isxs N sc i cls es
  | _, _ => false
/-- the suite of a handler that tells the classes of what was caught -/
def hdlT (N : List Str) (sc : Scope) (i j : Nat) (l1 l2 : List Str) (l3 : Str) : List Stmt → Bool
  | [.Assign [.Name y1 _] (.List es1 _) _, .Assign [.Name y2 _] (.BinOp (.Name y3 _) op (.List es2 _) _) _, .Expr (.Call (.Attribute o at' p) [.UnaryOp .Not e3 _] [] q) _] =>
    decide (N[j]? = some y1) && locB sc y1 && decide (N[j]? = some y2) && varB N sc j y3 && decide (op = Operator.Add) && metB N sc j "append" o at' p q && isxs N sc i l1 es1 && isxs N sc i l2 es2 && isxB N sc i l3 e3 && decide (l1.length ≤ 20) && decide (l2.length ≤ 20)
  | _ => false
/-- the suite of a handler that keeps what was caught -/
def hdlK (N : List Str) (sc : Scope) (i j : Nat) : List Stmt → Bool
  | [.Assign [.Name y _] (.Name n _) _] => decide (N[j]? = some y) && locB sc y && varB N sc i n
  | _ => false
/-- the suite of a handler that puts None -/
def hdlO (N : List Str) (sc : Scope) (j : Nat) : List Stmt → Bool
  | [.Assign [.Name y _] v _] => decide (N[j]? = some y) && locB sc y && okE N sc .non v
  | _ => false
def catB (N : List Str) (sc : Scope) (i : Nat) (x n : Str) : Bool := decide (x = ("RowError" : Str)) && glB sc x && decide (N[i]? = some n) && lclB sc n
mutual
def okS (N : List Str) (sc : Scope) : S → Stmt → Bool
  | .asg i e => fun st => match st with
    | .Assign [.Name x _] v _ => decide (N[i]? = some x) && locB sc x && keepB sc x v && okE N sc e v
    | _ => false
  | .asgC i e => fun st => match st with
    | .Assign [.Name x p] v _ => decide (N[i]? = some x) && takeB sc x p v && okE N sc e v
    | _ => false
  | .asgT is e => fun st => match st with
    | .Assign [.Tuple es j p] v _ => notTup v && noSwap v && targB locB N sc is true (.Tuple es j p) && okE N sc e v
    | _ => false
  | .setI i x e => fun st => match st with
    | .Assign [.Subscript o ix _] v _ => noSwap v && plainX ix && okE N sc (.var i) o && okE N sc x ix && okE N sc e v
    | _ => false
  | .aug i o e => fun st => match st with
    | .AugAssign (.Name x _) op v _ => augOk o && decide (o.py = op) && decide (N[i]? = some x) && locB sc x && okE N sc e v
    | _ => false
  | .exp e => fun st => match st with
    | .Expr v _ => noSwap v && okE N sc e v
    | _ => false
  | .app i e => fun st => match st with
    | .Expr (.Call (.Attribute o a p) [v] [] q) _ => metB N sc i "append" o a p q && plainX v && okE N sc e v
    | _ => false
  | .ext i e => fun st => match st with
    | .Expr (.Call (.Attribute o a p) [v] [] q) _ => metB N sc i "extend" o a p q && plainX v && okE N sc e v
    | _ => false
  | .rem i e => fun st => match st with
    | .Expr (.Call (.Attribute o a p) [v] [] q) _ => metB N sc i "remove" o a p q && plainX v && okE N sc e v
    | _ => false
  | .pop i => fun st => match st with
    | .Expr (.Call (.Attribute o a p) [] [] q) _ => metB N sc i "pop" o a p q
    | _ => false
  | .clr i => fun st => match st with
    | .Expr (.Call (.Attribute o a p) [] [] q) _ => metB N sc i "clear" o a p q
    | _ => false
  | .popTo j i => fun st => match st with
    | .Assign [.Name x _] (.Call (.Attribute o a p) [] [] q) _ => decide (N[j]? = some x) && locB sc x && metB N sc i "pop" o a p q
    | _ => false
  | .ret e => fun st => match st with
    | .Return (some v) _ => okE N sc e v
    | _ => false
  | .ite c a b => fun st => match st with
    | .If t x y _ => okE N sc c t && okB N sc a x && okB N sc b y
    | _ => false
  | .loop is tup it b => fun st => match st with
    | .For tg iter body [] _ => plainX iter && targB locB N sc is tup tg && okI N sc it tup iter && okB N sc b body
    | _ => false
  | .whl c b => fun st => match st with
    | .While t body [] _ => okE N sc c t && okB N sc b body
    | _ => false
  | .rais c => fun st => match st with
    | .Raise (some (.Call (.Name x _) [.Constant (.str _) _ _] [] _)) none _ => decide (x = c) && glB sc x
    | _ => false
  | .asgL is e => fun st => match st with
    | .Assign [.Tuple es j p] v _ => notTup v && noSwap v && targB locB N sc is true (.Tuple es j p) && okE N sc e v
    | _ => false
  | .retN => fun st => match st with
    | .Return none _ => true
    | _ => false
  | .pass => fun st => match st with
    | .Pass _ => true
    | _ => false
  | .setF c f i e => fun st => match st with
    | .Assign [.Attribute o x _] v _ => decide (x = f) && noSwap v && okE N sc (.var i) o && okE N sc e v
    | _ => false
  | .appE a e => fun st => match st with
    | .Expr (.Call (.Attribute o x p) [v] [] q) _ => decide (x = ("append" : Str)) && noCall o && (p.endLine == q.line) && plainX v && okE N sc a o && okE N sc e v
    | _ => false
  | .setK a k e => fun st => match st with
    | .Assign [.Subscript o ix _] v _ => noSwap v && plainX ix && okE N sc a o && okE N sc k ix && okE N sc e v
    | _ => false
  | .tryO c b j => fun st => match st with
    | .Try body [.ExceptHandler (some (.Name x _)) none (b₀ :: suite) _] [] [] _ => decide (x = c) && glB sc x && hdlO N sc j (b₀ :: suite) && okB N sc b body
    | _ => false
  | .setB a k e => fun st => match st with
    | .Assign [.Subscript o ix _] v _ => noSwap v && plainX ix && okE N sc a o && okE N sc k ix && okE N sc e v
    | _ => false
  | .tryT cs b i j l1 l2 l3 => fun st => match st with
    | .Try body [.ExceptHandler (some (.Name x _)) (some n) (b₀ :: suite) _] [] [] _ => catB N sc i x n && decide (i ≠ j) && hdlT N sc i j l1 l2 l3 (b₀ :: suite) && okB N sc b body
    | _ => false
  | .tryK cs b i j => fun st => match st with
    | .Try body [.ExceptHandler (some (.Name x _)) (some n) (b₀ :: suite) _] [] [] _ => catB N sc i x n && decide (i ≠ j) && hdlK N sc i j (b₀ :: suite) && okB N sc b body
    | _ => false
def okB (N : List Str) (sc : Scope) : B → List Stmt → Bool
  | .nil => fun l => match l with
    | [] => true
    | _ => false
  | .cons s b => fun l => match l with
    | st :: r => okS N sc s st && okB N sc b r
    | _ => false
  | .frz _ b => fun l => okB N sc b l
end
/-! ### what is called, what is raised -/
mutual
def S.calls (p : Str → Need → Prop) (q : Str → Prop) : S → Prop
  | .asg _ e => e.calls p
  | .asgC _ e => e.calls p
  | .asgT _ e => e.calls p
  | .setI _ x e => x.calls p ∧ e.calls p
  | .aug _ _ e => e.calls p
  | .exp e => e.calls p
  | .app _ e => e.calls p
  | .ext _ e => e.calls p
  | .rem _ e => e.calls p
  | .pop _ => True
  | .clr _ => True
  | .popTo _ _ => True
  | .ret e => e.calls p
  | .ite c a b => c.calls p ∧ a.calls p q ∧ b.calls p q
  | .loop _ _ it b => it.calls p ∧ b.calls p q
  | .whl c b => c.calls p ∧ b.calls p q
  | .rais c => q c
  | .retN => True
  | .asgL _ e => e.calls p
  | .pass => True
  | .setF c f _ e => p f (.fld c) ∧ e.calls p
  | .appE a e => a.calls p ∧ e.calls p
  | .setK a k e => a.calls p ∧ k.calls p ∧ e.calls p
  | .setB a k e => a.calls p ∧ k.calls p ∧ e.calls p
  | .tryO c b _ => p c (.cat [c]) ∧ b.calls p q
  | .tryT cs b _ _ l1 l2 l3 => p "RowError" (.cat cs) ∧ needAll p (.isa cs) l1 ∧ needAll p (.isa cs) l2 ∧ p l3 (.isa cs) ∧ b.calls p q
  | .tryK cs b _ _ => p "RowError" (.cat cs) ∧ b.calls p q
def B.calls (p : Str → Need → Prop) (q : Str → Prop) : B → Prop
  | .nil => True
  | .cons s b => s.calls p q ∧ b.calls p q
  | .frz _ b => b.calls p q
end
def RaisOk (cv : Str → Value) (K : Frag) (mg : Str → Option Value) (c : Str) : Prop :=
  ∃ C, cv c = .ref C ∧ mg c = some (.ref C) ∧ PySem.W.keepIn K (.ref C) = true ∧ PySem.W.excIn K C [.type "ValueError", .type "Exception", .type "BaseException", .type "object"] "ValueError.__new__" = true ∧
    PySem.W.subIn K (.ref C) (.type "BaseException") = some true ∧ PySem.W.typeIn K (.ref C) = some (.type "type")
structure GoodS (k : Nat) (W : WX) (X : Cx) : Prop where
  g : Good k X
  tk : Takes X W
  pass : PassesOwn (model X.prog X.w) X.A X.env X.xe
  loc : locOk locB X
  fk : X.env.scope.kind = .function
  stk : X.stack = X.env :: X.outer
  frm : X.env.frame = some X.env.locals
  ex0 : X.ex = []
/-! ### readings -/
def HXs (K : Frag) (Z : Wd) (cv : Str → Value) (W : WX) (x : XS) : Prop :=
  ∀ c ρ' M', x c ρ' M' → ∀ σ' G' H', Rel K Z G' H' M' σ' ρ' → W (cv c) none σ' H'
structure Kont (K : Frag) (Z : Wd) (cv : Str → Value) (W : WX) (n : NK) (r : DK) (x : XS) (D : Ends) : Prop where
  n : ∀ ρ' M', n ρ' M' → ∀ σ' G' H', Rel K Z G' H' M' σ' ρ' → D.nx σ' H'
  r : ∀ d M', r d M' → ∀ v G' H', Base K G' H' M' → Tr Z.G Z.H Z.M G' H' M' → Rep K G' v d → D.rt v H'
  x : HXs K Z cv W x
def tS (K : Frag) (cv : Str → Value) (W : WX) (s : S) : TS := fun D σ H => ∃ Z G M ρ n r x, Rel K Z G H M σ ρ ∧ wpS s ρ M n r x ∧ Kont K Z cv W n r x D
def tBs (K : Frag) (cv : Str → Value) (W : WX) (s : B) : TS := fun D σ H => ∃ Z G M ρ n r x, Rel K Z G H M σ ρ ∧ wpB s ρ M n r x ∧ Kont K Z cv W n r x D
section
variable {X : Cx} {kk : Nat} {cv : Str → Value} {W : WX} {a b c d : E} {ea eb ec ed : Expr} {pos : Pos}
theorem HXs.at {K : Frag} {Z : Wd} {x : XS} (h : HXs K Z cv W x) (σ : L2.St) (ρ : Env) : HX K Z cv W σ ρ (fun c => x c ρ) := fun c M' q G' H' r => h c ρ M' q σ G' H' r
theorem Kont.next {K : Frag} {Z : Wd} {n : NK} {r : DK} {x : XS} {D : Ends} (h : Kont K Z cv W n r x D) {n' : NK} {D' : L2.St → Hp → Prop} (q : ∀ ρ' M', n' ρ' M' → ∀ σ' G' H', Rel K Z G' H' M' σ' ρ' → D' σ' H') :
    Kont K Z cv W n' r x { D with nx := D' } := ⟨q, h.r, h.x⟩
theorem atV_of {ρ : Env} {i : Nat} {k : D → Prop} (h : atV ρ i k) : ∃ d, nth ρ i = some d ∧ k d := by
  unfold atV at h
  cases e : nth ρ i with
  | none =>
    rw [e] at h
    exact h.elim
  | some d =>
    rw [e] at h
    exact ⟨d, rfl, h⟩
theorem sw_keep {x : Str} {v : Expr} {p : Pos} {l : Nat} (fk : X.env.scope.kind = .function) (h : keepB X.env.scope x v = true) : swapsWith v (some (.Name x p)) l X.env = pure false := by
  cases e : noSwap v with
  | true => cases v <;> first
    | rfl
    | cases e
  | false =>
    unfold keepB at h
    rw [e] at h
    have h : (match X.env.scope.names.lookup x with | some .cell => true | _ => false) = true := h
    have hk : X.env.kindOf x = some .cell := by
      split at h
      · assumption
      · cases h
    cases v <;> first
      | (cases e; done)
      | (unfold swapsWith
         have hcl : (NameKind.cell == NameKind.local) = false := by decide
         simp [hk, hcl])
theorem sw_take {x : Str} {elt : Expr} {gs : List Comprehension} {scope : Scope} {p p2 : Pos} {l : Nat} (fk : X.env.scope.kind = .function) (h : takeB X.env.scope x p (.ListComp elt gs scope p2) = true) :
    X.env.scope.names.lookup x = some .local ∧ swapsWith (.ListComp elt gs scope p2) (some (.Name x p)) l X.env = pure true := by
  have h : ((match X.env.scope.names.lookup x with | some .local => true | _ => false) && p.line == p2.line && !(scope.names.any fun (n, k) => n == x && (k == .local || k == .cell))) = true := h
  obtain ⟨h1, h3⟩ := and_of h
  obtain ⟨h1, h2⟩ := and_of h1
  have hk : X.env.scope.names.lookup x = some .local := by
    split at h1
    · assumption
    · cases h1
  exact ⟨hk, sw_true fk hk h2 (by simpa using h3)⟩
theorem ss_asg {i : Nat} {x : Str} {v : Expr} {p : Pos} {e : E} (G : GoodS kk W X) (h1 : X.N[i]? = some x) (h2 : locB X.env.scope x = true) (h3 : keepB X.env.scope x v = true) (he : SE X cv W e v) : PS X (.Assign [.Name x p] v pos) (tS X.K cv W (.asg i e)) :=
  (ps_set G.g.nd h1 (G.loc x h2).1 he.pe (sw_keep G.fk h3) (G.loc x h2).2).of fun D σ H ⟨Z, G, M, ρ, n, r, x, rr, w, kt⟩ => ⟨Z, G, M, ρ, _, _, rr, w, fun d M1 q v G1 H1 r1 e1 p1 => kt.n _ M1 q _ G1 H1 (r1.put p1 i), kt.x.at σ ρ⟩
theorem ss_asgT {is : List Nat} {es : List Expr} {j : Nat} {p : Pos} {v : Expr} {e : E} (G : GoodS kk W X) (h1 : notTup v = true) (h2 : noSwap v = true) (h3 : targB locB X.N X.env.scope is true (.Tuple es j p) = true) (he : SE X cv W e v) : PS X (.Assign [.Tuple es j p] v pos) (tS X.K cv W (.asgT is e)) :=
  (ps_asg he.pe (targ_ok G.g.calm G.g.nd G.loc h3) (by cases v <;> first | rfl | cases h2) (by cases v <;> first | rfl | cases h1) rfl).of fun D σ H ⟨Z, G, M, ρ, n, r, x, rr, w, kt⟩ => ⟨Z, G, M, ρ, _, _, rr, w, fun d M1 q v G1 H1 r1 e1 p1 =>
    target_go q r1 p1 fun σ2 ρ2 q2 r2 _ => kt.n ρ2 M1 q2 σ2 G1 H1 r2, kt.x.at σ ρ⟩
theorem targ_lst {es : List Expr} {j : Nat} {p : Pos} {is : List Nat} (hc : X.calm = true) (nd : X.N.Nodup) (fn : locOk locB X) (h : targB locB X.N X.env.scope is true (.Tuple es j p) = true) : PG X (.Tuple es j p) (gLst X.K is.length (gNames is)) := by
  have h' : (true && tgB locB X.N X.env.scope is es) = true := h
  rw [Bool.and_eq_true] at h'
  obtain ⟨h1, h2⟩ := tgB_each X.env is es h'.2
  exact pg_lst hc (tgs_ok nd fn is es h'.2) h1 h2
theorem ss_asgL {is : List Nat} {es : List Expr} {j : Nat} {p : Pos} {v : Expr} {e : E} (G : GoodS kk W X) (h1 : notTup v = true) (h2 : noSwap v = true) (h3 : targB locB X.N X.env.scope is true (.Tuple es j p) = true) (he : SE X cv W e v) : PS X (.Assign [.Tuple es j p] v pos) (tS X.K cv W (.asgL is e)) :=
  (ps_asg he.pe (targ_lst G.g.calm G.g.nd G.loc h3) (by cases v <;> first | rfl | cases h2) (by cases v <;> first | rfl | cases h1) rfl).of fun D σ H ⟨Z, G, M, ρ, n, r, x, rr, w, kt⟩ => ⟨Z, G, M, ρ, _, _, rr, w, fun d M1 q v G1 H1 r1 e1 p1 => by
    obtain ⟨l, f, q⟩ := asL_of q
    obtain ⟨a1, xs, rfl, g1, g2⟩ := r1.base.viewL p1 f
    have q : is.length = l.length ∧ n ((is.zip l).foldl (fun r p => put r p.1 (some p.2)) ρ) M1 := by
      cases is with
      | nil => exact q
      | cons i is => cases is <;> exact q
    exact ⟨a1, xs, rfl, g1, by rw [g2.length]; exact q.1.symm, names_go _ _ _ _ _ _ q.1 g2 r1 fun σ2 r2 w2 => kt.n _ M1 q.2 σ2 G1 H1 r2⟩, kt.x.at σ ρ⟩
theorem ss_exp {v : Expr} {e : E} (h : noSwap v = true) (he : SE X cv W e v) : PS X (.Expr v pos) (tS X.K cv W (.exp e)) :=
  (ps_expr he.pe (by cases v <;> first | rfl | cases h)).of fun D σ H ⟨Z, G, M, ρ, n, r, x, rr, w, kt⟩ => ⟨Z, G, M, ρ, _, _, rr, w, fun d M1 q v G1 H1 r1 e1 p1 => kt.n _ M1 q _ G1 H1 r1, kt.x.at σ ρ⟩
theorem ss_ret {v : Expr} {e : E} (he : SE X cv W e v) : PS X (.Return (some v) pos) (tS X.K cv W (.ret e)) :=
  (ps_ret he.pe).of fun D σ H ⟨Z, G, M, ρ, n, r, x, rr, w, kt⟩ => ⟨Z, G, M, ρ, _, _, rr, w, fun d M1 q v G1 H1 r1 e1 p1 => kt.r _ M1 q v G1 H1 r1.base r1.tr p1, kt.x.at σ ρ⟩
theorem ss_retN : PS X (.Return none pos) (tS X.K cv W .retN) := ps_retN.of fun D σ H ⟨Z, G, M, ρ, n, r, x, rr, w, kt⟩ => kt.r _ M w _ G H rr.base rr.tr .non
theorem ss_pass : PS X (.Pass pos) (tS X.K cv W .pass) := ps_pass.of fun D σ H ⟨Z, G, M, ρ, n, r, x, rr, w, kt⟩ => kt.n ρ M w σ G H rr
theorem ss_aug {i : Nat} {x : Str} {v : Expr} {p : Pos} {o : BOp} {e : E} (G : GoodS kk W X) (ho : augOk o = true) (h1 : X.N[i]? = some x) (h2 : locB X.env.scope x = true) (he : SE X cv W e v) : PS X (.AugAssign (.Name x p) o.py v pos) (tS X.K cv W (.aug i o e)) := by
  have hip : PIp X o.py (rB X.K o) := by
    intro pins s σ H x y v u Q I rx ry h
    obtain ⟨d1, d2, h1, h2, h⟩ := h
    cases o <;> first
      | (cases ho; done)
      | (cases d1 <;> cases d2 <;> simp only [bop] at h <;> cases h1 <;> cases h2)
    · exact iop_add pins s σ H _ _ v u Q I rx ry ⟨_, _, rfl, rfl, h⟩
    · exact iop_sub pins s σ H _ _ v u Q I rx ry ⟨_, _, rfl, rfl, h⟩
    · exact iop_mul pins s σ H _ _ v u Q I rx ry ⟨_, _, rfl, rfl, h.1, h.2⟩
  refine (ps_aug G.g.nd h1 (G.loc x h2).1 he.pe hip (G.loc x h2).2).of fun D σ H ⟨Z, G, M, ρ, n, r, x, rr, w, kt⟩ => ?_
  obtain ⟨d0, f, w⟩ := atV_of w
  obtain ⟨v0, s1, p0⟩ := rr.slot i d0 f
  exact ⟨v0, s1, Z, G, M, ρ, _, _, rr, w, fun d M1 q v G1 H1 r1 e1 p1 => ⟨d0, d, (p0.up e1).up r1.base.ex, p1.up r1.base.ex, bop_mono q fun z hf q => kt.n _ M1 q _ G1 H1 (r1.put (Rep.v hf) i)⟩, kt.x.at σ ρ⟩
/-- an item of a list is stored -/
theorem ss_setI {i : Nat} {x e : E} {o ix v : Expr} {p : Pos} (h2 : noSwap v = true) (h3 : plainX ix = true) (ho : SE X cv W (.var i) o) (hx : SE X cv W x ix) (he : SE X cv W e v) : PS X (.Assign [.Subscript o ix p] v pos) (tS X.K cv W (.setI i x e)) := by
  refine (ps_asg he.pe (pg_sub ho.pe hx.pe set_list (by cases ix <;> first | (intro _; rfl) | cases h3)) (by cases v <;> first | rfl | cases h2) (by cases v <;> rfl) rfl).of fun D σ H ⟨Z, G, M, ρ, n, r, y, rr, w, kt⟩ =>
    ⟨Z, G, M, ρ, _, _, rr, w, fun d M1 q v1 G1 H1 r1 e1 p1 => ?_, kt.x.at σ ρ⟩
  refine ⟨Z, G1, M1, ρ, (fun a M' => M' = M1 ∧ wpE x ρ M1 (fun dj M2 => setD M2 a dj d fun M3 => n ρ M3) (fun c => y c ρ)), (fun c => y c ρ), r1, ?_, fun a M' ⟨em, q⟩ v2 G2 H2 r2 e2 p2 => ?_, kt.x.at σ ρ⟩
  · obtain ⟨a, f, q⟩ := atV_of q
    simp only [wpE, f]
    exact ⟨trivial, q⟩
  · subst em
    refine ⟨Z, G2, M', ρ, _, _, r2, q, fun dj M2 q v3 G3 H3 r3 e3 p3 => ?_, kt.x.at σ ρ⟩
    have p2 := p2.up e3
    have p1 := (p1.up e2).up e3
    obtain ⟨ad, j, ea, ej⟩ : ∃ ad j, a = .ref ad ∧ dj = .int j := by
      cases a <;> cases dj <;> first
        | exact ⟨_, _, rfl, rfl⟩
        | exact (show False from q).elim
    subst ea ej
    cases p2
    cases p3
    unfold setD at q
    simp only at q
    cases f : M2 ad with
    | none =>
      rw [f] at q
      exact q.elim
    | some cl =>
      rw [f] at q
      cases cl with
      | lst l =>
        obtain ⟨k, hk, q⟩ := q
        obtain ⟨_, xs, h5, h6⟩ := r3.base.cell ad _ f
        obtain ⟨b, t⟩ := r3.base.writ f (h6.set p1 k)
        exact ⟨ad, xs, j, k, rfl, rfl, h5, by rw [h6.length]; exact hk, kt.n _ _ q _ _ _ (r3.go b t)⟩
      | pot lim =>
        obtain ⟨_, y1, y2, h5, hs⟩ := r3.base.cell ad _ f
        rcases q with ⟨e, q⟩ | ⟨e, q⟩
        · subst e
          obtain ⟨z, ez, q⟩ := asInt_of q
          subst ez
          cases p1
          obtain ⟨b, t⟩ := r3.base.pot (x := z) (y := y2) f hs
          exact ⟨ad, _, 0, 0, rfl, rfl, h5, rfl, kt.n _ _ q _ _ _ (r3.go b t)⟩
        · subst e
          obtain ⟨z, ez, q2⟩ := asInt_of q
          subst ez
          cases p1
          have hz : Small lim z := q2.1
          obtain ⟨b, t⟩ := r3.base.pot (x := y1) (y := z) f hz
          exact ⟨ad, _, 1, 1, rfl, rfl, h5, rfl, kt.n _ _ q2.2 _ _ _ (r3.go b t)⟩
      | exc _ => exact q.elim
      | ins _ _ => exact q.elim
      | dct _ => exact q.elim
      | bdt _ => exact q.elim
end
end T

/-! T: soundness of the statements, of a def. -/
namespace T
open PySem L2 PyProof.Rows
section
variable {X : Cx} {kk : Nat} {cv : Str → Value} {W : WX} {a b c d : E} {ea eb ec ed : Expr} {pos : Pos}
theorem sb_nil : PSs X [] (tBs X.K cv W .nil) := pss_nil.of fun D σ H ⟨Z, G, M, ρ, n, r, x, rr, w, kt⟩ => kt.n ρ M w σ G H rr
theorem sb_cons {s : S} {bl : B} {st : Stmt} {rest : List Stmt} (hs : PS X st (tS X.K cv W s)) (hb : PSs X rest (tBs X.K cv W bl)) : PSs X (st :: rest) (tBs X.K cv W (.cons s bl)) :=
  (pss_cons hs hb).of fun D σ H ⟨Z, G, M, ρ, n, r, x, rr, w, kt⟩ => ⟨Z, G, M, ρ, _, r, x, rr, w, kt.next fun ρ' M' q σ' G' H' r' => ⟨Z, G', M', ρ', n, r, x, r', q, kt⟩⟩
theorem sb_frz {i : Nat} {bl : B} {sts : List Stmt} (hb : PSs X sts (tBs X.K cv W bl)) : PSs X sts (tBs X.K cv W (.frz i bl)) := by
  refine hb.of fun D σ H ⟨Z, G, M, ρ, n, r, x, rr, w, kt⟩ => ?_
  obtain ⟨d, f, q⟩ := atV_of w
  obtain ⟨v, s1, p1⟩ := rr.slot i d f
  cases d with
  | ref p =>
    cases p1
    have q : (match M p with | some (.lst l) => wpB bl (put ρ i (some (.lst l))) (mdel M p) n r x | _ => False) := q
    cases e : M p with
    | none =>
      rw [e] at q
      exact q.elim
    | some cl =>
      rw [e] at q
      cases cl with
      | pot => exact (show False from q).elim
      | exc _ => exact (show False from q).elim
      | ins _ _ => exact (show False from q).elim
      | dct _ => exact (show False from q).elim
      | bdt _ => exact (show False from q).elim
      | lst l =>
        obtain ⟨xs, h1, h2, h3, h4⟩ := rr.base.froz e
        have r2 := (rr.go h2 h3).put h4 i
        have es : σ.set i (some (.ref p)) = σ := by
          refine List.ext_getElem? fun j => ?_
          by_cases hj : i = j
          · subst hj
            rw [s1, List.getElem?_set_self (List.getElem?_eq_some_iff.mp s1).1]
          · rw [List.getElem?_set_ne hj]
        rw [es] at r2
        exact ⟨Z, _, _, _, n, r, x, r2, q, kt⟩
  | _ => exact (show False from q).elim
theorem ss_ite {bl1 bl2 : B} {l1 l2 : List Stmt} (hc : SE X cv W c ec) (h1 : PSs X l1 (tBs X.K cv W bl1)) (h2 : PSs X l2 (tBs X.K cv W bl2)) : PS X (.If ec l1 l2 pos) (tS X.K cv W (.ite c bl1 bl2)) :=
  (ps_if hc.pt h1 h2).of fun D σ H ⟨Z, G, M, ρ, n, r, x, rr, w, kt⟩ => ⟨Z, G, M, ρ, (fun t M1 => if t = true then wpB bl1 ρ M1 n r x else wpB bl2 ρ M1 n r x), _, rr, w, fun t M1 q G1 H1 r1 e1 => by
    cases t with
    | true => exact iteT ⟨Z, G1, M1, ρ, n, r, x, r1, q, kt⟩
    | false => exact iteF ⟨Z, G1, M1, ρ, n, r, x, r1, q, kt⟩, kt.x.at σ ρ⟩
theorem ss_whl {bl : B} {l : List Stmt} (G : GoodS kk W X) (hc : SE X cv W c ec) (hb : PSs X l (tBs X.K cv W bl)) : PS X (.While ec l [] pos) (tS X.K cv W (.whl c bl)) := by
  refine (ps_while G.pass hc.pt hb).of fun D σ H ⟨Z, G, M, ρ, n, r, x, rr, ⟨f, w⟩, kt⟩ => ?_
  refine ⟨fun f σ H => ∃ G M ρ, Rel X.K Z G H M σ ρ ∧ wloop (fun ρ1 M1 q => wpE c ρ1 M1 (fun d M2 => asBl d fun t => q t M2) (fun c => x c ρ1)) (fun ρ1 M1 n1 => wpB bl ρ1 M1 n1 r x) n f ρ M, ⟨f, G, M, ρ, rr, w⟩, ?_⟩
  rintro f σ H ⟨G, M, ρ, rr, w⟩
  cases f with
  | zero => exact w.elim
  | succ f =>
    refine ⟨Z, G, M, ρ, _, _, rr, w, fun t M1 q G1 H1 r1 e1 => ?_, kt.x.at σ ρ⟩
    cases t with
    | false => exact iteF (kt.n ρ M1 q σ G1 H1 r1)
    | true =>
      refine iteT ⟨fun σ' H' => ∃ G M ρ, Rel X.K Z G H' M σ' ρ ∧ wloop (fun ρ1 M1 q => wpE c ρ1 M1 (fun d M2 => asBl d fun t => q t M2) (fun c => x c ρ1)) (fun ρ1 M1 n1 => wpB bl ρ1 M1 n1 r x) n f ρ M,
        fun σ' H' h => ⟨f, Nat.lt_succ_self f, h⟩, Z, G1, M1, ρ, _, r, x, r1, q, ⟨fun ρ' M' q σ' G' H' r' => ⟨G', M', ρ', r', q⟩, kt.r, kt.x⟩⟩
theorem ss_loop {is : List Nat} {tup : Bool} {it : I} {bl : B} {l : List Stmt} {tg iter : Expr} (G : GoodS kk W X) (hp : plainX iter = true) (ht : targB locB X.N X.env.scope is tup tg = true) (hi : PI X tg iter (tIs X.K cv W it)) (hb : PSs X l (tBs X.K cv W bl)) :
    PS X (.For tg iter l [] pos) (tS X.K cv W (.loop is tup it bl)) := by
  refine (ps_for G.pass G.g.calm hi (targ_ok G.g.calm G.g.nd G.loc ht) hb (fold_plain hp)).of fun D σ H ⟨Z, G, M, ρ, n, r, x, rr, w, kt⟩ => ⟨Z, G, M, ρ, _, _, rr, w, fun ds g M1 q J G1 H1 r1 e1 wk => ?_, kt.x.at σ ρ⟩
  generalize hstep : (fun (d : T.D) (ρ1 : Env) (M2 : Mp) (n1 : Env → Mp → Prop) => target ρ1 is tup d fun ρ2 => wpB bl ρ2 M2 n1 r x) = step at q
  refine ⟨fun i m σ H => ∃ G2 M2 ρ2, Rel X.K Z G2 H M2 σ ρ2 ∧ Ex G1 G2 ∧ i ≤ ds.length ∧ m = ds.length - i ∧ floop g step (ds.drop i) ρ2 M2 n, ⟨ds.length, G1, M1, ρ, r1, Ex.refl _, Nat.zero_le _, (Nat.sub_zero _).symm, by rw [List.drop_zero]; exact q⟩, ?_⟩
  rintro i m σ2 H2 ⟨G2, M2, ρ2, r2, e2, hle, rfl, q⟩
  by_cases hlt : i < ds.length
  · right
    obtain ⟨d, hd⟩ : ∃ d, ds[i]? = some d := ⟨_, List.getElem?_eq_getElem hlt⟩
    have hdrop : ds.drop i = d :: ds.drop (i + 1) := by
      rw [List.drop_eq_getElem_cons hlt]
      congr 1
      rw [List.getElem?_eq_getElem hlt] at hd
      exact Option.some.inj hd
    rw [hdrop] at q
    obtain ⟨gm, q⟩ := q
    refine ⟨wk.go Z i G2 H2 M2 _ _ r2 e2 gm hlt, fun σ' H' => ∃ G3 M3 ρ3, Rel X.K Z G3 H' M3 σ' ρ3 ∧ Ex G1 G3 ∧ floop g step (ds.drop (i + 1)) ρ3 M3 n, fun σ' H' ⟨G3, M3, ρ3, h1, h2, h3⟩ => ⟨ds.length - (i + 1), by omega, G3, M3, ρ3, h1, h2, hlt, rfl, h3⟩, fun y H3 hy => ?_⟩
    obtain ⟨G3, b3, t3, p3⟩ := wk.yld Z i G2 H2 M2 _ _ y H3 d r2 e2 gm hd hy
    have r3 : Rel X.K ⟨G3, H3, M2⟩ G3 H3 M2 σ2 ρ2 := r2.at t3.g b3 .refl
    rw [← hstep] at q
    refine target_go q r3 p3 fun σ4 ρ4 q4 r4 _ => ⟨⟨G3, H3, M2⟩, G3, M2, ρ4, _, r, x, r4, q4, ⟨fun ρ' M' q5 σ' G' H' r' => ?_, fun d M' q5 v G' H' b t p => kt.r d M' q5 v G' H' b ((r2.tr.trans t3).trans t) p, fun c ρ' M' q5 σ' G' H' r' => kt.x c ρ' M' q5 σ' G' H' (r'.at (Ex.refl _) r'.base ((r2.tr.trans t3).trans r'.tr))⟩⟩
    have q5 := (show floop g _ (ds.drop (i + 1)) ρ' M' n from q5)
    rw [hstep] at q5
    exact ⟨G', M', ρ', r'.at (Ex.refl _) r'.base ((r2.tr.trans t3).trans r'.tr), (e2.trans t3.g).trans r'.tr.g, q5⟩
  · left
    have hii : i = ds.length := by omega
    subst hii
    rw [List.drop_length] at q
    obtain ⟨gm, q⟩ := q
    exact ⟨wk.stop Z G2 H2 M2 _ _ r2 e2 gm, kt.n ρ2 M2 q σ2 G2 H2 r2⟩
/-! ### methods of lists -/
theorem met_of {i : Nat} {m : String} {o : Expr} {at' : Str} {p q : Pos} (h : metB X.N X.env.scope i m o at' p q = true) : ∃ x px, o = .Name x px ∧ varB X.N X.env.scope i x = true ∧ at' = Str.ofString m ∧ (p.endLine == q.line) = true := by
  unfold metB at h
  split at h
  · obtain ⟨h1, h3⟩ := and_of h
    obtain ⟨h1, h2⟩ := and_of h1
    exact ⟨_, _, rfl, h1, dec_of h2, h3⟩
  · cases h
theorem few_one {v : Expr} {q : Pos} (hp : plainX v = true) : ((backTo q (starEach [v] X.env)).all (fun x => !x.1) && (backToKw q (keywordEach [] X.env)).all (fun x => x.1.isSome)
      && decide (([v] : List Expr).length + ([] : List Keyword).length + (if ([] : List Keyword).isEmpty then 0 else 1) < 30)) = true := by
  rw [star_plain hp]
  rfl
theorem lst_at {K : Frag} {Z : Wd} {G H : Hp} {M : Mp} {σ : L2.St} {ρ : Env} {p : Addr} {l : List D} (r : Rel K Z G H M σ ρ) (e : M p = some (.lst l)) : ∃ xs, H p = some (.lst xs) ∧ Reps K G xs l := (r.base.cell p _ e).2
theorem tyv_list {K : Frag} {H : Hp} {p : Addr} {xs : List V} (h : H p = some (.lst xs)) : tyV K "list" (.ref p) H := .inl ⟨rfl, xs, .inl (.inl h)⟩
theorem ref_cases {M : Mp} {a : D} {k : Mp → Prop} {ds : List D} (h : appD M a ds k) : ∃ p l, a = .ref p ∧ M p = some (.lst l) ∧ l.length + ds.length ≤ 1000000 ∧ k (mset M p (.lst (l ++ ds))) := by
  unfold appD at h
  split at h
  · split at h
    · exact ⟨_, _, rfl, by assumption, h.1, h.2⟩
    · exact h.elim
  · exact h.elim
theorem pop_cases {M : Mp} {a : D} {k : DK} (h : popD M a k) : ∃ p l d, a = .ref p ∧ M p = some (.lst l) ∧ l[l.length - 1]? = some d ∧ k d (mset M p (.lst l.dropLast)) := by
  unfold popD at h
  split at h
  · split at h
    · obtain ⟨d, h1, h2⟩ := h
      exact ⟨_, _, d, rfl, by assumption, h1, h2⟩
    · exact h.elim
  · exact h.elim
theorem clr_cases {M : Mp} {a : D} {k : Mp → Prop} (h : clrD M a k) : ∃ p l, a = .ref p ∧ M p = some (.lst l) ∧ k (mset M p (.lst [])) := by
  unfold clrD at h
  split at h
  · split at h
    · exact ⟨_, _, rfl, by assumption, h⟩
    · exact h.elim
  · exact h.elim
theorem rem_cases {M : Mp} {a d : D} {k : Mp → Prop} (h : remD M a d k) : ∃ p l z ns j, a = .ref p ∧ d = .int z ∧ M p = some (.lst l) ∧ intsOf l = some ns ∧ ns[j]? = some z ∧ (∀ m : Nat, m < j → ns[m]? ≠ some z) ∧ k (mset M p (.lst ((ns.eraseIdx j).map D.int))) := by
  unfold remD at h
  split at h
  · split at h
    · obtain ⟨ns, j, h1, h2, h3, h4⟩ := h
      exact ⟨_, _, _, ns, j, rfl, rfl, by assumption, h1, h2, h3, h4⟩
    · exact h.elim
  · exact h.elim
theorem line_small {n : Nat} (h : n + 1 ≤ 1000000) : n < sizeLine := by
  rw [PySem.sizeLine_eq]
  omega
theorem line_small2 {n : Nat} (h : n ≤ 1000000) : n ≤ sizeLine := by
  rw [PySem.sizeLine_eq]
  omega
theorem isL_of {K : Frag} {Z : Wd} {G H : Hp} {M : Mp} {σ : L2.St} {ρ : Env} {a : T.D} {v : V} (r : Rel K Z G H M σ ρ) (p : Rep K G v a) (h : isL M a) : tyV K "list" v H := by
  unfold isL at h
  split at h
  · split at h
    · rename_i l hm
      cases p
      obtain ⟨xs, h5, _⟩ := lst_at r hm
      exact tyv_list h5
    · exact h.elim
  · exact h.elim
theorem ss_app {i : Nat} {e : E} {o v : Expr} {at' : Str} {p q : Pos} (h1 : metB X.N X.env.scope i "append" o at' p q = true) (hp : plainX v = true) (he : SE X cv W e v) : PS X (.Expr (.Call (.Attribute o at' p) [v] [] q) pos) (tS X.K cv W (.app i e)) := by
  obtain ⟨x, px, rfl, hv, rfl, hl⟩ := met_of h1
  refine (ps_expr (pe_bm PySem.F.plainAttrs_list PySem.F.slot_list_append PySem.F.type_list_append mt_append (pe_vars hv) (pa_of hp he.pe pa_nil) rfl (few_one hp) hl (star_plain hp) rfl)).of fun D σ H ⟨Z, G, M, ρ, n, r, x, rr, w, kt⟩ => ?_
  obtain ⟨a, f, hL, w⟩ := atV_of w
  obtain ⟨v0, s1, p0⟩ := rr.slot i a f
  refine ⟨v0, s1, isL_of rr p0 hL, Z, G, M, ρ, (fun d M1 => appD M1 a [d] fun M2 => n ρ M2), _, rr, w, fun d M1 q v G1 H1 r1 e1 p1 => ?_, kt.x.at σ ρ⟩
  obtain ⟨p, l, rfl, hm, hz, q⟩ := ref_cases q
  cases p0
  obtain ⟨xs, h5, h6⟩ := lst_at r1 hm
  obtain ⟨b, t⟩ := r1.base.writ hm (h6.append (.cons p1 .nil))
  exact ⟨p, xs, v, rfl, rfl, h5, by rw [h6.length]; exact line_small hz, kt.n _ _ q _ _ _ (r1.go b t)⟩
theorem ss_ext {i : Nat} {e : E} {o v : Expr} {at' : Str} {p q : Pos} (h1 : metB X.N X.env.scope i "extend" o at' p q = true) (hp : plainX v = true) (he : SE X cv W e v) : PS X (.Expr (.Call (.Attribute o at' p) [v] [] q) pos) (tS X.K cv W (.ext i e)) := by
  obtain ⟨x, px, rfl, hv, rfl, hl⟩ := met_of h1
  refine (ps_expr (pe_bm PySem.F.plainAttrs_list PySem.F.slot_list_extend PySem.F.type_list_extend mt_extend (pe_vars hv) (pa_of hp he.pe pa_nil) rfl (few_one hp) hl (star_plain hp) rfl)).of fun D σ H ⟨Z, G, M, ρ, n, r, x, rr, w, kt⟩ => ?_
  obtain ⟨a, f, hL, w⟩ := atV_of w
  obtain ⟨v0, s1, p0⟩ := rr.slot i a f
  refine ⟨v0, s1, isL_of rr p0 hL, Z, G, M, ρ, (fun d M1 => asL (sw M1 d) fun l => appD M1 a l fun M2 => n ρ M2), _, rr, w, fun d M1 q v G1 H1 r1 e1 p1 => ?_, kt.x.at σ ρ⟩
  obtain ⟨l2, f2, q⟩ := asL_of q
  obtain ⟨b2, ys, rfl, g1, g2⟩ := r1.base.viewS p1 f2
  obtain ⟨p, l, rfl, hm, hz, q⟩ := ref_cases q
  cases p0
  obtain ⟨xs, h5, h6⟩ := lst_at r1 hm
  obtain ⟨b, t⟩ := r1.base.writ hm (h6.append g2)
  exact ⟨p, b2, xs, ys, rfl, rfl, h5, g1, by rw [h6.length, g2.length]; exact line_small2 hz, kt.n _ _ q _ _ _ (r1.go b t)⟩
theorem ss_rem {i : Nat} {e : E} {o v : Expr} {at' : Str} {p q : Pos} (h1 : metB X.N X.env.scope i "remove" o at' p q = true) (hp : plainX v = true) (he : SE X cv W e v) : PS X (.Expr (.Call (.Attribute o at' p) [v] [] q) pos) (tS X.K cv W (.rem i e)) := by
  obtain ⟨x, px, rfl, hv, rfl, hl⟩ := met_of h1
  refine (ps_expr (pe_bm PySem.F.plainAttrs_list PySem.F.slot_list_remove PySem.F.type_list_remove mt_remove (pe_vars hv) (pa_of hp he.pe pa_nil) rfl (few_one hp) hl (star_plain hp) rfl)).of fun D σ H ⟨Z, G, M, ρ, n, r, x, rr, w, kt⟩ => ?_
  obtain ⟨a, f, hL, w⟩ := atV_of w
  obtain ⟨v0, s1, p0⟩ := rr.slot i a f
  refine ⟨v0, s1, isL_of rr p0 hL, Z, G, M, ρ, (fun d M1 => remD M1 a d fun M2 => n ρ M2), _, rr, w, fun d M1 q v G1 H1 r1 e1 p1 => ?_, kt.x.at σ ρ⟩
  obtain ⟨p, l, z, ns, j, rfl, rfl, hm, g1, g2, g3, q⟩ := rem_cases q
  cases p0
  obtain ⟨xs, h5, h6⟩ := lst_at r1 hm
  have e6 := h6.ints g1
  subst e6
  obtain ⟨b, t⟩ := r1.base.writ hm (Reps.ofInts (K := X.K) (G := G1) (ns.eraseIdx j))
  exact ⟨p, ns, z, j, rfl, by rw [p1.int_eq], h5, g2, g3, kt.n _ _ q _ _ _ (r1.go b t)⟩
theorem Reps.dropLast {K : Frag} {G : Hp} : ∀ {vs : List V} {ds : List T.D}, Reps K G vs ds → Reps K G vs.dropLast ds.dropLast
  | _, _, .nil => .nil
  | _, _, .cons _ .nil => .nil
  | _, _, .cons h1 (.cons h2 h3) => .cons h1 (Reps.dropLast (.cons h2 h3))
theorem ss_pop {i : Nat} {o : Expr} {at' : Str} {p q : Pos} (h1 : metB X.N X.env.scope i "pop" o at' p q = true) : PS X (.Expr (.Call (.Attribute o at' p) [] [] q) pos) (tS X.K cv W (.pop i)) := by
  obtain ⟨x, px, rfl, hv, rfl, hl⟩ := met_of h1
  refine (ps_expr (pe_bm0 PySem.F.plainAttrs_list PySem.F.slot_list_pop PySem.F.type_list_pop mt_pop (pe_vars hv) rfl hl)).of fun D σ H ⟨Z, G, M, ρ, n, r, x, rr, w, kt⟩ => ?_
  obtain ⟨a, f, w⟩ := atV_of w
  obtain ⟨v0, s1, p0⟩ := rr.slot i a f
  obtain ⟨p, l, d, rfl, hm, g1, q⟩ := pop_cases w
  cases p0
  obtain ⟨xs, h5, h6⟩ := lst_at rr hm
  obtain ⟨y, g2, g3⟩ := h6.get g1
  obtain ⟨b, t⟩ := rr.base.writ hm h6.dropLast
  exact ⟨_, s1, tyv_list h5, p, xs, y, rfl, rfl, h5, by rw [h6.length]; exact g2, kt.n _ _ q _ _ _ (rr.go b t)⟩
theorem ss_clr {i : Nat} {o : Expr} {at' : Str} {p q : Pos} (h1 : metB X.N X.env.scope i "clear" o at' p q = true) : PS X (.Expr (.Call (.Attribute o at' p) [] [] q) pos) (tS X.K cv W (.clr i)) := by
  obtain ⟨x, px, rfl, hv, rfl, hl⟩ := met_of h1
  refine (ps_expr (pe_bm0 PySem.F.plainAttrs_list PySem.F.slot_list_clear PySem.F.type_list_clear mt_clear (pe_vars hv) rfl hl)).of fun D σ H ⟨Z, G, M, ρ, n, r, x, rr, w, kt⟩ => ?_
  obtain ⟨a, f, w⟩ := atV_of w
  obtain ⟨v0, s1, p0⟩ := rr.slot i a f
  obtain ⟨p, l, rfl, hm, q⟩ := clr_cases w
  cases p0
  obtain ⟨xs, h5, h6⟩ := lst_at rr hm
  obtain ⟨b, t⟩ := rr.base.writ (vs := []) (ds := []) hm .nil
  exact ⟨_, s1, tyv_list h5, p, xs, rfl, rfl, h5, kt.n _ _ q _ _ _ (rr.go b t)⟩
theorem ss_popTo {i j : Nat} {y : Str} {py : Pos} {o : Expr} {at' : Str} {p q : Pos} (G : GoodS kk W X) (g1 : X.N[j]? = some y) (g2 : locB X.env.scope y = true) (h1 : metB X.N X.env.scope i "pop" o at' p q = true) :
    PS X (.Assign [.Name y py] (.Call (.Attribute o at' p) [] [] q) pos) (tS X.K cv W (.popTo j i)) := by
  obtain ⟨x, px, rfl, hv, rfl, hl⟩ := met_of h1
  refine (ps_set G.g.nd g1 (G.loc y g2).1 (pe_bm0 PySem.F.plainAttrs_list PySem.F.slot_list_pop PySem.F.type_list_pop mt_pop (pe_vars hv) rfl hl) rfl (G.loc y g2).2).of fun D σ H ⟨Z, G, M, ρ, n, r, x, rr, w, kt⟩ => ?_
  obtain ⟨a, f, w⟩ := atV_of w
  obtain ⟨v0, s1, p0⟩ := rr.slot i a f
  obtain ⟨p, l, d, rfl, hm, g1, q⟩ := pop_cases w
  cases p0
  obtain ⟨xs, h5, h6⟩ := lst_at rr hm
  obtain ⟨y, g2, g3⟩ := h6.get g1
  obtain ⟨b, t⟩ := rr.base.writ hm h6.dropLast
  exact ⟨_, s1, tyv_list h5, p, xs, y, rfl, rfl, h5, by rw [h6.length]; exact g2, kt.n _ _ q _ _ _ ((rr.go b t).put g3 j)⟩
theorem ss_rais {x c m : Str} {p p2 p3 : Pos} {j : Nat} (G : GoodS kk W X) (hx : x = c) (hg : glB X.env.scope x = true) (hr : RaisOk cv X.K X.mg c) : PS X (.Raise (some (.Call (.Name x p) [.Constant (.str m) j p2] [] p3)) none pos) (tS X.K cv W (.rais c)) := by
  subst hx
  obtain ⟨C, e, gC, kC, xC, bC, tC⟩ := hr
  obtain ⟨g1, g2, g3⟩ := gl_of hg
  refine (ps_raise G.g.calm G.tk (pmk_own PySem.F.excBase_ValueError xC gC kC (raises_own bC tC) g1 g2)).of fun D σ H ⟨Z, G, M, ρ, n, r, y, rr, w, kt⟩ => ?_
  have h := kt.x x ρ M w σ G H rr
  rw [e] at h
  exact h
theorem comp_inv {N : List Str} {sc : Scope} {e : E} {elt : Expr} {gs : List Comprehension} {scope : Scope} {p : Pos} (h : okE N sc e (.ListComp elt gs scope p) = true) : ∃ m own tg tup it ca el, e = .comp m own tg tup it ca el := by
  cases e <;> first
    | exact ⟨_, _, _, _, _, _, _, rfl⟩
    | (exfalso; unfold okE at h; cases h; done)
    | (exfalso; unfold okE at h; exact absurd (and_of h).1 (by unfold frzX; decide))
theorem ss_asgC {i : Nat} {x : Str} {v : Expr} {p : Pos} {e : E} (G : GoodS kk W X) (hc : e.calls (CallOk cv kk X)) (h1 : X.N[i]? = some x) (h2 : takeB X.env.scope x p v = true) (h : okE X.N X.env.scope e v = true) : PS X (.Assign [.Name x p] v pos) (tS X.K cv W (.asgC i e)) := by
  cases v <;> first
    | (cases h2; done)
    | skip
  rename_i elt gs scope p2
  obtain ⟨m, own, tg, tup, it, ca, el, rfl⟩ := comp_inv h
  obtain ⟨q1, q2⟩ := sw_take (l := pos.line) G.fk h2
  unfold okE at h
  split at h
  · obtain ⟨g8, h8⟩ := and_of h
    obtain ⟨g7, h7⟩ := and_of g8
    obtain ⟨g6, h6⟩ := and_of g7
    obtain ⟨g5, h5⟩ := and_of g6
    obtain ⟨g4, h4⟩ := and_of g5
    obtain ⟨g3, h3⟩ := and_of g4
    obtain ⟨h1', h2'⟩ := and_of g3
    rename_i heq
    cases heq
    have e := dec_of h2'
    subst e
    have hin : ∀ i ∈ tg, i ∈ own.map (·.2) := fun i hi => by
      have z := List.all_eq_true.mp h6 i hi
      obtain ⟨q, hq, hz⟩ := List.any_eq_true.mp z
      exact List.mem_map.mpr ⟨q, hq, by simpa using hz⟩
    refine (ps_setLc (te := tE X.K cv W0 el) G.g.calm G.g.nd h1 q1 q2 (sI it G.g G.tk hc.1 (fun z => targ_tup (by rw [z] at h5; exact h5)) h4) (blkOk_by h3) (fun s H C cl fp => targ_ok (X := X.blk s H scope (compEnvC scope cl C X.env) fp) G.g.calm G.g.nd locOk_lcl h5) (fun s H C cl fp => sT ca (X := X.blk s H scope (compEnvC scope cl C X.env) fp) (G.g.blk s H _ _ fp) hc.2.1 h7)
      (fun s H C cl fp => (sE el (X := X.blk s H scope (compEnvC scope cl C X.env) fp) (G.g.blk s H _ _ fp) takes0 hc.2.2 h8).pe) (fold_plain h1')).of fun D σ H ⟨Z, G, M, ρ, n, r, x, rr, w, kt⟩ => comp_reads hin σ H _ ⟨Z, G, M, ρ, _, _, rr, w, fun d M1 q v G1 H1 r1 e1 p1 => kt.n _ M1 q _ G1 H1 (r1.put p1 i), kt.x.at σ ρ⟩
  · cases h
end
end T

/-! T: soundness: fields and dicts that are stored, tries. -/
namespace T
open PySem L2 PyProof.Rows
/-- an exception object -/
def ExcG (cls : Value) (d : Option Addr) (a : Addr) : HO := .ext fun h => ∃ oe, h.get? a = some oe ∧ Zc cls d oe ∧ ∃ vs, oe.data = .fields vs
section
variable {X : Cx} {pins pn' : List (Addr × Obj)} {σ : L2.St} {H : Hp} {s : Shared} {a : Addr} {oe : Obj} {cls : Value} {d : Option Addr}
/-- behind the suite the exception that was held is tracked -/
theorem track (J : Inv (X.suite a ((a, oe) :: (X.pn ++ pins))) [] σ H s) (ok : X.Ok) (hz : Zc cls d oe) (hf : ∃ vs, oe.data = .fields vs) (h0 : X.s_0.heap.get? a = none) (hp : ∀ p ∈ X.pn ++ pins, p.1 ≠ a) : Inv X pins σ (upd H a (ExcG cls d a)) s := by
  obtain ⟨g1, g2, g3, g4, g5⟩ := J.pin (a, oe) (List.mem_append.mpr (.inl List.mem_cons_self))
  have ne : ∀ {b : Addr} {u : HO}, H b = some u → b ≠ a := fun q z => by
    rw [z, g2] at q
    cases q
  have ne0 : ∀ {b : Addr} {u : Obj}, X.s_0.heap.get? b = some u → b ≠ a := fun q z => by
    rw [z, h0] at q
    cases q
  refine ⟨ok, J.os, J.bare, ⟨J.base.keep, J.base.slot, fun b u q n x => ?_, J.base.there, fun b xs q => ?_, fun b u v q => ?_, fun b ps q => ?_⟩, J.loc, J.cell, ?_, fun x c q => ?_, fun p hm => ?_, fun b u q => ?_, J.len⟩
  · rw [upd_ne (ne0 q)]
    exact J.base.free b u q n x
  · have z := J.base.tups b xs q
    rw [upd_ne (ne z)]
    exact z
  · have z := J.base.frzs b u v q
    rw [upd_ne (ne z)]
    exact z
  · obtain ⟨m, z⟩ := J.base.tbls b ps q
    exact ⟨m, by rw [upd_ne (ne z)]; exact z⟩
  · rw [upd_ne (fun z => g3 z.symm)]
    exact J.free
  · obtain ⟨v, o, c1, c2⟩ := J.cell x c q
    rw [upd_ne]
    · exact J.freeC x c q
    · intro z
      rw [z] at c1
      have c1' : s.heap.get? a = some o := c1
      rw [g1] at c1'
      cases c1'
      exact g5 v c2
  · obtain ⟨k1, k2, k3, k4, k5⟩ := J.pin p (List.mem_append_left _ (List.mem_cons_of_mem _ hm))
    exact ⟨k1, by rw [upd_ne (hp p hm)]; exact k2, k3, k4, k5⟩
  · by_cases e : b = a
    · subst e
      rw [upd_same] at q
      cases q
      refine ⟨⟨oe, g1, hz, hf⟩, ⟨oe, g1⟩, fun h1 h2 ⟨o2, p1, p2, p3⟩ k => ⟨o2, k _ p1, p2, p3⟩⟩
    · rw [upd_ne e] at q
      exact (J.hok b u q).stay (fun c v _ z => z) (fun c z => by rw [upd_ne (ne z)]; exact z) fun c xs z => by rw [upd_ne (ne z)]; exact z
/-- what a clause that keeps the exception wishes of the body -/
def wKeep (K : Frag) (c : Value) (i : Nat) (ts : Addr → Value → Option Addr → TS) (Wout : WX) (D : Ends) : WX := fun cls d σ H =>
  ∃ b, PySem.W.exmOne K cls c = some b ∧ (b = true → ∀ a, H a = none → ts a cls d { nx := fun σ' H' => H' a = none → D.nx (σ'.set i none) (upd H' a (ExcG cls d a)), rt := fun _ _ => False } (σ.set i (some (.ref a))) H) ∧ (b = false → Wout cls d σ H)
end
section
variable {X : Cx} {x n : Str} {c : Value} {i : Nat} {body suite : List Stmt} {b₀ : Stmt} {np pos pos' : Pos} {tb : WX → TS} {ts : Addr → Value → Option Addr → TS} {Wout : WX}
theorem ps_try_keep (hex : X.ex = []) (stk : X.stack = X.env :: X.outer) (frm : X.env.frame = some X.env.locals) (nd : X.N.Nodup) (hi : X.N[i]? = some n) (hln : X.env.kindOf n = some .local) (hc : Names X x c) (tk : Takes X Wout)
    (hb : ∀ (W : WX) (pn : List (Addr × Obj)) (xe : Value → Shared → Prop), Takes (X.tr pn xe) W → PassesOwn (model X.prog X.w) X.A X.env xe → PSs (X.tr pn xe) body (tb W))
    (hsu : ∀ (a : Addr) (oe : Obj) (cls : Value) (d : Option Addr) (pn : List (Addr × Obj)), Zc cls d oe → (∃ vs, oe.data = .fields vs) → PSs (X.suite a ((a, oe) :: pn)) (b₀ :: suite) (ts a cls d)) :
    PS X (.Try body [.ExceptHandler (some (.Name x np)) (some n) (b₀ :: suite) pos'] [] [] pos) (fun D σ H => tb (wKeep X.K c i ts Wout D) D σ H) := by
  constructor
  intro pins s σ H D I h
  have ok := I.ok
  have fr : X.A.frames = some (X.env :: X.outer) := by rw [ok.frames, stk]
  have lc : Loc X.env.scope n := .inl hln
  refine wpAny_Try_except (wpAny_mono ((hb (wKeep X.K c i ts Wout D) (X.pn ++ pins) (fun e s₁ => wpAny (model X.prog X.w) X.A (noteFrame e X.env) (fun _ s₂ => wpAny (model X.prog X.w) X.A (setFlight e none) (fun _ s₃ => wpAny (model X.prog X.w) X.A (handleBy e X.env [.ExceptHandler (some (.Name x np)) (some n) (b₀ :: suite) pos']) (SP X pins D) X.xe s₃) X.xe s₂) X.xe s₁)
    (fun u s' xx => ?_) PassesOwn.looking).run [] s σ H D (I.toTry _) h) (fun f s1 hsp => ?_) (fun e s1 he => he))
  · obtain ⟨a, B, sI, pins', σ', H', cls, d, rfl, J', nb, up, sky, na, os, ag, b, hb1, hyes, hno⟩ := xx
    have J := J'.ofTry ok
    have sky2 : Sky B (X.env :: X.outer) a (Zc cls d) X.env.locals s'.heap := by
      rw [← stk]
      exact sky
    show wpAny (model X.prog X.w) X.A (noteFrame (.ref a) X.env) _ _ _
    refine Sky.land Zc.steady fr frm sky2 fun h3 fl3 up3 => ?_
    have J3 : Inv X pins σ' H' { s' with heap := h3 } := J.landed nb fl3.1 (up.trans up3) os ag
    obtain ⟨oe3, vs3, he3, hz3, hd3⟩ := fl3.there
    have nfr : a ∉ frs (X.env :: X.outer) := fun hm => by
      obtain ⟨_, o2, e2, nf2⟩ := fl3.2.2.1.mem hm
      rw [he3] at e2
      cases e2
      exact nf2 _ hd3
    have nL : a ≠ X.env.locals := fun z => nfr (List.mem_filterMap.mpr ⟨X.env, List.mem_cons_self, by rw [frm, z]⟩)
    have nF : a ∉ X.fs := fun hm => by
      obtain ⟨e, he, q⟩ := List.mem_filterMap.mp hm
      exact nfr (List.mem_filterMap.mpr ⟨e, List.mem_cons_of_mem _ he, q⟩)
    have nB : B.get? a = none := fl3.2.1
    have nS : X.s_0.heap.get? a = none := by
      cases q : X.s_0.heap.get? a with
      | none => rfl
      | some o =>
        obtain ⟨o2, q2⟩ := J.base.there a o q (by rw [hex]; exact fun z => nomatch z)
        have q3 := nb a o2 q2 (by rw [stk]; exact nfr)
        rw [nB] at q3
        cases q3
    have nP : ∀ p ∈ X.pn ++ pins, p.1 ≠ a := fun p hp z => by
      obtain ⟨k1, k2, k3, k4, k5⟩ := J.pin p hp
      have q3 := nb p.1 p.2 k1 fun hm => (List.mem_cons.mp (J.stkSub _ hm)).elim k3 k4
      rw [z, nB] at q3
      cases q3
    have S3 := J3.suite he3 hd3 na nL nF
    refine wpAny_handleBy_cons (codeAny_handlers_test ?_) (by intro q; cases q)
    have LT : PySem.W.Looks (model X.prog X.w) h3 (typeOf (.ref a)) cls := fun A Q E s k q => wpAny_typeOf_ref (k _ _ he3) (by rw [hz3.1]; exact q)
    have LM := PySem.W.exm_one (M := model X.prog X.w) (J3.kIn) LT hb1
    have test : ∀ {Q E : Value → Shared → Prop}, Q c { s' with heap := h3 } → wpAny (model X.prog X.w) (X.A.mark (some (.ref a))) (eval (.Name x np) X.env) Q E { s' with heap := h3 } := by
      intro Q E q
      obtain ⟨hg, hdbg, hm | ⟨hm, hv, hnn⟩⟩ := hc
      · exact ld_glob (X := X.suite a ((a, oe3) :: (X.pn ++ pins))) S3 hg hm q hdbg
      · exact ld_blt (X := X.suite a ((a, oe3) :: (X.pn ++ pins))) S3 hg hm hv q hnn hdbg
    refine test (LM.here ?_)
    cases b with
    | true =>
      refine codeAny_handlers_suite_as (HandSPX.lands_againZ fl3 fun h4 fl4 up4 => ?_)
      have J4 : Inv X pins σ' H' { s' with heap := h4 } := J.landed nb fl4.1 ((up.trans up3).trans up4) os ag
      obtain ⟨oe4, vs4, he4, hz4, hd4⟩ := fl4.there
      have S4 := J4.suite he4 hd4 na nL nF
      refine store_ok (X := X.suite a ((a, oe4) :: (X.pn ++ pins))) (v := .ref a) S4 nd hi lc rfl (fun s5 S5 => ?_) (.inr hln)
      refine wpAny_mono ((hsu a oe4 cls d (X.pn ++ pins) hz4 ⟨_, hd4⟩).run [] s5 _ H' _ S5 (hyes rfl a na)) (fun f s6 hsp => ?_) (fun _ _ z => z.elim)
      cases f with
      | next =>
        obtain ⟨σ6, H6, S6, q6⟩ := hsp
        have n6 : H6 a = none := (S6.pin (a, oe4) (List.mem_append.mpr (.inl List.mem_cons_self))).2.1
        exact gone_ok (X := X.suite a ((a, oe4) :: (X.pn ++ pins))) S6 nd hi hln fun s7 J7 => ⟨_, _, track J7 ok hz4 ⟨_, hd4⟩ nS nP, q6 n6⟩
      | brk =>
        obtain ⟨σ6, H6, S6, q6⟩ := hsp
        exact gone_ok (S6.unsuite ok) nd hi hln fun s7 J7 => q6.elim
      | cont =>
        obtain ⟨σ6, H6, S6, q6⟩ := hsp
        exact gone_ok (S6.unsuite ok) nd hi hln fun s7 J7 => q6.elim
      | ret u =>
        obtain ⟨v6, σ6, H6, S6, r6, q6⟩ := hsp
        exact gone_ok (S6.unsuite ok) nd hi hln fun s7 J7 => q6.elim
    | false =>
      show wpAny _ X.A (handleBy (.ref a) X.env []) _ _ _
      refine wpAny_handleBy_nil ?_
      obtain ⟨k1, k2, k3, oe, vs, T, oT, ts', he, hz, hd, h1, hr⟩ := id fl3
      unfold PySem.passOn
      refine wpAny_bind (wpAny_field he hd h1 ?_)
      rw [if_neg (show ¬ ((Value.ref T == Value.none) = true) from by simp)]
      have fin : wpAny (model X.prog X.w) X.A (setFlight (.ref a) X.env.frame) (fun _ s4 => wpAny (model X.prog X.w) X.A (throw (.ref a) : Sem Flow) (SP X pins D) X.xe s4) X.xe { s' with heap := h3 } := by
        rw [frm]
        exact HandSPX.setFlight_upZ fl3 fun h4 hh4 up4 => wpAny_throw (tk _ _ ⟨a, B, sI, pins, σ', H', cls, d, rfl, J, nb, (up.trans up3).trans up4, .inr (.inr (by rw [stk]; exact hh4)), na, os, ag, hno rfl⟩)
      first
        | exact wpAny_bind (wpAny_pure (wpAny_bind fin))
        | exact wpAny_bind fin
  · cases f with
    | next =>
      obtain ⟨σ', H', J', q⟩ := hsp
      exact wpAny_execs_nil ⟨σ', H', J'.ofTry ok, q⟩
    | brk =>
      obtain ⟨σ', H', J', q⟩ := hsp
      exact ⟨σ', H', J'.ofTry ok, q⟩
    | cont =>
      obtain ⟨σ', H', J', q⟩ := hsp
      exact ⟨σ', H', J'.ofTry ok, q⟩
    | ret u =>
      obtain ⟨v, σ', H', J', r, q⟩ := hsp
      exact ⟨v, σ', H', J'.ofTry ok, r, q⟩
end
/-! ### the suites -/
section
variable {X : Cx} {kk : Nat} {cv : Str → Value} {W : WX} {cs : List Str}
/-- the exception of the class c is held at the place i -/
def Held1 (K : Frag) (cs : List Str) (i : Nat) (a : Addr) (cls : Value) (d : Option Addr) (c : Str) (σ : L2.St) : Prop := σ[i]? = some (some (.ref a)) ∧ d = none ∧ c ∈ cs ∧ ∃ C, cls = .ref C ∧ clsK K c = some C ∧ ExcC K C
theorem pe_isH {i : Nat} {cl : Str} {a : Addr} {oe : Obj} {cls : Value} {d : Option Addr} {pn : List (Addr × Obj)} {c : Str} {e : Expr} (nbi : X.mg "isinstance" = none) (hz : Zc cls d oe) (hf : ∃ vs, oe.data = .fields vs) (hI : IsaOk X.K X.mg cv cs cl) (hx : isxB X.N X.env.scope i cl e = true) :
    PE (X.suite a ((a, oe) :: pn)) e (fun σ H Q => Held1 X.K cs i a cls d c σ ∧ Q (.bl (excSub c cl)) H) := by
  unfold isxB at hx
  split at hx
  · rename_i f p1 n p2 t p3 p4
    obtain ⟨g5, h5⟩ := and_of hx
    obtain ⟨g4, h4⟩ := and_of g5
    obtain ⟨g3, h3⟩ := and_of g4
    obtain ⟨h1, h2⟩ := and_of g3
    have e1 := dec_of h1
    subst e1
    have e4 := dec_of h4
    subst e4
    obtain ⟨k1, k2, k3⟩ := gl_of h2
    obtain ⟨v, u, cl1, _, kc⟩ := hI
    constructor
    intro pins s σ H Q I ⟨⟨hs, hd, hc, C, hC, c1, c2⟩, q⟩
    subst hd hC
    obtain ⟨C', d1, d2, d3⟩ := kc c hc
    rw [c1] at d1
    cases d1
    exact (pe_callB (X := X.suite a ((a, oe) :: pn)) (id := "isinstance") (call_isE c2 hz hf) k1 nbi (by decide +kernel) (pa_cons (pe_vars (X := X.suite a ((a, oe) :: pn)) h3) (pa_cons (pe_clsAt (X := X.suite a ((a, oe) :: pn)) cl1 h5) pa_nil (star_plain rfl)) (star_plain rfl)) k3 k2 (star_plain rfl) rfl).run pins s σ H Q I
      ⟨.ref a, hs, v, u, _, rfl, fun w hw => cl1.2.1.eq hw, d3, q⟩
  · cases hx
theorem isx_look {N : List Str} {sc : Scope} {i : Nat} {cl : Str} {e : Expr} (h : isxB N sc i cl e = true) : plainX e = true := by
  unfold isxB at h
  split at h
  · rfl
  · cases h
theorem pa_isH {i : Nat} {a : Addr} {oe : Obj} {cls : Value} {d : Option Addr} {pn : List (Addr × Obj)} {c : Str} (nbi : X.mg "isinstance" = none) (hz : Zc cls d oe) (hf : ∃ vs, oe.data = .fields vs) : ∀ (l : List Str) (es : List Expr), needAll (CallOk cv kk X) (.isa cs) l → isxs X.N X.env.scope i l es = true →
    PA (X.suite a ((a, oe) :: pn)) es (fun σ H Q => Held1 X.K cs i a cls d c σ ∧ Q (l.map fun cl => V.bl (excSub c cl)) H)
  | [], [], _, _ => pa_nil.of fun σ H Q h => h.2
  | [], _ :: _, _, h => by cases h
  | _ :: _, [], _, h => by cases h
  | cl :: l, e :: es, hn, h => by
    obtain ⟨h1, h2⟩ := and_of (show (isxB X.N X.env.scope i cl e && isxs X.N X.env.scope i l es) = true from h)
    exact (pa_cons (pe_isH (c := c) (cv := cv) nbi hz hf hn.1 h1) (pa_isH (c := c) nbi hz hf l es hn.2 h2) (star_plain (isx_look h1))).of fun σ H Q ⟨k, q⟩ => ⟨k, k, q⟩
/-- what the suite that tells the classes leaves -/
def tHdl (K : Frag) (N : List Str) (cs : List Str) (i j : Nat) (l1 l2 : List Str) (l3 : Str) (a : Addr) (cls : Value) (d : Option Addr) : TS := fun D σ H => σ.length = N.length → ∃ c, Held1 K cs i a cls d c σ ∧
  ∀ p1 p2 p3, H p1 = none → upd H p1 (.lst (l1.map fun cl => V.bl (excSub c cl))) p2 = none → upd (upd H p1 (.lst (l1.map fun cl => V.bl (excSub c cl)))) p2 (.lst (l2.map fun cl => V.bl (excSub c cl))) p3 = none →
    D.nx (σ.set j (some (.ref p3))) (upd (upd (upd H p1 (.lst (l1.map fun cl => V.bl (excSub c cl)))) p2 (.lst (l2.map fun cl => V.bl (excSub c cl)))) p3 (.lst ((l1.map fun cl => V.bl (excSub c cl)) ++ (l2.map fun cl => V.bl (excSub c cl)) ++ [V.bl (!excSub c l3)])))
theorem hdlT_ok {i j : Nat} {l1 l2 : List Str} {l3 : Str} {a : Addr} {oe : Obj} {cls : Value} {d : Option Addr} {pn : List (Addr × Obj)} {sts : List Stmt} (G : GoodS kk W X) (hij : i ≠ j) (hz : Zc cls d oe) (hf : ∃ vs, oe.data = .fields vs) (hn1 : needAll (CallOk cv kk X) (.isa cs) l1) (hn2 : needAll (CallOk cv kk X) (.isa cs) l2) (hn3 : IsaOk X.K X.mg cv cs l3)
    (h : hdlT X.N X.env.scope i j l1 l2 l3 sts = true) : PSs (X.suite a ((a, oe) :: pn)) sts (tHdl X.K X.N cs i j l1 l2 l3 a cls d) := by
  have nbi : X.mg "isinstance" = none := nb_of G.g (by decide)
  unfold hdlT at h
  split at h
  · rename_i y1 q1 es1 q2 q3 y2 q4 y3 q5 op es2 q6 q7 q8 o at' p e3 q9 q q10
    obtain ⟨g11, h11⟩ := and_of h
    obtain ⟨g10, h10⟩ := and_of g11
    obtain ⟨g9, h9⟩ := and_of g10
    obtain ⟨g8, h8⟩ := and_of g9
    obtain ⟨g7, h7⟩ := and_of g8
    obtain ⟨g6, h6⟩ := and_of g7
    obtain ⟨g5, h5⟩ := and_of g6
    obtain ⟨g4, h4⟩ := and_of g5
    obtain ⟨g3, h3⟩ := and_of g4
    obtain ⟨h1, h2⟩ := and_of g3
    have e1 := dec_of h1
    have e3' := dec_of h3
    have e12 : y1 = y2 := by
      rw [e1] at e3'
      exact Option.some.inj e3'
    subst e12
    have e5 := dec_of h5
    subst e5
    obtain ⟨x, px, rfl, hv, rfl, hl⟩ := met_of h6
    have lc := G.loc y1 h2
    constructor
    intro pins s σ H D I hh
    obtain ⟨c, hold, hnx⟩ := hh I.len
    have hj : j < σ.length := by
      rw [I.len]
      exact (List.getElem?_eq_some_iff.mp e1).1
    have held : ∀ z, Held1 X.K cs i a cls d c (σ.set j z) := fun z => ⟨by rw [List.getElem?_set_ne (Ne.symm hij)]; exact hold.1, hold.2⟩
    have S1 := ps_set (X := X.suite a ((a, oe) :: pn)) (pos := q3) (pos' := q1) G.g.nd e1 lc.1 (pe_lst (pos := q2) (pa_isH (c := c) (kk := kk) (cv := cv) (a := a) (oe := oe) (pn := pn) nbi hz hf l1 es1 hn1 h7)) rfl lc.2
    have S2 := ps_set (X := X.suite a ((a, oe) :: pn)) (pos := q8) (pos' := q4) G.g.nd e1 lc.1 (pe_op (pos := q7) op_cat (pe_vars (X := X.suite a ((a, oe) :: pn)) (pos := q5) h4) (pe_lst (pos := q6) (pa_isH (c := c) (kk := kk) (cv := cv) (a := a) (oe := oe) (pn := pn) nbi hz hf l2 es2 hn2 h8))) rfl lc.2
    have S3 := ps_expr (X := X.suite a ((a, oe) :: pn)) (pos := q10) (pe_bm PySem.F.plainAttrs_list PySem.F.slot_list_append PySem.F.type_list_append mt_append (pe_vars (X := X.suite a ((a, oe) :: pn)) (pos := px) hv) (pa_cons (pe_not (pos := q9) (pe_isH (c := c) (cv := cv) (a := a) (oe := oe) (pn := pn) nbi hz hf hn3 h9)) pa_nil (star_plain rfl)) rfl (few_one rfl) hl (star_plain rfl) rfl)
    refine (pss_cons S1 (pss_cons S2 (pss_one S3))).run pins s σ H D I ?_
    refine ⟨hold, by rw [List.length_map, PySem.sizeLine_eq]; have := dec_of h10; omega, fun p1 hp1 => ?_⟩
    refine ⟨.ref p1, by rw [List.getElem?_set_self hj], held _, by rw [List.length_map, PySem.sizeLine_eq]; have := dec_of h11; omega, fun p2 hp2 => ?_⟩
    have n12 : p1 ≠ p2 := fun z => by
      rw [z, upd_same] at hp2
      cases hp2
    refine ⟨p1, p2, _, _, rfl, rfl, by rw [upd_ne n12]; exact upd_same, upd_same, by rw [List.length_map, List.length_map, PySem.sizeLine_eq]; have := dec_of h10; have := dec_of h11; omega, fun p3 hp3 => ?_⟩
    have e2 : (σ.set j (some (V.ref p1))).set j (some (V.ref p3)) = σ.set j (some (V.ref p3)) := List.set_set ..
    refine ⟨.ref p3, ?_, .inl ⟨rfl, _, .inl (.inl upd_same)⟩, ?_, _, rfl, p3, _, _, rfl, rfl, upd_same, by rw [List.length_append, List.length_map, List.length_map, PySem.sizeLine_eq]; have := dec_of h10; have := dec_of h11; omega, ?_⟩
    · show ((σ.set j (some (V.ref p1))).set j (some (V.ref p3)))[j]? = _
      rw [e2, List.getElem?_set_self hj]
    · show Held1 X.K cs i a cls d c ((σ.set j (some (V.ref p1))).set j (some (V.ref p3)))
      rw [e2]
      exact held _
    · show D.nx ((σ.set j (some (V.ref p1))).set j (some (V.ref p3))) _
      rw [e2, upd_upd]
      exact hnx p1 p2 p3 hp1 hp2 hp3
  · cases h
theorem cat_look {i : Nat} {x n : Str} (h : catB X.N X.env.scope i x n = true) : x = "RowError" ∧ glB X.env.scope x = true ∧ X.N[i]? = some n ∧ X.env.kindOf n = some .local := by
  unfold catB at h
  obtain ⟨g4, h4⟩ := and_of h
  obtain ⟨g3, h3⟩ := and_of g4
  obtain ⟨h1, h2⟩ := and_of g3
  refine ⟨dec_of h1, h2, dec_of h3, ?_⟩
  unfold lclB at h4
  split at h4
  · assumption
  · cases h4
theorem flags_reps {K : Frag} {G : Hp} (c : Str) (l1 l2 : List Str) (l3 : Str) : Reps K G ((l1.map fun cl => V.bl (excSub c cl)) ++ (l2.map fun cl => V.bl (excSub c cl)) ++ [V.bl (!excSub c l3)]) (flags c l1 l2 l3) := by
  have m : ∀ l : List Str, Reps K G (l.map fun cl => V.bl (excSub c cl)) (l.map fun cl => T.D.bl (excSub c cl)) := by
    intro l
    induction l with
    | nil => exact .nil
    | cons x l ih => exact .cons (.bl _) ih
  unfold flags
  rw [List.map_append]
  exact ((m l1).append (m l2)).append (.cons (.bl _) .nil)
theorem GoodS.tr {X : Cx} {W W' : WX} (G : GoodS kk W X) {pn : List (Addr × Obj)} {xe : Value → Shared → Prop} (tk : Takes (X.tr pn xe) W') (ps : PassesOwn (model X.prog X.w) X.A X.env xe) : GoodS kk W' (X.tr pn xe) :=
  ⟨⟨G.g.calm, G.g.nd, G.g.room, G.g.nb⟩, tk, ps, G.loc, G.fk, G.stk, G.frm, G.ex0⟩
theorem ss_tryT {i j : Nat} {l1 l2 : List Str} {l3 x n : Str} {bl : B} {body suite : List Stmt} {b₀ : Stmt} {np pos pos' : Pos} (G : GoodS kk W X) (hR : CatOk X.K X.mg cv cs "RowError") (hn1 : needAll (CallOk cv kk X) (.isa cs) l1) (hn2 : needAll (CallOk cv kk X) (.isa cs) l2) (hn3 : IsaOk X.K X.mg cv cs l3)
    (hc : catB X.N X.env.scope i x n = true) (hij : i ≠ j) (hh : hdlT X.N X.env.scope i j l1 l2 l3 (b₀ :: suite) = true) (hb : ∀ (W' : WX) (pn : List (Addr × Obj)) (xe : Value → Shared → Prop), GoodS kk W' (X.tr pn xe) → PSs (X.tr pn xe) body (tBs X.K cv W' bl)) :
    PS X (.Try body [.ExceptHandler (some (.Name x np)) (some n) (b₀ :: suite) pos'] [] [] pos) (tS X.K cv W (.tryT cs bl i j l1 l2 l3)) := by
  obtain ⟨rfl, hg, hN, hk⟩ := cat_look hc
  obtain ⟨g1, g2, g3⟩ := gl_of hg
  obtain ⟨R, hm, hR⟩ := hR
  refine (ps_try_as (Wout := W) (tb := fun W' => tBs X.K cv W' bl) (ts := fun a cls d => tHdl X.K X.N cs i j l1 l2 l3 a cls d) G.stk G.frm G.g.nd hN hk ⟨g1, g2, .inl hm⟩ G.tk (fun W' pn xe tk ps => hb W' pn xe (G.tr tk ps)) (fun a oe cls d pn hz hf => hdlT_ok G hij hz hf hn1 hn2 hn3 hh)).of fun D σ H ⟨Z, G0, M, ρ, n', r, y, rr, w, kt⟩ => ?_
  refine ⟨Z, G0, M, ρ, n', r, _, rr, w, ⟨kt.n, kt.r, fun c ρ' M' ⟨hcs, q⟩ σ' G' H' r' => ?_⟩⟩
  obtain ⟨C, hcv, c1, c2, c3⟩ := hR c hcs
  rw [hcv]
  refine ⟨true, c3, fun _ a ha hl => ⟨c, ⟨?_, rfl, hcs, C, rfl, c1, c2⟩, fun p1 p2 p3 hp1 hp2 hp3 => ?_⟩, nofun⟩
  · rw [List.getElem?_set_self]
    rw [List.length_set] at hl
    rw [hl]
    exact (List.getElem?_eq_some_iff.mp hN).1
  · show D.nx (((σ'.set i (some (.ref a))).set j (some (.ref p3))).set i none) _
    have e : ((σ'.set i (some (V.ref a))).set j (some (.ref p3))).set i none = (σ'.set j (some (.ref p3))).set i none := by
      rw [List.set_comm _ _ hij, List.set_set]
    rw [e]
    have r1 : Rel X.K Z G' (upd H' p1 (.lst (l1.map fun cl => V.bl (excSub c cl)))) M' σ' ρ' := r'.at (Ex.refl _) (r'.base.looseW (r'.base.gnone hp1) (r'.base.mnone hp1)) (r'.tr.looseW (young_of r'.tr hp1) (r'.base.mnone hp1))
    have r2 : Rel X.K Z G' (upd (upd H' p1 (.lst (l1.map fun cl => V.bl (excSub c cl)))) p2 (.lst (l2.map fun cl => V.bl (excSub c cl)))) M' σ' ρ' := r1.at (Ex.refl _) (r1.base.looseW (r1.base.gnone hp2) (r1.base.mnone hp2)) (r1.tr.looseW (young_of r1.tr hp2) (r1.base.mnone hp2))
    obtain ⟨b3, t3⟩ := r2.base.laidM hp3 (flags_reps (K := X.K) (G := G') c l1 l2 l3)
    exact kt.n _ _ (q p3 (r2.base.mnone hp3)) _ G' _ (((r2.go b3 t3).put (.ref p3) j).unput i)
/-- what the suite that keeps the exception leaves -/
def tKeep (N : List Str) (cs : List Str) (i j : Nat) (a : Addr) : TS := fun D σ H => σ.length = N.length → σ[i]? = some (some (.ref a)) ∧ D.nx (σ.set j (some (.ref a))) H
theorem hdlK_ok {i j : Nat} {a : Addr} {oe : Obj} {pn : List (Addr × Obj)} {sts : List Stmt} (G : GoodS kk W X) (h : hdlK X.N X.env.scope i j sts = true) : PSs (X.suite a ((a, oe) :: pn)) sts (tKeep X.N cs i j a) := by
  unfold hdlK at h
  split at h
  · rename_i y q1 n q2 q3
    obtain ⟨g3, h3⟩ := and_of h
    obtain ⟨h1, h2⟩ := and_of g3
    have lc := G.loc y h2
    constructor
    intro pins s σ H D I hh
    obtain ⟨e1, q⟩ := hh I.len
    exact (pss_one (ps_set (X := X.suite a ((a, oe) :: pn)) (pos := q3) (pos' := q1) G.g.nd (dec_of h1) lc.1 (pe_vars (X := X.suite a ((a, oe) :: pn)) (pos := q2) h3) rfl lc.2)).run pins s σ H D I ⟨_, e1, q⟩
  · cases h
theorem ss_tryK {i j : Nat} {x n : Str} {bl : B} {body suite : List Stmt} {b₀ : Stmt} {np pos pos' : Pos} (G : GoodS kk W X) (hR : CatOk X.K X.mg cv cs "RowError") (hc : catB X.N X.env.scope i x n = true) (hij : i ≠ j) (hh : hdlK X.N X.env.scope i j (b₀ :: suite) = true)
    (hb : ∀ (W' : WX) (pn : List (Addr × Obj)) (xe : Value → Shared → Prop), GoodS kk W' (X.tr pn xe) → PSs (X.tr pn xe) body (tBs X.K cv W' bl)) :
    PS X (.Try body [.ExceptHandler (some (.Name x np)) (some n) (b₀ :: suite) pos'] [] [] pos) (tS X.K cv W (.tryK cs bl i j)) := by
  obtain ⟨rfl, hg, hN, hk⟩ := cat_look hc
  obtain ⟨g1, g2, g3⟩ := gl_of hg
  obtain ⟨R, hm, hR⟩ := hR
  refine (ps_try_keep (Wout := W) (tb := fun W' => tBs X.K cv W' bl) (ts := fun a cls d => tKeep X.N cs i j a) G.ex0 G.stk G.frm G.g.nd hN hk ⟨g1, g2, .inl hm⟩ G.tk (fun W' pn xe tk ps => hb W' pn xe (G.tr tk ps)) (fun a oe cls d pn hz hf => hdlK_ok G hh)).of fun D σ H ⟨Z, G0, M, ρ, n', r, y, rr, w, kt⟩ => ?_
  refine ⟨Z, G0, M, ρ, n', r, _, rr, w, ⟨kt.n, kt.r, fun c ρ' M' ⟨hcs, q⟩ σ' G' H' r' => ?_⟩⟩
  obtain ⟨C, hcv, c1, c2, c3⟩ := hR c hcs
  rw [hcv]
  refine ⟨true, c3, fun _ a ha hl => ⟨?_, fun _ => ?_⟩, nofun⟩
  · rw [List.getElem?_set_self]
    rw [List.length_set] at hl
    rw [hl]
    exact (List.getElem?_eq_some_iff.mp hN).1
  · have e : ((σ'.set i (some (V.ref a))).set j (some (.ref a))).set i none = (σ'.set j (some (.ref a))).set i none := by
      rw [List.set_comm _ _ hij, List.set_set]
    rw [e]
    obtain ⟨b3, t3⟩ := r'.base.laidC (p := a) (o := ExcG (.ref C) none a) (c2 := .exc c) ha ⟨C, c1, upd_same⟩
    exact kt.n _ _ (q a (r'.base.mnone ha)) _ G' _ (((r'.go b3 t3).put (.ref a) j).unput i)
def tNone (j : Nat) : TS := fun D σ H => D.nx (σ.set j (some .non)) H
theorem hdlO_ok {j : Nat} {a : Addr} {oe : Obj} {pn : List (Addr × Obj)} {sts : List Stmt} (G : GoodS kk W X) (h : hdlO X.N X.env.scope j sts = true) : PSs (X.suite a ((a, oe) :: pn)) sts (tNone j) := by
  unfold hdlO at h
  split at h
  · rename_i y q1 v q3
    obtain ⟨g3, h3⟩ := and_of h
    obtain ⟨h1, h2⟩ := and_of g3
    have lc := G.loc y h2
    unfold okE at h3
    split at h3
    · constructor
      intro pins s σ H D I hh
      exact (pss_one (ps_set (X := X.suite a ((a, oe) :: pn)) (pos := q3) (pos' := q1) G.g.nd (dec_of h1) lc.1 (pe_non (X := X.suite a ((a, oe) :: pn))) rfl lc.2)).run pins s σ H D I hh
    · cases h3
  · cases h
theorem ss_tryO {c x : Str} {j : Nat} {bl : B} {body suite : List Stmt} {b₀ : Stmt} {np pos pos' : Pos} (G : GoodS kk W X) (hR : CatOk X.K X.mg cv [c] c) (hx : x = c) (hg : glB X.env.scope x = true) (hh : hdlO X.N X.env.scope j (b₀ :: suite) = true)
    (hb : ∀ (W' : WX) (pn : List (Addr × Obj)) (xe : Value → Shared → Prop), GoodS kk W' (X.tr pn xe) → PSs (X.tr pn xe) body (tBs X.K cv W' bl)) :
    PS X (.Try body [.ExceptHandler (some (.Name x np)) none (b₀ :: suite) pos'] [] [] pos) (tS X.K cv W (.tryO c bl j)) := by
  subst hx
  obtain ⟨g1, g2, g3⟩ := gl_of hg
  obtain ⟨R, hm, hR⟩ := hR
  obtain ⟨C, hcv, c1, c2, c3⟩ := hR x (by simp)
  refine (ps_try_only (Wout := W) (tb := fun W' => tBs X.K cv W' bl) (ts := fun a cls d => tNone j) G.stk G.frm ⟨g1, g2, .inl hm⟩ G.tk (fun W' pn xe tk ps => hb W' pn xe (G.tr tk ps)) (fun a oe cls d pn hz hf => hdlO_ok G hh)).of fun D σ H ⟨Z, G0, M, ρ, n', r, y, rr, w, kt⟩ => ?_
  refine ⟨Z, G0, M, ρ, n', r, _, rr, w, ⟨kt.n, kt.r, fun c' ρ' M' ⟨hcs, q⟩ σ' G' H' r' => ?_⟩⟩
  subst hcs
  rw [hcv]
  exact ⟨true, c3, fun _ a ha => kt.n _ _ q _ G' _ (r'.put .non j), nofun⟩
/-! ### fields, items of dicts -/
theorem setFD_of {M : Mp} {a : T.D} {c f : Str} {d : T.D} {k : Mp → Prop} (h : setFD M a c f d k) : ∃ p fs, a = .ref p ∧ M p = some (.ins c fs) ∧ fs.length < 1000 ∧ k (mset M p (.ins c (putA f d fs))) := by
  unfold setFD at h
  split at h
  · split at h
    · obtain ⟨rfl, h1, h2⟩ := h
      exact ⟨_, _, rfl, by assumption, h1, h2⟩
    · exact h.elim
  · exact h.elim
theorem setKD_of {M : Mp} {a y : T.D} {d : T.D} {k : Mp → Prop} (h : setKD M a y d k) : ∃ p kvs key, a = .ref p ∧ M p = some (.dct kvs) ∧ keyD y = some key ∧ kvs.length < 1000000 ∧ k (mset M p (.dct (putM key d kvs))) := by
  unfold setKD at h
  split at h
  · split at h
    · obtain ⟨key, h1, h2, h3⟩ := h
      exact ⟨_, _, key, rfl, by assumption, h1, h2, h3⟩
    · exact h.elim
  · exact h.elim
theorem ss_setF {c f x : Str} {i : Nat} {e : E} {o v : Expr} {p pos : Pos} (hF : FldOk X.K c f) (hx : x = f) (h2 : noSwap v = true) (ho : SE X cv W (.var i) o) (he : SE X cv W e v) : PS X (.Assign [.Attribute o x p] v pos) (tS X.K cv W (.setF c f i e)) := by
  subst hx
  obtain ⟨C, c1, c2, c3⟩ := hF
  refine (ps_fld ho.pe he.pe (by cases v <;> first | rfl | cases h2)).of fun D σ H ⟨Z, G, M, ρ, n, r, y, rr, w, kt⟩ => ⟨Z, G, M, ρ, _, _, rr, w, fun d M1 q v1 G1 H1 r1 e1 p1 => ?_, kt.x.at σ ρ⟩
  refine ⟨Z, G1, M1, ρ, (fun a M' => M' = M1 ∧ setFD M1 a c x d fun M2 => n ρ M2), (fun c => y c ρ), r1, ?_, fun a M' ⟨em, q⟩ v2 G2 H2 r2 e2 p2 => ?_, kt.x.at σ ρ⟩
  · obtain ⟨a, f, q⟩ := atV_of q
    simp only [wpE, f]
    exact ⟨trivial, q⟩
  · subst em
    obtain ⟨p, fs, rfl, hm, hl, q⟩ := setFD_of q
    cases p2
    obtain ⟨_, C', dx, vs, d1, d2, d3⟩ := r2.base.cell p _ hm
    rw [c1] at d1
    cases d1
    obtain ⟨b, t⟩ := r2.base.writC (o := .ins C dx (putA x v1 vs)) (c2 := .ins c (putA x d fs)) hm ⟨C, dx, _, c1, upd_same, d3.putA (p1.up e2)⟩
    refine ⟨p, C, dx, vs, rfl, d2, c2, c3, by rw [d3.len]; exact hl, ?_⟩
    rw [putA_putF]
    exact kt.n _ _ q _ _ _ (r2.go b t)
theorem ss_appE {a e : E} {o v : Expr} {x : Str} {p q pos : Pos} (hx : x = "append") (hn : noCall o = true) (hl : (p.endLine == q.line) = true) (hp : plainX v = true) (ha : SE X cv W a o) (he : SE X cv W e v) : PS X (.Expr (.Call (.Attribute o x p) [v] [] q) pos) (tS X.K cv W (.appE a e)) := by
  subst hx
  refine (ps_expr (pe_bm PySem.F.plainAttrs_list PySem.F.slot_list_append PySem.F.type_list_append mt_append ha.pe (pa_of hp he.pe pa_nil) (base_noCall hn) (few_one hp) hl (star_plain hp) rfl)).of fun D σ H ⟨Z, G, M, ρ, n, r, x, rr, w, kt⟩ => ?_
  refine ⟨Z, G, M, ρ, _, _, rr, w, fun d M1 q v1 G1 H1 r1 e1 p1 => ?_, kt.x.at σ ρ⟩
  obtain ⟨q1, q⟩ := q
  refine ⟨isL_of r1 p1 q1, Z, G1, M1, ρ, _, _, r1, q, fun d2 M2 q v2 G2 H2 r2 e2 p2 => ?_, kt.x.at σ ρ⟩
  obtain ⟨p, l, rfl, hm, hz, q⟩ := ref_cases q
  cases p1
  obtain ⟨xs, h5, h6⟩ := lst_at r2 hm
  obtain ⟨b, t⟩ := r2.base.writ hm (h6.append (.cons p2 .nil))
  exact ⟨p, xs, v2, rfl, rfl, h5, by rw [h6.length]; exact line_small hz, kt.n _ _ q _ _ _ (r2.go b t)⟩
theorem ss_setK {a y e : E} {o ix v : Expr} {p pos : Pos} (G : GoodS kk W X) (h2 : noSwap v = true) (h3 : plainX ix = true) (ha : SE X cv W a o) (hy : SE X cv W y ix) (he : SE X cv W e v) : PS X (.Assign [.Subscript o ix p] v pos) (tS X.K cv W (.setK a y e)) := by
  have hu : X.A.units + 1 < cLine := Nat.lt_of_le_of_lt (Nat.add_le_add_left (by decide) _) G.g.room.units
  refine (ps_asg he.pe (pg_sub ha.pe hy.pe (set_dict hu) (by cases ix <;> first | (intro _; rfl) | cases h3)) (by cases v <;> first | rfl | cases h2) (by cases v <;> rfl) rfl).of fun D σ H ⟨Z, G, M, ρ, n, r, z, rr, w, kt⟩ =>
    ⟨Z, G, M, ρ, _, _, rr, w, fun d M1 q v1 G1 H1 r1 e1 p1 => ⟨Z, G1, M1, ρ, _, _, r1, q, fun d1 M2 q v2 G2 H2 r2 e2 p2 => ⟨Z, G2, M2, ρ, _, _, r2, q, fun d2 M3 q v3 G3 H3 r3 e3 p3 => ?_, kt.x.at σ ρ⟩, kt.x.at σ ρ⟩, kt.x.at σ ρ⟩
  obtain ⟨p, kvs, key, rfl, hm, hk, hl, q⟩ := setKD_of q
  cases p2
  obtain ⟨_, vs, d1, d2'⟩ := r3.base.cell p _ hm
  obtain ⟨b, t⟩ := r3.base.writC (o := .dK (putK vs key v1)) (c2 := .dct (putM key d kvs)) hm ⟨_, upd_same, by rw [putM_putK]; exact d2'.putM ((p1.up e2).up e3)⟩
  refine ⟨p, _, rfl, ?_, kt.n _ _ q _ _ _ (r3.go b t)⟩
  rw [keyD_of hk p3]
  exact DPut.k d1 (by rw [d2'.len, PySem.sizeLine_eq]; omega)
theorem setBD_of {M : Mp} {a y : T.D} {d : T.D} {k : Mp → Prop} (h : setBD M a y d k) : ∃ p ks bs, a = .ref p ∧ M p = some (.bdt ks) ∧ y = .tup (bs.map .bl) ∧ d = .bl true ∧ bs ∉ ks ∧ ks.length < 1000000 ∧ k (mset M p (.bdt (ks ++ [bs]))) := by
  unfold setBD at h
  split at h
  · split at h
    · obtain ⟨bs, h1, h2, h3, h4, h5⟩ := h
      exact ⟨_, _, bs, rfl, by assumption, h1, h2, h3, h4, h5⟩
    · exact h.elim
  · exact h.elim
theorem ss_setB {a y e : E} {o ix v : Expr} {p pos : Pos} (G : GoodS kk W X) (h2 : noSwap v = true) (h3 : plainX ix = true) (ha : SE X cv W a o) (hy : SE X cv W y ix) (he : SE X cv W e v) : PS X (.Assign [.Subscript o ix p] v pos) (tS X.K cv W (.setB a y e)) := by
  have hu : X.A.units + 1 < cLine := Nat.lt_of_le_of_lt (Nat.add_le_add_left (by decide) _) G.g.room.units
  refine (ps_bput hu ha.pe hy.pe he.pe (by cases v <;> first | rfl | cases h2)).of fun D σ H ⟨Z, G, M, ρ, n, r, z, rr, w, kt⟩ =>
    ⟨Z, G, M, ρ, _, _, rr, w, fun d M1 q v1 G1 H1 r1 e1 p1 => ⟨Z, G1, M1, ρ, _, _, r1, q, fun d1 M2 q v2 G2 H2 r2 e2 p2 => ⟨Z, G2, M2, ρ, _, _, r2, q, fun d2 M3 q v3 G3 H3 r3 e3 p3 => ?_, kt.x.at σ ρ⟩, kt.x.at σ ρ⟩, kt.x.at σ ρ⟩
  obtain ⟨p, ks, bs, rfl, hm, ey, ed, hn, hl, q⟩ := setBD_of q
  subst ey ed
  cases p1
  cases p2
  obtain ⟨b, rfl, hb⟩ := btup_of p3
  obtain ⟨_, xs, c1, c2, c3⟩ := r3.base.cell p _ hm
  subst c2
  obtain ⟨bb, t⟩ := r3.base.writC (o := BdT p (xs ++ [(bs, b)])) (c2 := .bdt (xs.map (·.1) ++ [bs])) hm ⟨_, upd_same, by rw [List.map_append]; rfl, fun x hx => by
    rcases List.mem_append.mp hx with hx | hx
    · exact c3 x hx
    · rw [List.mem_singleton] at hx
      subst hx
      exact hb⟩
  exact ⟨p, xs, b, bs, rfl, rfl, rfl, c1, fun x hx => ex_t r3.base.ex (c3 x hx), ex_t r3.base.ex hb, hn, by rw [PySem.sizeLine_eq]; rw [List.length_map] at hl; omega, kt.n _ _ q _ _ _ (r3.go bb t)⟩
end
end T

/-! T: the statements together; a def by its body. -/
namespace T
open PySem L2 PyProof.Rows
section
variable {kk : Nat} {cv : Str → Value}
mutual
theorem sS : ∀ (s : S) {X : Cx} {W : WX} {st : Stmt}, GoodS kk W X → s.calls (CallOk cv kk X) (RaisOk cv X.K X.mg) → okS X.N X.env.scope s st = true → PS X st (tS X.K cv W s)
  | .asg i e, X, W, st, G, hc, h => by
    unfold okS at h
    split at h
    · obtain ⟨g4, h4⟩ := and_of h
      obtain ⟨g3, h3⟩ := and_of g4
      obtain ⟨h1, h2⟩ := and_of g3
      exact ss_asg G (dec_of h1) h2 h3 (sE e G.g G.tk hc h4)
    · cases h
  | .asgC i e, X, W, st, G, hc, h => by
    unfold okS at h
    split at h
    · obtain ⟨g3, h3⟩ := and_of h
      obtain ⟨h1, h2⟩ := and_of g3
      exact ss_asgC G hc (dec_of h1) h2 h3
    · cases h
  | .asgT is e, X, W, st, G, hc, h => by
    unfold okS at h
    split at h
    · obtain ⟨g4, h4⟩ := and_of h
      obtain ⟨g3, h3⟩ := and_of g4
      obtain ⟨h1, h2⟩ := and_of g3
      exact ss_asgT G h1 h2 h3 (sE e G.g G.tk hc h4)
    · cases h
  | .setI i x e, X, W, st, G, hc, h => by
    unfold okS at h
    split at h
    · obtain ⟨g6, h6⟩ := and_of h
      obtain ⟨g5, h5⟩ := and_of g6
      obtain ⟨g4, h4⟩ := and_of g5
      obtain ⟨h2, h3⟩ := and_of g4
      exact ss_setI h2 h3 (sE (.var i) G.g G.tk trivial h4) (sE x G.g G.tk hc.1 h5) (sE e G.g G.tk hc.2 h6)
    · cases h
  | .aug i o e, X, W, st, G, hc, h => by
    unfold okS at h
    split at h
    · obtain ⟨g5, h5⟩ := and_of h
      obtain ⟨g4, h4⟩ := and_of g5
      obtain ⟨g3, h3⟩ := and_of g4
      obtain ⟨h1, h2⟩ := and_of g3
      have e2 := dec_of h2
      subst e2
      exact ss_aug G h1 (dec_of h3) h4 (sE e G.g G.tk hc h5)
    · cases h
  | .exp e, X, W, st, G, hc, h => by
    unfold okS at h
    split at h
    · obtain ⟨h1, h2⟩ := and_of h
      exact ss_exp h1 (sE e G.g G.tk hc h2)
    · cases h
  | .app i e, X, W, st, G, hc, h => by
    unfold okS at h
    split at h
    · obtain ⟨g3, h3⟩ := and_of h
      obtain ⟨h1, h2⟩ := and_of g3
      exact ss_app h1 h2 (sE e G.g G.tk hc h3)
    · cases h
  | .ext i e, X, W, st, G, hc, h => by
    unfold okS at h
    split at h
    · obtain ⟨g3, h3⟩ := and_of h
      obtain ⟨h1, h2⟩ := and_of g3
      exact ss_ext h1 h2 (sE e G.g G.tk hc h3)
    · cases h
  | .rem i e, X, W, st, G, hc, h => by
    unfold okS at h
    split at h
    · obtain ⟨g3, h3⟩ := and_of h
      obtain ⟨h1, h2⟩ := and_of g3
      exact ss_rem h1 h2 (sE e G.g G.tk hc h3)
    · cases h
  | .pop i, X, W, st, G, hc, h => by
    unfold okS at h
    split at h
    · exact ss_pop h
    · cases h
  | .clr i, X, W, st, G, hc, h => by
    unfold okS at h
    split at h
    · exact ss_clr h
    · cases h
  | .popTo j i, X, W, st, G, hc, h => by
    unfold okS at h
    split at h
    · obtain ⟨g3, h3⟩ := and_of h
      obtain ⟨h1, h2⟩ := and_of g3
      exact ss_popTo G (dec_of h1) h2 h3
    · cases h
  | .ret e, X, W, st, G, hc, h => by
    unfold okS at h
    split at h
    · exact ss_ret (sE e G.g G.tk hc h)
    · cases h
  | .ite c a b, X, W, st, G, hc, h => by
    unfold okS at h
    split at h
    · obtain ⟨g3, h3⟩ := and_of h
      obtain ⟨h1, h2⟩ := and_of g3
      exact ss_ite (sE c G.g G.tk hc.1 h1) (sB a G hc.2.1 h2) (sB b G hc.2.2 h3)
    · cases h
  | .loop is tup it b, X, W, st, G, hc, h => by
    unfold okS at h
    split at h
    · obtain ⟨g4, h4⟩ := and_of h
      obtain ⟨g3, h3⟩ := and_of g4
      obtain ⟨h1, h2⟩ := and_of g3
      exact ss_loop G h1 h2 (sI it G.g G.tk hc.1 (fun z => targ_tup (by rw [z] at h2; exact h2)) h3) (sB b G hc.2 h4)
    · cases h
  | .whl c b, X, W, st, G, hc, h => by
    unfold okS at h
    split at h
    · obtain ⟨h1, h2⟩ := and_of h
      exact ss_whl G (sE c G.g G.tk hc.1 h1) (sB b G hc.2 h2)
    · cases h
  | .rais c, X, W, st, G, hc, h => by
    unfold okS at h
    split at h
    · obtain ⟨h1, h2⟩ := and_of h
      exact ss_rais G (dec_of h1) h2 hc
    · cases h
  | .asgL is e, X, W, st, G, hc, h => by
    unfold okS at h
    split at h
    · obtain ⟨g4, h4⟩ := and_of h
      obtain ⟨g3, h3⟩ := and_of g4
      obtain ⟨h1, h2⟩ := and_of g3
      exact ss_asgL G h1 h2 h3 (sE e G.g G.tk hc h4)
    · cases h
  | .retN, X, W, st, G, hc, h => by
    unfold okS at h
    split at h
    · exact ss_retN
    · cases h
  | .pass, X, W, st, G, hc, h => by
    unfold okS at h
    split at h
    · exact ss_pass
    · cases h
  | .setF c f i e, X, W, st, G, hc, h => by
    unfold okS at h
    split at h
    · obtain ⟨g4, h4⟩ := and_of h
      obtain ⟨g3, h3⟩ := and_of g4
      obtain ⟨h1, h2⟩ := and_of g3
      exact ss_setF hc.1 (dec_of h1) h2 (sE (.var i) G.g G.tk trivial h3) (sE e G.g G.tk hc.2 h4)
    · cases h
  | .appE a e, X, W, st, G, hc, h => by
    unfold okS at h
    split at h
    · obtain ⟨g6, h6⟩ := and_of h
      obtain ⟨g5, h5⟩ := and_of g6
      obtain ⟨g4, h4⟩ := and_of g5
      obtain ⟨g3, h3⟩ := and_of g4
      obtain ⟨h1, h2⟩ := and_of g3
      exact ss_appE (dec_of h1) h2 h3 h4 (sE a G.g G.tk hc.1 h5) (sE e G.g G.tk hc.2 h6)
    · cases h
  | .setK a k e, X, W, st, G, hc, h => by
    unfold okS at h
    split at h
    · obtain ⟨g5, h5⟩ := and_of h
      obtain ⟨g4, h4⟩ := and_of g5
      obtain ⟨g3, h3⟩ := and_of g4
      obtain ⟨h1, h2⟩ := and_of g3
      exact ss_setK G h1 h2 (sE a G.g G.tk hc.1 h3) (sE k G.g G.tk hc.2.1 h4) (sE e G.g G.tk hc.2.2 h5)
    · cases h
  | .tryO c b j, X, W, st, G, hc, h => by
    unfold okS at h
    split at h
    · obtain ⟨g4, h4⟩ := and_of h
      obtain ⟨g3, h3⟩ := and_of g4
      obtain ⟨h1, h2⟩ := and_of g3
      exact ss_tryO G hc.1 (dec_of h1) h2 h3 fun W' pn xe G' => sB b (X := X.tr pn xe) G' hc.2 h4
    · cases h
  | .setB a k e, X, W, st, G, hc, h => by
    unfold okS at h
    split at h
    · obtain ⟨g5, h5⟩ := and_of h
      obtain ⟨g4, h4⟩ := and_of g5
      obtain ⟨g3, h3⟩ := and_of g4
      obtain ⟨h1, h2⟩ := and_of g3
      exact ss_setB G h1 h2 (sE a G.g G.tk hc.1 h3) (sE k G.g G.tk hc.2.1 h4) (sE e G.g G.tk hc.2.2 h5)
    · cases h
  | .tryT cs b i j l1 l2 l3, X, W, st, G, hc, h => by
    unfold okS at h
    split at h
    · obtain ⟨g4, h4⟩ := and_of h
      obtain ⟨g3, h3⟩ := and_of g4
      obtain ⟨h1, h2⟩ := and_of g3
      exact ss_tryT G hc.1 hc.2.1 hc.2.2.1 hc.2.2.2.1 h1 (dec_of h2) h3 fun W' pn xe G' => sB b (X := X.tr pn xe) G' hc.2.2.2.2 h4
    · cases h
  | .tryK cs b i j, X, W, st, G, hc, h => by
    unfold okS at h
    split at h
    · obtain ⟨g4, h4⟩ := and_of h
      obtain ⟨g3, h3⟩ := and_of g4
      obtain ⟨h1, h2⟩ := and_of g3
      exact ss_tryK G hc.1 h1 (dec_of h2) h3 fun W' pn xe G' => sB b (X := X.tr pn xe) G' hc.2 h4
    · cases h
theorem sB : ∀ (b : B) {X : Cx} {W : WX} {sts : List Stmt}, GoodS kk W X → b.calls (CallOk cv kk X) (RaisOk cv X.K X.mg) → okB X.N X.env.scope b sts = true → PSs X sts (tBs X.K cv W b)
  | .nil, X, W, st, G, hc, h => by
    unfold okB at h
    split at h
    · exact sb_nil
    · cases h
  | .cons s b, X, W, st, G, hc, h => by
    unfold okB at h
    split at h
    · obtain ⟨h1, h2⟩ := and_of h
      exact sb_cons (sS s G hc.1 h1) (sB b G hc.2 h2)
    · cases h
  | .frz i b, X, W, st, G, hc, h => by
    unfold okB at h
    exact sb_frz (sB b G hc h)
end
end
/-! ### a def -/
theorem CallG.mono {P : Program} {w : World} {K : Frag} {mg : Str → Option Value} {base : Heap} {cv : Str → Value} {j k : Nat} {g : Str} {F : Spec} (h : CallG P w K mg base cv j g F) (hk : j ≤ k) : CallG P w K mg base cv k g F := by
  obtain ⟨f, fd, ps, h1, h2, h3, h4⟩ := h
  exact ⟨f, fd, ps, h1, h2, h3, h4.mono hk⟩
/-- fewer cells will do -/
def fewer (k : DK) : DK := fun d M => ∃ M', Less M' M ∧ k d M'
def fewerX (k : XP) : XP := fun d M => ∃ M', Less M' M ∧ k d M'
theorem Less.refl (M : Mp) : Less M M := fun _ _ e => .inl e
theorem fewer_of {k : DK} {d : D} {M : Mp} (h : k d M) : fewer k d M := ⟨M, .refl M, h⟩
theorem fewerX_of {k : XP} {d : Str} {M : Mp} (h : k d M) : fewerX k d M := ⟨M, .refl M, h⟩
/-- a list of two whole numbers, of which nothing is to be known any more -/
theorem fewer_pot {k : DK} {d : D} {M : Mp} {a : Addr} {x y : Int} (lim : Bool) (e : M a = some (.lst [.int x, .int y])) (hs : Small lim y) (h : k d (mset M a (.pot lim))) : fewer k d M := ⟨_, fun b c q => by
  by_cases z : b = a
  · subst z
    rw [mset_same] at q
    cases q
    exact .inr ⟨lim, rfl, x, y, e, hs⟩
  · rw [mset_ne z] at q
    exact .inl q, h⟩
/-- what was there is there again -/
theorem fewer_to {k : DK} {d : D} {M M' : Mp} (l : Less M' M) (h : k d M') : fewer k d M := ⟨M', l, h⟩
/-- what a body must do -/
def Body (N : List Str) (n : Nat) (b : B) (F : Spec) : Prop := ∀ ds M k x, F ds M k x → ds.length = n ∧
  wpB b (ds.map some ++ List.replicate (N.length - n) none) M (fun _ M' => fewer k .non M') (fewer k) (fun c _ M' => fewerX x c M')
theorem nth_start : ∀ (ds : List D) (vs : List V) (m : Nat) {K : Frag} {G : Hp}, Reps K G vs ds → ∀ i d, nth (ds.map some ++ List.replicate m none) i = some d → ∃ v, (vs.map some ++ List.replicate m (none : Option V))[i]? = some (some v) ∧ Rep K G v d
  | [], _, m, K, G, h, i, d, e => by
    exfalso
    have z : ∀ (m i : Nat), nth (List.replicate m (none : Option D)) i = none := by
      intro m
      induction m with
      | zero => intro i; rfl
      | succ m ih =>
        intro i
        cases i with
        | zero => rfl
        | succ i => exact ih i
    have e' : nth (List.replicate m (none : Option D)) i = some d := e
    rw [z] at e'
    cases e'
  | x :: ds, _, m, K, G, h, 0, d, e => by
    cases h with
    | cons h1 h2 =>
      have e' : some x = some d := e
      cases e'
      exact ⟨_, rfl, h1⟩
  | x :: ds, _, m, K, G, h, i + 1, d, e => by
    cases h with
    | cons h1 h2 =>
      obtain ⟨v, h3, h4⟩ := nth_start ds _ m h2 i d e
      exact ⟨v, h3, h4⟩
section
variable {P : Program} {w : World} {K : Frag} {mg : Str → Option Value} {base : Heap}
/-- THE RULE: a def of the text keeps the promise of its own-syntax body -/
theorem def_ok {x qual : Str} {st : Stmt} {f : Addr} {fd : FuncData} {N ps : List Str} {k : Nat} {cv : Str → Value} {b : B} {F : Spec} (Fn : Fun K x qual st f fd) (SC : FnScope N ps (defScope st)) (hok : okB N (defScope st) b (defBody st) = true)
    (nb : ∀ x ∈ bltNames, mg x = none) (hc : b.calls (Needs P w K mg base cv k) (RaisOk cv K mg)) (hB : Body N ps.length b F) : FnOk P w K mg base (L2.CX P w) (k + 1) f fd ps (SpM K cv F) := by
  refine Fn.okX SC (fun vs H Q E h => ?_) (fun cdv A outer s H vs Q E hr h => ?_)
  · obtain ⟨G, M, ds, kd, xx, hb, hrs, hf, _⟩ := h
    rw [hrs.length]
    exact (hB ds M kd xx hf).1
  · obtain ⟨G, M, ds, kd, xx, hb, hrs, hf, hk, hx⟩ := h
    obtain ⟨hl, hw⟩ := hB ds M kd xx hf
    have GS : GoodS k (fun cls d _ H => E cls d H) (cxOf (L2.CX P w) P w K mg base N qual (defScope st) f cdv A outer s H E) :=
      ⟨⟨rfl, SC.nd, hr, nb⟩, takes_of rfl rfl rfl rfl, passes_of rfl, fun y hy => ⟨loc_of hy, .inl rfl⟩, SC.kind, rfl, rfl, rfl⟩
    refine ⟨_, sB b GS hc hok, ⟨G, H, M⟩, G, M, _, _, _, _, ⟨hb, .refl, ?_, ?_⟩, hw, ⟨fun ρ' M' q σ' G' H' r' => ?_, fun d M' q v G' H' b' t' p' => ?_, fun c ρ' M' q σ' G' H' r' => ?_⟩⟩
    · unfold L2.start
      rw [List.length_append, List.length_append, List.length_map, List.length_map, List.length_replicate, List.length_replicate, hrs.length, hl]
    · intro i d e
      unfold L2.start
      have e2 : N.length - vs.length = N.length - ps.length := by rw [hrs.length, hl]
      rw [e2]
      exact nth_start ds vs _ hrs i d e
    · obtain ⟨M2, hs, q⟩ := q
      exact hk _ M2 q _ G' H' (r'.base.sub hs) (r'.tr.sub hs) .non
    · obtain ⟨M2, hs, q⟩ := q
      exact hk _ M2 q v G' H' (b'.sub hs) (t'.sub hs) p'
    · obtain ⟨M2, hs, q⟩ := q
      exact hx c M2 q G' H' (r'.base.sub hs) (r'.tr.sub hs)
end
end T

/-! T: the law's own head; what the top has written. -/
namespace T
open PySem L2 PyProof.Rows
/-- a def stands at a name -/
def FnAt (K : Frag) (mg : Str → Option Value) (x : Str) (st : Stmt) : Prop := ∃ f fd, mg x = some (.ref f) ∧ PySem.W.keepIn K (.ref f) = true ∧ Fun K x x st f fd
theorem fn_at {K : Frag} {mg : Str → Option Value} {h : Heap} (X : K.In h) (G : h.Ns mainGlobals mg) {x : Str} {st : Stmt} {f : Addr} {oc : Value} {od an : Option Addr} {osl : Array (Option Value)} {kV doc pm cdv ct : Value}
    (a : PySem.W.nsIn K mainGlobals x = some (some (.ref f))) (l : K.lookup f = some ⟨oc, od, .func (PySem.W.fnOf x x (defArgs st) (defBody st) (defScope st) .none kV doc pm an cdv ct), osl⟩)
    (c : PySem.W.codeIn K cdv x = true) (k : PySem.W.keepIn K (.ref f) = true) : FnAt K mg x st := ⟨f, _, PySem.W.mg_of X G a, k, fun_mk l c k⟩
/-- a class's name stands for it -/
def cvOf (mg : Str → Option Value) (c : Str) : Value := (mg c).getD .none
theorem rais_at {K : Frag} {mg : Str → Option Value} {h : Heap} (X : K.In h) (G : h.Ns mainGlobals mg) {c : Str} {C : Addr} (a : PySem.W.nsIn K mainGlobals c = some (some (.ref C))) (k : PySem.W.keepIn K (.ref C) = true)
    (e : PySem.W.excIn K C [.type "ValueError", .type "Exception", .type "BaseException", .type "object"] "ValueError.__new__" = true) (s : PySem.W.subIn K (.ref C) (.type "BaseException") = some true)
    (t : PySem.W.typeIn K (.ref C) = some (.type "type")) : RaisOk (cvOf mg) K mg c :=
  have m := PySem.W.mg_of X G a
  ⟨C, by unfold cvOf; rw [m]; rfl, m, k, e, s, t⟩
/-- the same, the top's objects told by what is known of them -/
abbrev FnX {K : Frag} {h : Heap} (_ : K.In h) (mg : Str → Option Value) (x : Str) (st : Stmt) : Prop := FnAt K mg x st
abbrev RaX {K : Frag} {h : Heap} (_ : K.In h) (mg : Str → Option Value) (c : Str) : Prop := RaisOk (cvOf mg) K mg c
abbrev CoX {K : Frag} {h : Heap} (_ : K.In h) (mg : Str → Option Value) (c : Str) (d : D) : Prop := ConG K mg c d
theorem con_int {K : Frag} {mg : Str → Option Value} {h : Heap} (X : K.In h) (G : h.Ns mainGlobals mg) {x : Str} {i : Int} {t : Tok} (a : PySem.W.nsIn K mainGlobals x = some (some (.int i t))) : ConG K mg x (.int i) :=
  ⟨_, .int i, PySem.W.mg_of X G a, ⟨t, rfl⟩, fun _ => .int i⟩
theorem con_str {K : Frag} {mg : Str → Option Value} {h : Heap} (X : K.In h) (G : h.Ns mainGlobals mg) {x : Str} {i : Str} {t : Tok} (a : PySem.W.nsIn K mainGlobals x = some (some (.str i t))) : ConG K mg x (.str i) :=
  ⟨_, .str i, PySem.W.mg_of X G a, ⟨t, rfl⟩, fun _ => .str i⟩
theorem con_tup {K : Frag} {mg : Str → Option Value} {h : Heap} (X : K.In h) (G : h.Ns mainGlobals mg) {x : Str} {p : Addr} {o : Obj} {its : Array Value} {n : Nat} {l : List Str} (a : PySem.W.nsIn K mainGlobals x = some (some (.ref p))) (b : K.lookup p = some o) (c : o.cls = .type "tuple") (d : o.data = .seq its n)
    (e : its.size ≤ sizeLine) (f : Vals (l.map V.str) its.toList) : ConG K mg x (.tup (l.map .str)) :=
  ⟨_, .ref p, PySem.W.mg_of X G a, rfl, fun _ => .tup (.inr ⟨o, its, n, b, c, d, e, f⟩) (reps_strs _ _ _)⟩
def NoB (mg : Str → Option Value) : Prop := ∀ x ∈ bltNames, mg x = none
theorem nob_of {K : Frag} {mg : Str → Option Value} {h : Heap} (X : K.In h) (G : h.Ns mainGlobals mg) (z0 : PySem.W.nsIn K mainGlobals "len" = some none) (z1 : PySem.W.nsIn K mainGlobals "min" = some none) (z2 : PySem.W.nsIn K mainGlobals "max" = some none)
    (z3 : PySem.W.nsIn K mainGlobals "abs" = some none) (z4 : PySem.W.nsIn K mainGlobals "int" = some none) (z5 : PySem.W.nsIn K mainGlobals "str" = some none) (z6 : PySem.W.nsIn K mainGlobals "sum" = some none)
    (z7 : PySem.W.nsIn K mainGlobals "list" = some none) (z8 : PySem.W.nsIn K mainGlobals "sorted" = some none) (z9 : PySem.W.nsIn K mainGlobals "range" = some none) (z10 : PySem.W.nsIn K mainGlobals "enumerate" = some none)
    (z11 : PySem.W.nsIn K mainGlobals "isinstance" = some none) (z12 : PySem.W.nsIn K mainGlobals "bool" = some none) (z13 : PySem.W.nsIn K mainGlobals "tuple" = some none) (z14 : PySem.W.nsIn K mainGlobals "set" = some none) (z15 : PySem.W.nsIn K mainGlobals "dict" = some none) : NoB mg := fun x hx => by
  refine PySem.W.mg_none_of X G ?_
  simp only [bltNames, List.mem_cons, List.not_mem_nil, or_false] at hx
  rcases hx with rfl | rfl | rfl | rfl | rfl | rfl | rfl | rfl | rfl | rfl | rfl | rfl | rfl | rfl | rfl | rfl <;> assumption
/-- what a law must do -/
def spLaw : Spec := fun ds M k x => ∃ ns : List Int, ds = [.scr (ns.map .int)] ∧ ns.length ≤ 63 ∧ M = (fun _ => none) ∧ ∀ M', k (.bl true) M'
theorem law_walk {l : PySem.W.OpenLaw} {k : Nat} {q : Program} {loose : List Str} {XP : (Str → Option Value) → Heap → Prop} {YP : World → Heap → Prop} {d : DefRec} {K : Params → PySem.W.Frag} {st : Stmt}
    (hn : l.most = some 63) (hdf : d.params.defaults = []) (hd : d.name = "law") (hr : Room k callerA) (hY : ∀ (w : World) (h : Heap), YP w h → (K w.params).In h)
    (hb : ∀ (kV doc pm : Value) (an : Option Addr) (cdv ct v : Value), bindArgs (PySem.W.fnOf "law" "law" (defArgs st) (defBody st) (defScope st) .none kV doc pm an cdv ct) ⟨[v], []⟩ = pure [(("script" : Str), v)])
    (F : ∀ (w : World) (mg : Str → Option Value) (h : Heap), (K w.params).In h → h.Ns mainGlobals mg → ∃ (fa : Addr) (fd : FuncData), mg "law" = some (.ref fa) ∧ Fun (K w.params) "law" "law" st fa fd ∧ ∀ base : Heap, (K w.params).In base → base.Ns mainGlobals mg →
      FnOk l.prog w (K w.params) mg base (L2.CX l.prog w) k fa fd ["script"] (SpM (K w.params) (cvOf mg) spLaw)) :
    PySem.W.WalkO q loose XP YP l.row.toRowW d [] (fun f vs => PySem.call f vs) :=
  L2.walk_of (n := 63) (k := k) (x := "script") (CX := fun w => L2.CX l.prog w)
    (sp := fun w vs H Q E => ∃ (a : Addr) (ns : List Int), vs = [.ref a] ∧ ns.length ≤ 63 ∧ SqL (K w.params) H a (ns.map V.int) ∧ ∀ H', Q (.bl true) H') hn (by decide) hdf hr hY
    (fun w mg fa h X G e => by
      obtain ⟨fb, fd, h1, h2, h3⟩ := F w mg h X G
      rw [hd] at e
      have z := e.symm.trans h1
      cases z
      obtain ⟨oc, od, kV, doc, pm, an, cdv, ct, osl, rfl, lk, hcd⟩ := h2.ex
      refine ⟨_, fun s v => .of_eq (hb _ _ _ _ _ _ _), fun base I N => (h3 base I N).imp fun vs H Q E ⟨a, ns, e, hl, hs, hq⟩ => ?_⟩
      subst e
      refine ⟨H, fun _ => none, [.scr (ns.map .int)], fun d _ => d = .bl true, fun _ _ => False, ⟨Ex.refl _, nofun⟩, .cons (.scr hs (Reps.ofInts ns)) .nil, ⟨ns, rfl, hl, rfl, fun _ => rfl⟩, fun d M' e v G' H' b t p => ?_, fun _ _ z => z.elim⟩
      subst e
      cases p
      exact hq H')
    (fun w H a ns hl _ hS => ⟨a, ns, rfl, hl, hS, fun _ => rfl⟩) (fun w H s e s' ⟨_, _, _, _, _, _, _, _, _, _, _, _, z⟩ => z)
/-! ### exceptions, classes, defs as values at the top -/
section
variable {K : Frag} {mg : Str → Option Value} {h : Heap} {x c cl m f : Str} {C D : Addr}
def At (K : Frag) (x : Str) (C : Addr) : Prop := PySem.W.nsIn K mainGlobals x = some (some (.ref C))
theorem At.cls (a : At K x C) : clsK K x = some C := by
  unfold clsK
  rw [show PySem.W.nsIn K mainGlobals x = some (some (.ref C)) from a]
theorem At.one (a : At K x C) (b : At K x D) : C = D := by
  have e := (show PySem.W.nsIn K mainGlobals x = some (some (.ref C)) from a).symm.trans b
  exact Value.ref.inj (Option.some.inj (Option.some.inj e))
theorem At.here (a : At K x C) (X : K.In h) (G : h.Ns mainGlobals mg) : mg x = some (.ref C) := PySem.W.mg_of X G a
def AllX (P : Str → Prop) : List Str → Prop
  | [] => True
  | c :: l => P c ∧ AllX P l
theorem AllX.get {P : Str → Prop} : ∀ {l : List Str}, AllX P l → ∀ c ∈ l, P c
  | d :: l, q, c, hc => by
    rcases List.mem_cons.mp hc with e | e
    · rw [e]
      exact q.1
    · exact AllX.get q.2 c e
abbrev ExX (_ : K.In h) (c : Str) : Prop := ∃ C, At K c C ∧ ExcC K C
abbrev ClX (_ : K.In h) (cl : Str) : Prop := ∃ D, At K cl D ∧ PySem.W.hasDictIn K D = true ∧ PySem.W.typeIn K (.ref D) = some (.type "type") ∧ PySem.W.subIn K (.type "NoneType") (.ref D) = some false
abbrev SbX (_ : K.In h) (c cl : Str) (b : Bool) : Prop := ∃ C D, At K c C ∧ At K cl D ∧ PySem.W.subIn K (.ref C) (.ref D) = some b ∧ (C = D → b = true)
abbrev SvX (_ : K.In h) (c : Str) : Prop := ∃ C, At K c C ∧ PySem.W.subIn K (.ref C) (.type "ValueError") = some true
abbrev RoX (_ : K.In h) : Prop := ∃ R, At K "RowError" R ∧ PySem.W.subIn K (.ref R) (.type "BaseException") = some true ∧ PySem.W.hasDictIn K R = true ∧ PySem.W.typeIn K (.ref R) = some (.type "type")
abbrev CsX (_ : K.In h) (c : Str) : Prop := ∃ C, At K c C ∧ Cls K C
abbrev NaX (_ : K.In h) (c f : Str) : Prop := ∃ C, At K c C ∧ NoAttr K C f
abbrev FvX (_ : K.In h) (x : Str) : Prop := ∃ f, At K x f
def MeAt (K : Frag) (c m qual : Str) (st : Stmt) : Prop := ∃ C f fd, At K c C ∧ Meth K C m f ∧ Fun K m qual st f fd
def InAt (K : Frag) (c qual : Str) (st : Stmt) : Prop := ∃ C f fd, At K c C ∧ Mk K C f ∧ PySem.W.keepIn K (.ref f) = true ∧ Fun K "__init__" qual st f fd
abbrev MeX (_ : K.In h) (c m qual : Str) (st : Stmt) : Prop := MeAt K c m qual st
abbrev InX (_ : K.In h) (c qual : Str) (st : Stmt) : Prop := InAt K c qual st
theorem ex_at {X : K.In h} (a : PySem.W.nsIn K mainGlobals c = some (some (.ref C))) (hg : PySem.W.findIn K (.ref C) "__getattribute__" = some (some (.builtin "BaseException.__getattribute__"))) (hk : PySem.W.findIn K (.ref C) "__getattr__" = some none)
    (hs : PySem.W.subIn K (.ref C) (.type "BaseException") = some true) (hd : PySem.W.hasDictIn K C = true) (ha : PySem.W.findIn K (.ref C) "__class__" = some (some (.builtin "object.__class__"))) (hn : PySem.W.specialIn K (.builtin "object.__class__") "__get__" = some (some (.builtin "getset_descriptor.__get__")))
    (ht : PySem.W.takesIn K (.builtin "object.__class__") = some true) (hm : PySem.W.mroIn K C (.type "object") = some true) : ExX X c := ⟨C, a, ⟨hg, hk, hs, hd, ha, hn, ht, hm⟩⟩
theorem cl_at {X : K.In h} (a : PySem.W.nsIn K mainGlobals c = some (some (.ref C))) (d : PySem.W.hasDictIn K C = true) (t : PySem.W.typeIn K (.ref C) = some (.type "type")) (n : PySem.W.subIn K (.type "NoneType") (.ref C) = some false) : ClX X c := ⟨C, a, d, t, n⟩
theorem sb_at {X : K.In h} {b : Bool} (a : PySem.W.nsIn K mainGlobals c = some (some (.ref C))) (a2 : PySem.W.nsIn K mainGlobals cl = some (some (.ref D))) (s : PySem.W.subIn K (.ref C) (.ref D) = some b) (e : C = D → b = true) : SbX X c cl b := ⟨C, D, a, a2, s, e⟩
theorem sv_at {X : K.In h} (a : PySem.W.nsIn K mainGlobals c = some (some (.ref C))) (s : PySem.W.subIn K (.ref C) (.type "ValueError") = some true) : SvX X c := ⟨C, a, s⟩
theorem ro_at {X : K.In h} (a : PySem.W.nsIn K mainGlobals "RowError" = some (some (.ref C))) (b : PySem.W.subIn K (.ref C) (.type "BaseException") = some true) (d : PySem.W.hasDictIn K C = true) (t : PySem.W.typeIn K (.ref C) = some (.type "type")) : RoX X := ⟨C, a, b, d, t⟩
theorem cs_at {X : K.In h} (a : PySem.W.nsIn K mainGlobals c = some (some (.ref C))) (pg : PySem.W.plainGet K C Str.empty = true) (hd : PySem.W.hasDictIn K C = true) (po : PySem.W.plainOver K C = true) (sa : PySem.W.findIn K (.ref C) "__setattr__" = some (some (.builtin "object.__setattr__"))) : CsX X c := ⟨C, a, ⟨pg, hd, po, sa⟩⟩
theorem na_at {X : K.In h} (a : PySem.W.nsIn K mainGlobals c = some (some (.ref C))) (n : PySem.W.findIn K (.ref C) f = some none) : NaX X c f := ⟨C, a, n⟩
theorem fv_at {X : K.In h} (a : PySem.W.nsIn K mainGlobals c = some (some (.ref C))) : FvX X c := ⟨C, a⟩
theorem me_at {X : K.In h} {qual : Str} {st : Stmt} {g : Addr} {oc : Value} {od an : Option Addr} {osl : Array (Option Value)} {kV doc pm cdv ct : Value} (a : PySem.W.nsIn K mainGlobals c = some (some (.ref C))) (e : PySem.W.findIn K (.ref C) m = some (some (.ref g))) (i : PySem.W.isFn K (.ref g) = true)
    (l : K.lookup g = some ⟨oc, od, .func (PySem.W.fnOf m qual (defArgs st) (defBody st) (defScope st) .none kV doc pm an cdv ct), osl⟩) (cd : PySem.W.codeIn K cdv qual = true) (k : PySem.W.keepIn K (.ref g) = true) : MeX X c m qual st := ⟨C, g, _, a, ⟨e, i, k⟩, fun_mk l cd k⟩
theorem in_at {X : K.In h} {qual : Str} {st : Stmt} {g : Addr} {oc : Value} {od an : Option Addr} {osl : Array (Option Value)} {kV doc pm cdv ct : Value} (a : PySem.W.nsIn K mainGlobals c = some (some (.ref C))) (e : PySem.W.findIn K (.ref C) "__init__" = some (some (.ref g))) (i : PySem.W.isFn K (.ref g) = true)
    (l : K.lookup g = some ⟨oc, od, .func (PySem.W.fnOf "__init__" qual (defArgs st) (defBody st) (defScope st) .none kV doc pm an cdv ct), osl⟩) (cd : PySem.W.codeIn K cdv qual = true) (k : PySem.W.keepIn K (.ref g) = true) (mk : PySem.W.makesIn K C = true) (kc : PySem.W.keepIn K (.ref C) = true) : InX X c qual st := ⟨C, g, _, a, ⟨mk, e, i, kc⟩, k, fun_mk l cd k⟩
theorem kit_ref {u b : Bool} (d : PySem.W.hasDictIn K D = true) (t : PySem.W.typeIn K (.ref D) = some (.type "type")) (s : PySem.W.subIn K (.ref C) (.ref D) = some b) (e : C = D → b = true) : PySem.W.kitOne K (.ref C) (.ref D) = some b := by
  unfold PySem.W.kitOne
  by_cases q : (Value.ref C == Value.ref D) = true
  · rw [if_pos q, e (Value.ref.inj (beq_iff_eq.mp q))]
  · rw [if_neg q]
    obtain ⟨cd, hc, _⟩ := PySem.W.any_some d
    show (if ((PySem.W.clsIn K D).isSome && PySem.W.typeIn K (.ref D) == some (.type "type")) = true then PySem.W.subIn K (.ref C) (.ref D) else none) = some b
    rw [if_pos (by rw [hc, t]; rfl)]
    exact s
theorem kit_none (d : PySem.W.hasDictIn K D = true) (t : PySem.W.typeIn K (.ref D) = some (.type "type")) (s : PySem.W.subIn K (.type "NoneType") (.ref D) = some false) : PySem.W.kitOne K (.type "NoneType") (.ref D) = some false := by
  unfold PySem.W.kitOne
  rw [if_neg (by intro z; cases beq_iff_eq.mp z)]
  obtain ⟨cd, hc, _⟩ := PySem.W.any_some d
  show (if ((PySem.W.clsIn K D).isSome && PySem.W.typeIn K (.ref D) == some (.type "type")) = true then PySem.W.subIn K (.type "NoneType") (.ref D) else none) = some false
  rw [if_pos (by rw [hc, t]; rfl)]
  exact s
theorem isa_own {cv : Str → Value} {cs : List Str} (X : K.In h) (G : h.Ns mainGlobals mg) (hc : ClX X cl) (l : AllX (fun c => ExX X c ∧ ∃ b, SbX X c cl b ∧ excSub c cl = b) cs) : IsaOk K mg cv cs cl := by
  obtain ⟨D, a, d, t, n⟩ := hc
  refine ⟨.ref D, .ref D, ⟨rfl, .own D, .inl (a.here X G)⟩, kit_none d t n, fun c hcs => ?_⟩
  obtain ⟨⟨C, a1, e1⟩, b, ⟨C2, D2, a2, a3, s, e⟩, eb⟩ := l.get c hcs
  cases a1.one a2
  cases a.one a3
  exact ⟨C, a1.cls, e1, by rw [eb]; exact kit_ref (u := true) d t s e⟩
theorem isa_val {cv : Str → Value} {cs : List Str} (X : K.In h) (G : h.Ns mainGlobals mg) (hn : PySem.W.nsIn K mainGlobals "ValueError" = some none) (l : AllX (fun c => ExX X c ∧ SvX X c) cs) : IsaOk K mg cv cs "ValueError" := by
  refine ⟨.ty "ValueError", .type "ValueError", ⟨rfl, .ty _, .inr ⟨PySem.W.mg_none_of X G hn, by decide +kernel, by decide +kernel⟩⟩, kit_ty (by decide +kernel), fun c hcs => ?_⟩
  obtain ⟨⟨C, a1, e1⟩, C2, a2, s⟩ := l.get c hcs
  cases a1.one a2
  refine ⟨C, a1.cls, e1, ?_⟩
  have e : excSub c "ValueError" = true := by
    unfold excSub
    simp
  rw [e]
  unfold PySem.W.kitOne
  rw [if_neg (by intro z; cases beq_iff_eq.mp z)]
  show (if PySem.W.kitMeta "ValueError" = true then PySem.W.subIn K (.ref C) (.type "ValueError") else none) = some true
  rw [if_pos (by decide +kernel)]
  exact s
theorem cat_at {cs : List Str} (X : K.In h) (G : h.Ns mainGlobals mg) (hr : RoX X) (l : AllX (fun c => ExX X c ∧ SbX X c "RowError" true) cs) : CatOk K mg (cvOf mg) cs "RowError" := by
  obtain ⟨R, a, b, d, t⟩ := hr
  refine ⟨R, a.here X G, fun c hcs => ?_⟩
  obtain ⟨⟨C, a1, e1⟩, C2, D2, a2, a3, s, e⟩ := l.get c hcs
  cases a1.one a2
  cases a.one a3
  exact ⟨C, by unfold cvOf; rw [a1.here X G]; rfl, a1.cls, e1, PySem.W.exm_ref b d t s⟩
abbrev IsaN (_ : K.In h) (mg : Str → Option Value) (cs : List Str) (cl : Str) : Prop := IsaOk K mg (cvOf mg) cs cl
abbrev IsaV (_ : K.In h) (mg : Str → Option Value) (cs : List Str) : Prop := IsaOk K mg (cvOf mg) cs "ValueError"
abbrev CatN (_ : K.In h) (mg : Str → Option Value) (cs : List Str) : Prop := CatOk K mg (cvOf mg) cs "RowError"
abbrev RcX (_ : K.In h) (c : Str) : Prop := ∃ R, At K c R ∧ PySem.W.subIn K (.ref R) (.type "BaseException") = some true ∧ PySem.W.hasDictIn K R = true ∧ PySem.W.typeIn K (.ref R) = some (.type "type")
theorem rc_at {X : K.In h} (a : PySem.W.nsIn K mainGlobals c = some (some (.ref C))) (b : PySem.W.subIn K (.ref C) (.type "BaseException") = some true) (d : PySem.W.hasDictIn K C = true) (t : PySem.W.typeIn K (.ref C) = some (.type "type")) : RcX X c := ⟨C, a, b, d, t⟩
theorem cat_one (X : K.In h) (G : h.Ns mainGlobals mg) (hr : RcX X c) (hc : ExX X c) (hs : SbX X c c true) : CatOk K mg (cvOf mg) [c] c := by
  obtain ⟨R, a, b, d, t⟩ := hr
  obtain ⟨C, a1, e1⟩ := hc
  obtain ⟨C2, D2, a2, a3, s, e⟩ := hs
  cases a.one a1
  cases a.one a2
  cases a.one a3
  refine ⟨R, a.here X G, fun z hz => ?_⟩
  rw [List.mem_singleton] at hz
  subst hz
  exact ⟨R, by unfold cvOf; rw [a1.here X G]; rfl, a1.cls, e1, PySem.W.exm_ref b d t s⟩
/-- the entries of a table of texts -/
def EntsB (P : Params) : List DictEntry → List (Str × Bool) → Prop
  | [], [] => True
  | e :: r, (x, b) :: l => (∃ t, e.key = .str x t) ∧ e.hash = PyData.keyHash P x ∧ e.val = .bool b ∧ EntsB P r l
  | _, _ => False
theorem EntsB.lit {P : Params} : ∀ {es : List DictEntry} {kvs : List (Str × Bool)}, EntsB P es kvs → PySem.W.KeysLit P es
  | [], _, _ => trivial
  | e :: r, (x, b) :: l, ⟨⟨t, h1⟩, h2, _, h4⟩ => ⟨⟨x, t, h1, h2⟩, h4.lit⟩
  | _ :: _, [], h => h.elim
theorem EntsB.find {P : Params} (z : Str) : ∀ {es : List DictEntry} {kvs : List (Str × Bool)}, EntsB P es kvs → (match es.find? (·.key.isStr z) with
      | some e => some (some e.val)
      | none => if es.any (·.refKey) then none else some none) = some ((lkB z kvs).map Value.bool)
  | [], [], _ => rfl
  | [], _ :: _, h => h.elim
  | _ :: _, [], h => h.elim
  | e :: r, (x, b) :: l, ⟨⟨t, h1⟩, h2, h3, h4⟩ => by
    have ih := h4.find z
    have ek : e.key.isStr z = decide (x = z) := by
      rw [PySem.W.isStr_of, h1]
      show (x == z) = decide (x = z)
      by_cases c : x = z
      · rw [beq_iff_eq.mpr c, decide_eq_true c]
      · rw [beq_eq_false_iff_ne.mpr c, decide_eq_false c]
    have er : e.refKey = false := by
      unfold DictEntry.refKey
      rw [h1]
    rw [List.find?_cons, ek, List.any_cons, er, Bool.false_or]
    unfold lkB
    by_cases c : x = z
    · simp only [decide_eq_true c, if_pos c, h3]
      rfl
    · simp only [decide_eq_false c, if_neg c]
      exact ih
theorem kdc_at {w : World} {K : Frag} {mg : Str → Option Value} {h : Heap} (X : K.In h) (G : h.Ns mainGlobals mg) {x : Str} {d : Addr} {es : Array DictEntry} {n : Nat} {kvs : List (Str × Bool)} (a : PySem.W.nsIn K mainGlobals x = some (some (.ref d))) (b : K.lookup d = some ⟨.type "dict", none, .dict es n, #[]⟩)
    (e : EntsB w.params es.toList kvs) (lo : (d == sysModules) = false) : KdcOk w K mg x kvs :=
  ⟨d, es, n, PySem.W.mg_of X G a, ⟨b, e.lit, lo⟩, fun z => by
    unfold PySem.W.nsIn
    rw [b]
    exact e.find z⟩
theorem fld_at (X : K.In h) (hc : CsX X c) (hn : NaX X c f) : FldOk K c f := by
  obtain ⟨C, a, hC⟩ := hc
  obtain ⟨D, b, hn⟩ := hn
  cases a.one b
  exact ⟨C, a.cls, hC, hn⟩
theorem fnv_at (X : K.In h) (G : h.Ns mainGlobals mg) (hc : FvX X x) : FnvOk K mg x := by
  obtain ⟨f, a⟩ := hc
  exact ⟨f, a.here X G, a⟩
theorem fnc_at {P : Program} {w : World} {base : Heap} {cv : Str → Value} {k : Nat} {F : Spec} (X : K.In h) (G : h.Ns mainGlobals mg) (hc : FvX X x) (hf : CallG P w K mg base cv k x F) : FncOk P w K mg base cv k x F := by
  obtain ⟨f, a⟩ := hc
  obtain ⟨f2, fd, ps, h1, h2, h3, h4⟩ := hf
  have e := (a.here X G).symm.trans h1
  cases e
  exact ⟨f, a, fd, ps, h2, h3, h4⟩
end
section
variable {P : Program} {w : World} {K : Frag} {mg : Str → Option Value} {base : Heap} {cv : Str → Value} {j k : Nat} {c m x : Str} {F : Spec}
theorem CallA.mono {f : Addr} (h : CallA P w K mg base cv j f F) (hk : j ≤ k) : CallA P w K mg base cv k f F := by
  obtain ⟨fd, ps, h2, h3, h4⟩ := h
  exact ⟨fd, ps, h2, h3, h4.mono hk⟩
theorem MetOk.mono (h : MetOk P w K mg base cv j c m F) (hk : j ≤ k) : MetOk P w K mg base cv k c m F := by
  obtain ⟨C, f, h1, h2, h3, h4⟩ := h
  exact ⟨C, f, h1, h2, h3, h4.mono hk⟩
theorem MakOk.mono (h : MakOk P w K mg base cv j c F) (hk : j ≤ k) : MakOk P w K mg base cv k c F := by
  obtain ⟨C, f, i, h0, h1, h2, h3, h4⟩ := h
  exact ⟨C, f, i, Nat.le_trans h0 hk, h1, h2, h3, h4⟩
theorem FncOk.mono (h : FncOk P w K mg base cv j x F) (hk : j ≤ k) : FncOk P w K mg base cv k x F := by
  obtain ⟨f, h1, h2⟩ := h
  exact ⟨f, h1, h2.mono hk⟩
end
end T

/-! T: laws of the meaning: equality of data, loops, comprehensions. -/
namespace T
open PySem L2
/-! ### equality -/
/-- data that stand for the values of a kind, told apart by == -/
structure EqF {α : Type} (f : α → D) (n : Nat) : Prop where
  pure : ∀ a, (f a).pure = true
  lay : ∀ a, (f a).py.canLay0 = true
  dep : ∀ a, (f a).py.depth ≤ n
  eqv : ∀ a b, D.eqv (f a) (f b) = true ↔ a = b
theorem EqF.int : EqF D.int 0 := ⟨fun _ => rfl, fun _ => by simp [D.py, PyData.canLay0], fun _ => by simp [D.py, PyData.depth], fun a b => by simp [D.eqv, D.py, PyData.eqv]⟩
theorem EqF.bl : EqF D.bl 0 := ⟨fun _ => rfl, fun _ => by simp [D.py, PyData.canLay0], fun _ => by simp [D.py, PyData.depth], fun a b => by simp [D.eqv, D.py, PyData.eqv]⟩
section
variable {α β γ : Type} {f : α → D} {g : β → D} {h : γ → D} {n m k : Nat}
theorem EqF.pures (e : EqF f n) : ∀ l : List α, D.pures (l.map f) = true
  | [] => rfl
  | a :: l => by
    show (D.pure (f a) && D.pures (l.map f)) = true
    rw [e.pure a, e.pures l]; rfl
theorem EqF.lays (e : EqF f n) : ∀ l : List α, PyData.canLayAll0 (D.pys (l.map f)) = true
  | [] => by simp [D.pys, PyData.canLayAll0]
  | a :: l => by
    show PyData.canLayAll0 (D.py (f a) :: D.pys (l.map f)) = true
    unfold PyData.canLayAll0
    rw [e.lay a, e.lays l]; rfl
theorem EqF.deps (e : EqF f n) : ∀ l : List α, PyData.depthAll (D.pys (l.map f)) ≤ n
  | [] => by simp [D.pys, PyData.depthAll]
  | a :: l => by
    show PyData.depthAll (D.py (f a) :: D.pys (l.map f)) ≤ n
    unfold PyData.depthAll
    exact Nat.max_le.mpr ⟨e.dep a, e.deps l⟩
theorem EqF.eqvs (e : EqF f n) : ∀ l l' : List α, PyData.eqvAll (D.pys (l.map f)) (D.pys (l'.map f)) = true ↔ l = l'
  | [], [] => by simp [D.pys, PyData.eqvAll]
  | [], _ :: _ => by simp [D.pys, PyData.eqvAll]
  | _ :: _, [] => by simp [D.pys, PyData.eqvAll]
  | a :: l, b :: l' => by
    show PyData.eqvAll (D.py (f a) :: D.pys (l.map f)) (D.py (f b) :: D.pys (l'.map f)) = true ↔ _
    unfold PyData.eqvAll
    rw [Bool.and_eq_true, e.eqvs l l', List.cons.injEq]
    exact and_congr (e.eqv a b) Iff.rfl
theorem EqF.lst (e : EqF f n) : EqF (fun l : List α => D.lst (l.map f)) (n + 1) :=
  ⟨fun l => e.pures l, fun l => by simp [D.py, PyData.canLay0, e.lays l], fun l => by simp [D.py, PyData.depth, e.deps l], fun a b => by
    show PyData.eqv (.list _) (.list _) = true ↔ _
    unfold PyData.eqv
    exact e.eqvs a b⟩
theorem EqF.tup (e : EqF f n) : EqF (fun l : List α => D.tup (l.map f)) (n + 1) :=
  ⟨fun l => e.pures l, fun l => by simp [D.py, PyData.canLay0, e.lays l], fun l => by simp [D.py, PyData.depth, e.deps l], fun a b => by
    show PyData.eqv (.tuple _) (.tuple _) = true ↔ _
    unfold PyData.eqv
    exact e.eqvs a b⟩
theorem EqF.tup2 (e1 : EqF f n) (e2 : EqF g n) : EqF (fun p : α × β => D.tup [f p.1, g p.2]) (n + 1) :=
  ⟨fun p => by
    show (D.pure (f p.1) && (D.pure (g p.2) && true)) = true
    rw [e1.pure, e2.pure]; rfl,
   fun p => by simp [D.py, D.pys, PyData.canLay0, PyData.canLayAll0, e1.lay, e2.lay],
   fun p => by
    have h1 := e1.dep p.1
    have h2 := e2.dep p.2
    simp only [D.py, D.pys, PyData.depth, PyData.depthAll]; omega,
   fun p q => by
    show PyData.eqv (.tuple [_, _]) (.tuple [_, _]) = true ↔ _
    have h1 := e1.eqv p.1 q.1
    have h2 := e2.eqv p.2 q.2
    unfold D.eqv at h1 h2
    simp only [PyData.eqv, PyData.eqvAll, Bool.and_eq_true, h1, h2, and_true, Prod.ext_iff]⟩
theorem EqF.tup3 (e1 : EqF f n) (e2 : EqF g n) (e3 : EqF h n) : EqF (fun p : α × β × γ => D.tup [f p.1, g p.2.1, h p.2.2]) (n + 1) :=
  ⟨fun p => by
    show (D.pure (f p.1) && (D.pure (g p.2.1) && (D.pure (h p.2.2) && true))) = true
    rw [e1.pure, e2.pure, e3.pure]; rfl,
   fun p => by simp [D.py, D.pys, PyData.canLay0, PyData.canLayAll0, e1.lay, e2.lay, e3.lay],
   fun p => by
    have h1 := e1.dep p.1
    have h2 := e2.dep p.2.1
    have h3 := e3.dep p.2.2
    simp only [D.py, D.pys, PyData.depth, PyData.depthAll]; omega,
   fun p q => by
    show PyData.eqv (.tuple [_, _, _]) (.tuple [_, _, _]) = true ↔ _
    have h1 := e1.eqv p.1 q.1
    have h2 := e2.eqv p.2.1 q.2.1
    have h3 := e3.eqv p.2.2 q.2.2
    unfold D.eqv at h1 h2 h3
    simp only [PyData.eqv, PyData.eqvAll, Bool.and_eq_true, h1, h2, h3, and_true, Prod.ext_iff]⟩
theorem EqF.ok (e : EqF f n) (a : α) (h : n ≤ 64 := by decide) : (f a).eqok = true := by
  unfold D.eqok SeqAt.shaped
  rw [e.pure, e.lay, decide_eq_true (Nat.le_trans (e.dep a) h)]; rfl
theorem EqF.dec [DecidableEq α] (e : EqF f n) (a b : α) : D.eqv (f a) (f b) = decide (a = b) := by
  have q := e.eqv a b
  by_cases hab : a = b
  · rw [decide_eq_true hab]; exact q.mpr hab
  · rw [decide_eq_false hab]
    cases z : D.eqv (f a) (f b) with
    | true => exact absurd (q.mp z) hab
    | false => rfl
theorem EqF.no (e : EqF f n) {a b : α} (h : a ≠ b) : D.eqv (f a) (f b) = false := by
  cases z : D.eqv (f a) (f b) with
  | true => exact absurd ((e.eqv a b).mp z) h
  | false => rfl
theorem EqF.yes (e : EqF f n) (a : α) : D.eqv (f a) (f a) = true := (e.eqv a a).mpr rfl
end
@[simp] theorem eqok_int (i : Int) : (D.int i).eqok = true := EqF.int.ok i
@[simp] theorem eqok_bl (i : Bool) : (D.bl i).eqok = true := EqF.bl.ok i
@[simp] theorem eqok_nil : (D.lst []).eqok = true := EqF.int.lst.ok []
@[simp] theorem eqok_non : D.non.eqok = true := by simp [D.eqok, D.pure, D.py, SeqAt.shaped, PyData.canLay0, PyData.depth]
@[simp] theorem eqv_int (i j : Int) : D.eqv (.int i) (.int j) = decide (i = j) := EqF.int.dec i j
@[simp] theorem eqv_bl (i j : Bool) : D.eqv (.bl i) (.bl j) = decide (i = j) := EqF.bl.dec i j
@[simp] theorem eqv_str (s t : Str) : D.eqv (.str s) (.str t) = decide (s = t) := by
  show PyData.eqv (.str s) (.str t) = _
  unfold PyData.eqv
  by_cases h : s = t
  · simp [h]
  · simp [h]
@[simp] theorem eqv_nil (d : D) (l : List D) : D.eqv (.lst (d :: l)) (.lst []) = false := by
  show PyData.eqv (.list (_ :: _)) (.list []) = _
  simp [PyData.eqv, PyData.eqvAll]
@[simp] theorem eqv_nil0 : D.eqv (.lst []) (.lst []) = true := EqF.int.lst.yes []
/-- lists against the empty one -/
theorem eqv_emp (l : List D) : D.eqv (.lst l) (.lst []) = l.isEmpty := by
  cases l with
  | nil => exact eqv_nil0
  | cons d l => exact eqv_nil d l

/-! ### loops -/
/-- a for, by an invariant -/
theorem floop_inv {g : Mp → Prop} {step : D → Env → Mp → (Env → Mp → Prop) → Prop} {n : Env → Mp → Prop} (P : Nat → Env → Mp → Prop) : ∀ (ds : List D) (i : Nat) (ρ : Env) (M : Mp), P i ρ M →
    (∀ j d ρ M (q : Env → Mp → Prop), ds[j]? = some d → P (i + j) ρ M → (∀ ρ' M', P (i + j + 1) ρ' M' → q ρ' M') → g M ∧ step d ρ M q) →
    (∀ ρ M, P (i + ds.length) ρ M → g M ∧ n ρ M) → floop g step ds ρ M n
  | [], i, ρ, M, h, hs, he => he ρ M h
  | d :: ds, i, ρ, M, h, hs, he => by
    have h0 := hs 0 d ρ M (fun ρ1 M1 => floop g step ds ρ1 M1 n) rfl h fun ρ' M' p => ?_
    · exact h0
    · refine floop_inv P ds (i + 1) ρ' M' p (fun j e ρ M q hj hp hq => hs (j + 1) e ρ M q hj (by rw [show i + (j + 1) = i + 1 + j by omega]; exact hp) fun ρ' M' p => hq ρ' M' (by rw [show i + 1 + j + 1 = i + (j + 1) + 1 by omega]; exact p)) fun ρ M p => he ρ M ?_
      rw [List.length_cons, show i + (ds.length + 1) = i + 1 + ds.length by omega]
      exact p
theorem floop_go {g : Mp → Prop} {step : D → Env → Mp → (Env → Mp → Prop) → Prop} {n : Env → Mp → Prop} {ds : List D} {ρ : Env} {M : Mp} (P : Nat → Env → Mp → Prop) (h0 : P 0 ρ M)
    (hs : ∀ j d ρ M (q : Env → Mp → Prop), ds[j]? = some d → P j ρ M → (∀ ρ' M', P (j + 1) ρ' M' → q ρ' M') → g M ∧ step d ρ M q) (he : ∀ ρ M, P ds.length ρ M → g M ∧ n ρ M) : floop g step ds ρ M n :=
  floop_inv P ds 0 ρ M h0 (fun j d ρ M q hj hp hq => hs j d ρ M q hj (by rw [Nat.zero_add] at hp; exact hp) fun ρ' M' p => hq ρ' M' (by rw [Nat.zero_add]; exact p)) fun ρ M p => he ρ M (by rw [Nat.zero_add] at p; exact p)
/-- an invariant that doesn't count -/
theorem floop_all {g : Mp → Prop} {step : D → Env → Mp → (Env → Mp → Prop) → Prop} {n : Env → Mp → Prop} {ds : List D} {ρ : Env} {M : Mp} (P : Env → Mp → Prop) (h0 : P ρ M)
    (hs : ∀ d ρ M (q : Env → Mp → Prop), d ∈ ds → P ρ M → (∀ ρ' M', P ρ' M' → q ρ' M') → g M ∧ step d ρ M q) (he : ∀ ρ M, P ρ M → g M ∧ n ρ M) : floop g step ds ρ M n :=
  floop_go (fun _ => P) h0 (fun j d ρ M q hj hp hq => hs d ρ M q (List.mem_of_getElem? hj) hp hq) fun ρ M p => he ρ M p
/-- a comprehension whose turns change nothing and tell what a function tells -/
theorem turns_fn {g : Mp → Prop} {step : D → Mp → (Option D → Mp → Prop) → Prop} {M : Mp} {k : List D → Mp → Prop} (f : D → Option D) (hg : g M) : ∀ (ds acc : List D), (∀ d ∈ ds, ∀ q : Option D → Mp → Prop, q (f d) M → step d M q) → k (acc ++ ds.filterMap f) M → turns g step ds acc M k
  | [], acc, h, hk => ⟨hg, by rw [List.filterMap_nil, List.append_nil] at hk; exact hk⟩
  | d :: ds, acc, h, hk => by
    refine ⟨hg, h d List.mem_cons_self _ ?_⟩
    cases e : f d with
    | none =>
      rw [List.filterMap_cons, e] at hk
      exact turns_fn f hg ds acc (fun d' hd => h d' (List.mem_cons_of_mem _ hd)) hk
    | some y =>
      rw [List.filterMap_cons, e] at hk
      exact turns_fn f hg ds (acc ++ [y]) (fun d' hd => h d' (List.mem_cons_of_mem _ hd)) (by rw [List.append_assoc]; exact hk)
/-- ... one of each item -/
theorem turns_map {α : Type} {g : Mp → Prop} {step : D → Mp → (Option D → Mp → Prop) → Prop} {M : Mp} {k : List D → Mp → Prop} {e : α → D} (f : α → D) (hg : g M) (l : List α) (h : ∀ a ∈ l, ∀ q : Option D → Mp → Prop, q (some (f a)) M → step (e a) M q) (hk : k (l.map f) M) : turns g step (l.map e) [] M k := by
  have go : ∀ (l : List α) (acc : List D), (∀ a ∈ l, ∀ q : Option D → Mp → Prop, q (some (f a)) M → step (e a) M q) → k (acc ++ l.map f) M → turns g step (l.map e) acc M k := by
    intro l
    induction l with
    | nil => intro acc h hk; exact ⟨hg, by rw [List.map_nil, List.append_nil] at hk; exact hk⟩
    | cons a l ih =>
      intro acc h hk
      refine ⟨hg, h a List.mem_cons_self _ ?_⟩
      refine ih (acc ++ [f a]) (fun b hb => h b (List.mem_cons_of_mem _ hb)) ?_
      rw [List.append_assoc]
      exact hk
  exact go l [] h hk
/-- ... of those that a test takes -/
theorem turns_fil {α : Type} {g : Mp → Prop} {step : D → Mp → (Option D → Mp → Prop) → Prop} {M : Mp} {k : List D → Mp → Prop} {e : α → D} (p : α → Bool) (f : α → D) (hg : g M) (l : List α) (h : ∀ a ∈ l, ∀ q : Option D → Mp → Prop, q (if p a = true then some (f a) else none) M → step (e a) M q) (hk : k ((l.filter p).map f) M) : turns g step (l.map e) [] M k := by
  have go : ∀ (l : List α) (acc : List D), (∀ a ∈ l, ∀ q : Option D → Mp → Prop, q (if p a = true then some (f a) else none) M → step (e a) M q) → k (acc ++ (l.filter p).map f) M → turns g step (l.map e) acc M k := by
    intro l
    induction l with
    | nil => intro acc h hk; exact ⟨hg, by rw [List.filter_nil, List.map_nil, List.append_nil] at hk; exact hk⟩
    | cons a l ih =>
      intro acc h hk
      refine ⟨hg, h a List.mem_cons_self _ ?_⟩
      by_cases hp : p a = true
      · rw [if_pos hp]
        refine ih (acc ++ [f a]) (fun b hb => h b (List.mem_cons_of_mem _ hb)) ?_
        rw [List.filter_cons, if_pos hp, List.map_cons] at hk
        rw [List.append_assoc]
        exact hk
      · rw [if_neg hp]
        rw [List.filter_cons, if_neg hp] at hk
        exact ih acc (fun b hb => h b (List.mem_cons_of_mem _ hb)) hk
  exact go l [] h hk
/-- ... of which something is known -/
theorem turns_rel {g : Mp → Prop} {step : D → Mp → (Option D → Mp → Prop) → Prop} {M : Mp} {k : List D → Mp → Prop} (R : D → D → Prop) (hg : g M) (ds : List D) (h : ∀ d ∈ ds, ∀ q : Option D → Mp → Prop, (∀ y, R d y → q (some y) M) → step d M q)
    (hk : ∀ l : List D, l.length = ds.length → (∀ (i : Nat) (d y : D), ds[i]? = some d → l[i]? = some y → R d y) → k l M) : turns g step ds [] M k := by
  have go : ∀ (ds pre acc : List D), (∀ d ∈ ds, ∀ q : Option D → Mp → Prop, (∀ y, R d y → q (some y) M) → step d M q) → acc.length = pre.length → (∀ (i : Nat) (d y : D), pre[i]? = some d → acc[i]? = some y → R d y) →
      (∀ l : List D, l.length = (pre ++ ds).length → (∀ (i : Nat) (d y : D), (pre ++ ds)[i]? = some d → l[i]? = some y → R d y) → k l M) → turns g step ds acc M k := by
    intro ds
    induction ds with
    | nil => intro pre acc h hl hr hk; exact ⟨hg, hk acc (by rw [List.append_nil]; exact hl) (by rw [List.append_nil]; exact hr)⟩
    | cons d ds ih =>
      intro pre acc h hl hr hk
      refine ⟨hg, h d List.mem_cons_self _ fun y hy => ?_⟩
      refine ih (pre ++ [d]) (acc ++ [y]) (fun b hb => h b (List.mem_cons_of_mem _ hb)) (by rw [List.length_append, List.length_append, hl]; rfl) (fun i d' y' h1 h2 => ?_) (fun l h1 h2 => hk l (by rw [h1]; simp) (by rw [List.append_assoc] at h2; exact h2))
      by_cases c : i < pre.length
      · rw [List.getElem?_append_left c] at h1
        rw [List.getElem?_append_left (by omega)] at h2
        exact hr i d' y' h1 h2
      · rw [List.getElem?_append_right (by omega)] at h1
        rw [List.getElem?_append_right (by omega), hl] at h2
        cases hz : i - pre.length with
        | zero =>
          rw [hz] at h1 h2
          cases h1
          cases h2
          exact hy
        | succ m =>
          rw [hz] at h1
          cases h1
  exact go ds [] [] h rfl (fun i d y h1 => by cases h1) hk
/-! ### small things -/
theorem mem_rangeD {i j : Int} {d : D} (h : d ∈ rangeD i j) : ∃ n : Int, d = .int n ∧ i ≤ n ∧ n < j := by
  unfold rangeD at h
  obtain ⟨n, hn, rfl⟩ := List.mem_map.mp h
  rw [List.mem_range] at hn
  exact ⟨_, rfl, by omega, by omega⟩
theorem get_rangeD {i j : Int} {n : Nat} {d : D} (h : (rangeD i j)[n]? = some d) : d = .int (i + n) ∧ n < (j - i).toNat := by
  unfold rangeD at h
  rw [List.getElem?_map] at h
  by_cases c : n < (j - i).toNat
  · rw [List.getElem?_range c] at h
    cases h
    exact ⟨rfl, c⟩
  · rw [List.getElem?_eq_none (by rw [List.length_range]; omega)] at h
    cases h
theorem len_rangeD {i j : Int} : (rangeD i j).length = (j - i).toNat := by
  unfold rangeD
  rw [List.length_map, List.length_range]
theorem sIx_some {n : Nat} {d : Nat} {i : Int} (h0 : 0 ≤ i) : HT.sIx n d (some i) = min i.toNat n := by
  unfold HT.sIx
  simp only
  split <;> omega
theorem sIx_none {n d : Nat} : HT.sIx n d none = d := rfl
theorem atI_get {α : Type} {l : List α} {i : Int} {a : α} (h0 : 0 ≤ i) (h : l[i.toNat]? = some a) : atI l i = some a := by
  have hl : i.toNat < l.length := (List.getElem?_eq_some_iff.mp h).1
  unfold atI ixN
  rw [if_pos h0, if_pos (by omega)]
  exact h
theorem atI_ex {α : Type} {l : List α} {i : Int} (h0 : 0 ≤ i) (h1 : i < l.length) : ∃ a, atI l i = some a ∧ l[i.toNat]? = some a :=
  ⟨l[i.toNat]'(by omega), atI_get h0 (List.getElem?_eq_getElem (by omega)), List.getElem?_eq_getElem (by omega)⟩
theorem atI_some {α : Type} {l : List α} {i : Int} (h0 : 0 ≤ i) (h1 : i < l.length) : ∃ a ∈ l, atI l i = some a :=
  let ⟨a, e, h⟩ := atI_ex h0 h1
  ⟨a, List.mem_of_getElem? h, e⟩
theorem atI_map {α β : Type} {l : List α} {i : Int} {f : α → β} {a : α} (h0 : 0 ≤ i) (h : l[i.toNat]? = some a) : atI (l.map f) i = some (f a) :=
  atI_get h0 (by rw [List.getElem?_map, h]; rfl)
theorem ixN_nat {n : Nat} {i : Int} (h0 : 0 ≤ i) (h : i < n) : ixN n i = some i.toNat := by
  unfold ixN
  rw [if_pos h0, if_pos h]
theorem sIx_get {n : Nat} {d : Nat} {i : Int} (h0 : 0 ≤ i) (h1 : i ≤ n) : HT.sIx n d (some i) = i.toNat := by
  rw [sIx_some h0]; omega
theorem cutD_map {α : Type} (f : α → D) (l : List α) (lo hi : Option Int) : cutD (l.map f) lo hi = ((l.drop (HT.sIx l.length 0 lo)).take (HT.sIx l.length l.length hi - HT.sIx l.length 0 lo)).map f := by
  unfold cutD
  rw [List.length_map, ← List.map_drop, ← List.map_take]
/-- l[:i], l[i:], l[i:j] -/
theorem cutD_to {l : List D} {i : Int} (h0 : 0 ≤ i) : cutD l none (some i) = l.take i.toNat := by
  unfold cutD
  rw [sIx_some h0]
  show List.take (min i.toNat l.length - 0) (List.drop 0 l) = _
  rw [List.drop_zero, Nat.sub_zero, List.take_eq_take_iff]
  omega
theorem cutD_from {l : List D} {i : Int} (h0 : 0 ≤ i) : cutD l (some i) none = l.drop i.toNat := by
  unfold cutD
  rw [sIx_some h0]
  show List.take (l.length - min i.toNat l.length) (List.drop (min i.toNat l.length) l) = _
  by_cases c : i.toNat ≤ l.length
  · rw [Nat.min_eq_left c, List.take_of_length_le (by rw [List.length_drop]; exact Nat.le_refl _)]
  · rw [Nat.min_eq_right (by omega), List.drop_of_length_le (by omega : l.length ≤ i.toNat), Nat.sub_self]
    rfl
theorem cutD_mid {l : List D} {i j : Int} (h0 : 0 ≤ i) (h1 : 0 ≤ j) : cutD l (some i) (some j) = (l.drop i.toNat).take (j.toNat - i.toNat) := by
  unfold cutD
  rw [sIx_some h0, sIx_some h1]
  by_cases c : i.toNat ≤ l.length
  · rw [Nat.min_eq_left c, List.take_eq_take_iff, List.length_drop]
    omega
  · rw [Nat.min_eq_right (by omega : l.length ≤ i.toNat), List.drop_of_length_le (by omega : l.length ≤ i.toNat), List.drop_of_length_le (Nat.le_refl _)]
    simp
theorem sizeLine_val : sizeLine = 16777216 := sizeLine_eq
/-! ### the meaning, case by case -/
theorem bop_add {i j : Int} {k : D → Prop} : bop .add (.int i) (.int j) k = k (.int (i + j)) := rfl
theorem bop_sub {i j : Int} {k : D → Prop} : bop .sub (.int i) (.int j) k = k (.int (i - j)) := rfl
theorem bop_mul {i j : Int} {k : D → Prop} : bop .mul (.int i) (.int j) k = (CMul i j ∧ k (.int (i * j))) := rfl
theorem bop_mulW {i j : Int} {k : D → Prop} : bop .mulW (.int i) (.int j) k = (CMulW i j ∧ k (.int (i * j))) := rfl
theorem bop_fdiv {i j : Int} {k : D → Prop} : bop .fdiv (.int i) (.int j) k = (CDiv i j ∧ k (.int (i / j))) := rfl
theorem bop_fdivW {i j : Int} {k : D → Prop} : bop .fdivW (.int i) (.int j) k = (CDivW i j ∧ k (.int (i / j))) := rfl
theorem bop_mod {i j : Int} {k : D → Prop} : bop .mod (.int i) (.int j) k = (0 < j ∧ k (.int (i % j))) := rfl
theorem bop_modN {i j : Int} {k : D → Prop} : bop .modN (.int i) (.int j) k = (j ≠ 0 ∧ k (.int (i.fmod j))) := rfl
theorem bop_pow {i j : Int} {k : D → Prop} : bop .pow (.int i) (.int j) k = (CPow i j ∧ k (.int (i ^ j.toNat))) := rfl
theorem bop_shl {i j : Int} {k : D → Prop} : bop .shl (.int i) (.int j) k = (CPow i j ∧ k (.int (i * 2 ^ j.toNat))) := rfl
theorem bop_shr {i j : Int} {k : D → Prop} : bop .shr (.int i) (.int j) k = (0 ≤ j ∧ k (.int (i / 2 ^ j.toNat))) := rfl
theorem bop_band {i j : Int} {k : D → Prop} : bop .band (.int i) (.int j) k = k (.int (Builtin.bitAnd i j)) := rfl
theorem bop_bor {i j : Int} {k : D → Prop} : bop .bor (.int i) (.int j) k = k (.int (Builtin.bitOr i j)) := rfl
theorem bop_bxor {i j : Int} {k : D → Prop} : bop .bxor (.int i) (.int j) k = k (.int (Builtin.bitXor i j)) := rfl
theorem bop_catS {s t : Str} {k : D → Prop} : bop .catS (.str s) (.str t) k = (s.length + t.length ≤ sizeLine ∧ k (.str (s ++ t))) := rfl
theorem bop_repS {s : Str} {j : Int} {k : D → Prop} : bop .repS (.str s) (.int j) k = ((-(2 ^ 63) ≤ j ∧ j < 2 ^ 63 ∧ s.length * j.toNat ≤ sizeLine) ∧ k (.str (PySem.Txt.mul s j))) := rfl
theorem slD_s {m : Bool} {s : Str} {lo hi : Option Int} {M : Mp} {k : DK} : slD m (.str s) lo hi M k = (s.length ≤ sizeLine ∧ k (.str (cutS s lo hi)) M) := rfl
theorem uop_neg {i : Int} {k : D → Prop} : uop .neg (.int i) k = k (.int (-i)) := rfl
theorem uop_inv {i : Int} {k : D → Prop} : uop .inv (.int i) k = k (.int (Builtin.bitNot i)) := rfl
theorem cop_lt {i j : Int} {k : Bool → Prop} : cop .lt (.int i) (.int j) k = k (decide (i < j)) := rfl
theorem cop_le {i j : Int} {k : Bool → Prop} : cop .le (.int i) (.int j) k = k (decide (i ≤ j)) := rfl
theorem cop_gt {i j : Int} {k : Bool → Prop} : cop .gt (.int i) (.int j) k = k (decide (j < i)) := rfl
theorem cop_ge {i j : Int} {k : Bool → Prop} : cop .ge (.int i) (.int j) k = k (decide (j ≤ i)) := rfl
theorem cop_eq {a b : D} {k : Bool → Prop} : cop .eq a b k = ((a.eqok = true ∧ b.eqok = true) ∧ k (D.eqv a b)) := by cases a <;> cases b <;> rfl
theorem cop_ne {a b : D} {k : Bool → Prop} : cop .ne a b k = ((a.eqok = true ∧ b.eqok = true) ∧ k (!D.eqv a b)) := by cases a <;> cases b <;> rfl
theorem cop_inn_lst {x : D} {l : List D} {k : Bool → Prop} : cop .inn x (.lst l) k = ((x.flat = true ∧ l.all D.flat = true) ∧ k (inV x.v (l.map D.v))) := by cases x <;> rfl
theorem cop_inn_tup {x : D} {l : List D} {k : Bool → Prop} : cop .inn x (.tup l) k = ((x.flat = true ∧ l.all D.flat = true) ∧ k (inV x.v (l.map D.v))) := by cases x <;> rfl
theorem cop_nin_lst {x : D} {l : List D} {k : Bool → Prop} : cop .nin x (.lst l) k = ((x.flat = true ∧ l.all D.flat = true) ∧ k (!inV x.v (l.map D.v))) := by cases x <;> rfl
theorem cop_nin_tup {x : D} {l : List D} {k : Bool → Prop} : cop .nin x (.tup l) k = ((x.flat = true ∧ l.all D.flat = true) ∧ k (!inV x.v (l.map D.v))) := by cases x <;> rfl
theorem cop_inS {w z : Str} {k : Bool → Prop} : cop .inS (.str w) (.str z) k = ∃ c, w = ⟨#[c]⟩ ∧ k (decide (c ∈ z.cps.toList)) := rfl
theorem cop_ninS {w z : Str} {k : Bool → Prop} : cop .ninS (.str w) (.str z) k = ∃ c, w = ⟨#[c]⟩ ∧ k (!decide (c ∈ z.cps.toList)) := rfl
theorem vw_int {M : Mp} {i : Int} : vw M (.int i) = .int i := rfl
theorem vw_bl {M : Mp} {i : Bool} : vw M (.bl i) = .bl i := rfl
theorem vw_str {M : Mp} {i : Str} : vw M (.str i) = .str i := rfl
theorem vw_non {M : Mp}  : vw M (.non) = .non := rfl
theorem vw_l {M : Mp} {i : List D} : vw M (.lst i) = .lst i := rfl
theorem vw_t {M : Mp} {i : List D} : vw M (.tup i) = .tup i := rfl
theorem sw_int {M : Mp} {i : Int} : sw M (.int i) = .int i := rfl
theorem sw_bl {M : Mp} {i : Bool} : sw M (.bl i) = .bl i := rfl
theorem sw_str {M : Mp} {i : Str} : sw M (.str i) = .str i := rfl
theorem sw_non {M : Mp}  : sw M (.non) = .non := rfl
theorem sw_l {M : Mp} {i : List D} : sw M (.lst i) = .lst i := rfl
theorem sw_t {M : Mp} {i : List D} : sw M (.tup i) = .tup i := rfl
theorem vw_scr {M : Mp} {l : List D} : vw M (.scr l) = .lst l := rfl
theorem ixP_l {M : Mp} {l : List D} {i : D} {k : D → Prop} : ixP M (.lst l) i k = ixD (.lst l) i k := by cases i <;> rfl
theorem ixP_t {M : Mp} {l : List D} {i : D} {k : D → Prop} : ixP M (.tup l) i k = ixD (.tup l) i k := by cases i <;> rfl
theorem ixP_s {M : Mp} {l : Str} {i : D} {k : D → Prop} : ixP M (.str l) i k = ixD (.str l) i k := by cases i <;> rfl
theorem ixP_scr {M : Mp} {l : List D} {i : D} {k : D → Prop} : ixP M (.scr l) i k = ixD (.lst l) i k := by cases i <;> rfl
theorem ixP_pot {M : Mp} {p : Addr} {j : Int} {k : D → Prop} {lim : Bool} (h : M p = some (.pot lim)) : ixP M (.ref p) (.int j) k = ((j = 0 ∧ ∀ n : Int, k (.int n)) ∨ (j = 1 ∧ ∀ n : Int, Small lim n → k (.int n))) := by simp only [ixP, h]
theorem ixP_ref {M : Mp} {p : Addr} {l : List D} {j : Int} {k : D → Prop} (h : M p = some (.lst l)) : ixP M (.ref p) (.int j) k = ixD (.lst l) (.int j) k := by simp only [ixP, h]
theorem ixD_l {l : List D} {i : Int} {k : D → Prop} : ixD (.lst l) (.int i) k = ∃ d, atI l i = some d ∧ k d := rfl
theorem ixD_t {l : List D} {i : Int} {k : D → Prop} : ixD (.tup l) (.int i) k = ∃ d, atI l i = some d ∧ k d := rfl
theorem ixD_s {z : Str} {i : Int} {k : D → Prop} : ixD (.str z) (.int i) k = ∃ c, (z.length ≤ sizeLine ∧ atI z.cps.toList i = some c) ∧ k (.str ⟨#[c]⟩) := rfl
theorem slD_l {m : Bool} {l : List D} {lo hi : Option Int} {M : Mp} {k : DK} : slD m (.lst l) lo hi M k = newL m (cutD l lo hi) M k := rfl
theorem slD_t {m : Bool} {l : List D} {lo hi : Option Int} {M : Mp} {k : DK} : slD m (.tup l) lo hi M k = (¬ (HT.sIx l.length 0 lo = 0 ∧ HT.sIx l.length l.length hi = l.length) ∧ k (.tup (cutD l lo hi)) M) := rfl
theorem newL_t {l : List D} {M : Mp} {k : DK} : newL true l M k = ∀ a, M a = none → k (.ref a) (mset M a (.lst l)) := rfl
theorem newL_f {l : List D} {M : Mp} {k : DK} : newL false l M k = k (.lst l) M := rfl
theorem asBl_b {b : Bool} {k : Bool → Prop} : asBl (.bl b) k = k b := rfl
theorem asInt_i {b : Int} {k : Int → Prop} : asInt (.int b) k = k b := rfl
theorem asL_l {b : List D} {k : List D → Prop} : asL (.lst b) k = k b := rfl
theorem asT_t {b : List D} {k : List D → Prop} : asT (.tup b) k = k b := rfl
theorem bfn1 {f : BF} {d : D} {k : D → Prop} : bfn f [d] k = bf1 f d k := rfl
theorem bfn2 {f : BF} {d e : D} {k : D → Prop} : bfn f [d, e] k = bf2 f d e k := rfl
theorem bfn3 {f : BF} {d e g : D} {k : D → Prop} : bfn f [d, e, g] k = bf3 f d e g k := rfl
theorem bf_len_l {l : List D} {k : D → Prop} : bf1 .len (.lst l) k = k (.int l.length) := rfl
theorem bf_len_t {l : List D} {k : D → Prop} : bf1 .len (.tup l) k = k (.int l.length) := rfl
theorem bf_len_s {s : Str} {k : D → Prop} : bf1 .len (.str s) k = (s.length ≤ sizeLine ∧ k (.int s.length)) := rfl
theorem bf_abs {i : Int} {k : D → Prop} : bf1 .abs (.int i) k = k (.int (if i < 0 then -i else i)) := rfl
theorem bf_int_i {i : Int} {k : D → Prop} : bf1 .int (.int i) k = k (.int i) := rfl
theorem bf_int_b {b : Bool} {k : D → Prop} : bf1 .int (.bl b) k = k (.int (if b = true then 1 else 0)) := rfl
theorem bf_str {i : Int} {k : D → Prop} : bf1 .str (.int i) k = (i.natAbs.log2 < 1920 ∧ k (.str (toString i))) := rfl
theorem bf_sum {l : List D} {k : D → Prop} : bf1 .sum (.lst l) k = ∃ ns, intsOf l = some ns ∧ k (.int ns.sum) := rfl
theorem bf_maxL {l : List D} {k : D → Prop} : bf1 .maxL (.lst l) k = ∃ ns, intsOf l = some ns ∧ 0 < ns.length ∧ ∀ m, m ∈ ns → (∀ y, y ∈ ns → y ≤ m) → k (.int m) := rfl
theorem bf_min2 {i j : Int} {k : D → Prop} : bf2 .min2 (.int i) (.int j) k = k (.int (if j < i then j else i)) := rfl
theorem bf_max2 {i j : Int} {k : D → Prop} : bf2 .max2 (.int i) (.int j) k = k (.int (if j > i then j else i)) := rfl
theorem bf_min3 {a b c : Int} {k : D → Prop} : bf3 .min3 (.int a) (.int b) (.int c) k = k (.int (if b < a then (if c < b then c else b) else (if c < a then c else a))) := rfl
theorem bf_max3 {a b c : Int} {k : D → Prop} : bf3 .max3 (.int a) (.int b) (.int c) k = k (.int (if b > a then (if c > b then c else b) else (if c > a then c else a))) := rfl
theorem atV_s {ρ : Env} {i : Nat} {d : D} {k : D → Prop} (h : nth ρ i = some d) : atV ρ i k = k d := by unfold atV; rw [h]
theorem app_ref {M : Mp} {p : Addr} {l ds : List D} {k : Mp → Prop} (h : M p = some (.lst l)) : appD M (.ref p) ds k = (l.length + ds.length ≤ 1000000 ∧ k (mset M p (.lst (l ++ ds)))) := by simp only [appD, h]
theorem set_ref {M : Mp} {p : Addr} {l : List D} {j : Int} {d : D} {k : Mp → Prop} (h : M p = some (.lst l)) : setD M (.ref p) (.int j) d k = ∃ n, ixN l.length j = some n ∧ k (mset M p (.lst (l.set n d))) := by simp only [setD, h]
theorem set_pot {M : Mp} {p : Addr} {j : Int} {d : D} {k : Mp → Prop} {lim : Bool} (h : M p = some (.pot lim)) : setD M (.ref p) (.int j) d k = ((j = 0 ∧ asInt d fun _ => k M) ∨ (j = 1 ∧ asInt d fun n => Small lim n ∧ k M)) := by simp only [setD, h]
theorem pop_ref {M : Mp} {p : Addr} {l : List D} {k : DK} (h : M p = some (.lst l)) : popD M (.ref p) k = ∃ d, l[l.length - 1]? = some d ∧ k d (mset M p (.lst l.dropLast)) := by simp only [popD, h]
theorem clr_ref {M : Mp} {p : Addr} {l : List D} {k : Mp → Prop} (h : M p = some (.lst l)) : clrD M (.ref p) k = k (mset M p (.lst [])) := by simp only [clrD, h]
theorem isL_ref {M : Mp} {p : Addr} {l : List D} (h : M p = some (.lst l)) : isL M (.ref p) = True := by simp only [isL, h]
theorem frz_ref {M : Mp} {p : Addr} {l : List D} {k : DK} (h : M p = some (.lst l)) : frzD M (.ref p) k = k (.lst l) (mdel M p) := by simp only [frzD, h]
theorem natAbs10 : Int.natAbs 10 = 10 := rfl
theorem natAbs2 : Int.natAbs 2 = 2 := rfl
theorem ite_any {c : Prop} [Decidable c] {a b : Prop} (h1 : a) (h2 : b) : if c then a else b := by
  split <;> assumption
theorem ite_of {c : Prop} [Decidable c] {a b : Prop} (h1 : c → a) (h2 : ¬c → b) : if c then a else b := by
  by_cases h : c
  · rw [if_pos h]; exact h1 h
  · rw [if_neg h]; exact h2 h
theorem ty_int {i : Int} : (D.int i).ty = some "int" := rfl
theorem ty_bl {i : Bool} : (D.bl i).ty = some "bool" := rfl
theorem ty_str {i : Str} : (D.str i).ty = some "str" := rfl
theorem ty_non : D.non.ty = some "NoneType" := rfl
theorem ty_l {i : List D} : (D.lst i).ty = some "list" := rfl
theorem ty_t {i : List D} : (D.tup i).ty = some "tuple" := rfl
end T

/-! T: more laws of the meaning: items of displayed tuples, whiles by a measure. -/
namespace T
open PySem L2
theorem eqok_st {s : Str} (h : PyData.canLay0 (.str s) = true) : (D.str s).eqok = true := by
  unfold D.eqok SeqAt.shaped
  simp [D.pure, D.py, h, PyData.depth]
@[simp] theorem ok_all : (D.str "all").eqok = true := eqok_st (by decide +kernel)
@[simp] theorem ok_half : (D.str "half").eqok = true := eqok_st (by decide +kernel)
theorem ne_ah : (("all" : Str) = ("half" : Str)) = False := by
  refine eq_false (by decide +kernel)
theorem ne_ha : (("half" : Str) = ("all" : Str)) = False := by
  refine eq_false (by decide +kernel)
theorem ixe {l : List D} {n : Nat} {a : D} {k : D → Prop} (h : l[n]? = some a) : (∃ d, atI l (n : Int) = some d ∧ k d) = k a := by
  have e : atI l (n : Int) = some a := atI_get (by omega) (by rw [Int.toNat_natCast]; exact h)
  refine propext ⟨fun ⟨d, h, z⟩ => ?_, fun z => ⟨a, e, z⟩⟩
  rw [e] at h
  cases h
  exact z
theorem ixe0 {a : D} {l : List D} {k : D → Prop} : (∃ d, atI (a :: l) 0 = some d ∧ k d) = k a := ixe (n := 0) rfl
theorem ixe1 {a b : D} {l : List D} {k : D → Prop} : (∃ d, atI (a :: b :: l) 1 = some d ∧ k d) = k b := ixe (n := 1) rfl
theorem ixe2 {a b c : D} {l : List D} {k : D → Prop} : (∃ d, atI (a :: b :: c :: l) 2 = some d ∧ k d) = k c := ixe (n := 2) rfl
theorem ixe3 {a b c e : D} {l : List D} {k : D → Prop} : (∃ d, atI (a :: b :: c :: e :: l) 3 = some d ∧ k d) = k e := ixe (n := 3) rfl
theorem ixe4 {a b c e f : D} {l : List D} {k : D → Prop} : (∃ d, atI (a :: b :: c :: e :: f :: l) 4 = some d ∧ k d) = k f := ixe (n := 4) rfl
theorem max_if (a b : Int) : (if b > a then b else a) = max a b := by
  split <;> omega
/-- a while, by a measure -/
theorem wloop_go {test : Env → Mp → (Bool → Mp → Prop) → Prop} {step : Env → Mp → (Env → Mp → Prop) → Prop} {n : Env → Mp → Prop} (P : Nat → Env → Mp → Prop)
    (hs : ∀ i ρ M (q : Env → Mp → Prop), P i ρ M → (∀ j ρ' M', j < i → P j ρ' M' → q ρ' M') → test ρ M fun b M1 => if b = true then step ρ M1 q else n ρ M1) : ∀ (f i : Nat) (ρ : Env) (M : Mp), i < f → P i ρ M → wloop test step n f ρ M
  | 0, i, ρ, M, hi, _ => absurd hi (by omega)
  | f + 1, i, ρ, M, hi, hp => hs i ρ M _ hp fun j ρ' M' hj hp' => wloop_go P hs f j ρ' M' (by omega) hp'
theorem min_if (a b : Int) : (if b < a then b else a) = min a b := by
  split <;> omega
def sz : Nat → Int
  | 0 => 1
  | h + 1 => 2 * sz h
theorem sz_pos : ∀ h, 1 ≤ sz h
  | 0 => Int.le_refl _
  | h + 1 => by
    have := sz_pos h
    show 1 ≤ 2 * sz h
    omega
theorem sz_succ (h : Nat) : sz (h + 1) = 2 * sz h := rfl
theorem sz_half (h : Nat) : sz (h + 1) / 2 = sz h := by rw [sz_succ]; omega
end T

namespace T
open PySem L2
abbrev xcs : List Str := ["NoStretch", "NoNumber", "NoRow"]
local macro_rules | `(tactic| walk_at "wp") => `(tactic| try simp only [wpB, wpS, wpE, wpO, wpT, wpA, wpI, nth, put, wipeE, target, guardD, bop_add, bop_sub, bop_mul, bop_mulW, bop_fdiv, bop_fdivW, bop_mod, bop_modN, bop_pow, bop_shl, bop_shr, bop_band, bop_bor, bop_bxor, bop_catS, bop_repS, uop_neg, uop_inv, cop_lt, cop_le, cop_gt, cop_ge, cop_eq, cop_ne, cop_inn_lst, cop_inn_tup, cop_nin_lst, cop_nin_tup, cop_inS, cop_ninS, vw_int, vw_bl, vw_str, vw_non, vw_l, vw_t, sw_int, sw_bl, sw_str, sw_non, sw_l, sw_t, vw_scr, ixP_l, ixP_t, ixP_s, ixP_scr, ixD_l, ixD_t, ixD_s, slD_l, slD_t, slD_s, newL_t, newL_f, asBl_b, asInt_i, asL_l, asT_t, bfn1, bfn2, bfn3, bf_len_l, bf_len_t, bf_len_s, bf_abs, bf_int_i, bf_int_b, bf_str, bf_sum, bf_maxL, bf_min2, bf_max2, bf_min3, bf_max3, List.map_cons, List.map_nil, List.cons_append, List.nil_append, List.replicate, List.length_cons, List.length_nil, List.zip_cons_cons, List.zip_nil_right, List.zip_nil_left, List.foldl_cons, List.foldl_nil, Nat.zero_add, Nat.reduceAdd, Nat.reduceSub, eqok_int, eqok_bl, eqok_nil, eqok_non, eqv_int, eqv_bl, eqv_str, and_true, true_and, and_self, if_true, Bool.not_eq_true, decide_eq_true_eq, Bool.false_eq_true, if_false, isBv, ty_int, ty_bl, ty_str, ty_non, ty_l, ty_t, sizeLine_val, inB, CMul, CDiv, CPow, Nat.reduceLeDiff, Nat.reduceMul, Int.reduceLE, Int.reduceLT, Int.reduceNeg, Int.reducePow, Int.reduceToNat, natAbs10, natAbs2, Nat.reducePow, Nat.reduceLT, true_or, or_true, List.flatten_cons, List.flatten_nil, List.append_nil])
local macro_rules | `(tactic| walk_at "wt") => `(tactic| try simp only [wpB, wpS, wpE, wpO, wpT, wpA, wpI, nth, put, wipeE, target, guardD, bop_add, bop_sub, bop_mul, bop_mulW, bop_fdiv, bop_fdivW, bop_mod, bop_modN, bop_pow, bop_shl, bop_shr, bop_band, bop_bor, bop_bxor, bop_catS, bop_repS, uop_neg, uop_inv, cop_lt, cop_le, cop_gt, cop_ge, cop_eq, cop_ne, cop_inn_lst, cop_inn_tup, cop_nin_lst, cop_nin_tup, cop_inS, cop_ninS, vw_int, vw_bl, vw_str, vw_non, vw_l, vw_t, sw_int, sw_bl, sw_str, sw_non, sw_l, sw_t, vw_scr, ixP_l, ixP_t, ixP_s, ixP_scr, ixD_l, ixD_t, ixD_s, slD_l, slD_t, slD_s, newL_t, newL_f, asBl_b, asInt_i, asL_l, asT_t, bfn1, bfn2, bfn3, bf_len_l, bf_len_t, bf_len_s, bf_abs, bf_int_i, bf_int_b, bf_str, bf_sum, bf_maxL, bf_min2, bf_max2, bf_min3, bf_max3, List.map_cons, List.map_nil, List.cons_append, List.nil_append, List.replicate, List.length_cons, List.length_nil, List.zip_cons_cons, List.zip_nil_right, List.zip_nil_left, List.foldl_cons, List.foldl_nil, Nat.zero_add, Nat.reduceAdd, Nat.reduceSub, eqok_int, eqok_bl, eqok_nil, eqok_non, eqv_int, eqv_bl, eqv_str, and_true, true_and, and_self, if_true, Bool.not_eq_true, decide_eq_true_eq, Bool.false_eq_true, if_false, isBv, ty_int, ty_bl, ty_str, ty_non, ty_l, ty_t, sizeLine_val, inB, CMul, CDiv, CPow, Nat.reduceLeDiff, Nat.reduceMul, Int.reduceLE, Int.reduceLT, Int.reduceNeg, Int.reducePow, Int.reduceToNat, natAbs10, natAbs2, Nat.reducePow, Nat.reduceLT, true_or, or_true, List.flatten_cons, List.flatten_nil, List.append_nil, ixe0, ixe1, ixe2, ixe3, ixe4, Bool.not_true, Bool.not_false, decide_true, decide_false, ok_all, ok_half, ne_ah, ne_ha, sz_half, max_if, min_if])
/-! ### rows of switches, one by one -/
def kOk (s : Str) : Prop := s = "turn" ∨ s = "on" ∨ s = "off"
/-- a stretch of a row of so many -/
def good (many first beyond : Int) : Prop := 0 ≤ first ∧ first < beyond ∧ beyond ≤ many
instance (a b c : Int) : Decidable (good a b c) := by unfold good; infer_instance
def sp_need_stretch : Spec := fun ds M k x => ∃ many first beyond, ds = [.int many, .int first, .int beyond] ∧ (if good many first beyond then k .non M else x "NoStretch" M)
abbrev n_need_stretch : List Str := ["many", "first", "beyond"]
def b_need_stretch : B := (.cons (.ite (.not (.ch3 .le .lt .le (.int 0) (.var 1) (.var 2) (.var 0))) (.cons (.rais "NoStretch") .nil) .nil) .nil)
theorem w_need_stretch : Body n_need_stretch 3 b_need_stretch sp_need_stretch := by
  rintro ds M k x ⟨many, first, beyond, rfl, h⟩
  refine ⟨rfl, ?_⟩
  unfold good at h
  simp only [b_need_stretch]
  walk_at "wp"
  by_cases h1 : 0 ≤ first
  · by_cases h2 : first < beyond
    · by_cases h3 : beyond ≤ many
      · simp only [h1, h2, h3, and_self, if_true] at h
        simp [h1, h2, h3]
        exact fewer_of h
      · simp only [h1, h2, h3, and_false, if_false] at h
        simp [h1, h2, h3]
        exact fewerX_of h
    · simp only [h1, h2, and_false, false_and, if_false] at h
      simp [h1, h2]
      exact fewerX_of h
  · simp only [h1, false_and, if_false] at h
    simp [h1]
    exact fewerX_of h
def swk (kind : Str) (truth : Bool) : Bool := if kind = "turn" then !truth else decide (kind = "on")
@[simp] theorem eqok_str {s : Str} (h : PyData.canLay0 (.str s) = true) : (D.str s).eqok = true := by
  unfold D.eqok SeqAt.shaped
  simp [D.pure, D.py, h, PyData.depth]
theorem kOk.ok {s : Str} (h : kOk s) : (D.str s).eqok = true := by
  rcases h with rfl | rfl | rfl <;> decide +kernel
theorem ok_turn : (D.str "turn").eqok = true := kOk.ok (.inl rfl)
theorem ok_on : (D.str "on").eqok = true := kOk.ok (.inr (.inl rfl))
theorem ok_off : (D.str "off").eqok = true := kOk.ok (.inr (.inr rfl))
/-- what a value is seen as -/
theorem vw_cases {M : Mp} {f : D} {d : D} (h : vw M f = d) : f = d ∨ (∃ a l, f = .ref a ∧ d = .lst l ∧ M a = some (.lst l)) ∨ (∃ l, f = .scr l ∧ d = .lst l) := by
  cases f with
  | ref a =>
    simp only [vw] at h
    split at h
    · exact .inr (.inl ⟨a, _, rfl, h.symm, by assumption⟩)
    · exact .inl h
  | scr l => exact .inr (.inr ⟨l, rfl, h.symm⟩)
  | _ => exact .inl h
theorem ix_seen {M : Mp} {f : D} {l : List D} {i : Int} {k : D → Prop} (h : vw M f = .lst l) : ixP M f (.int i) k = ixD (.lst l) (.int i) k := by
  rcases vw_cases h with rfl | ⟨a, l', rfl, e, hm⟩ | ⟨l', rfl, e⟩
  · rfl
  · cases e
    exact ixP_ref hm
  · cases e
    rfl
/-! ### runs -/
abbrev Run := Int × Int × Bool
def runD (r : Run) : D := .tup [.int r.1, .int r.2.1, .bl r.2.2]
theorem runF : EqF runD 1 := EqF.tup3 EqF.int EqF.int EqF.bl
theorem runs_ok (l : List Run) : (D.lst (l.map runD)).eqok = true := runF.lst.ok l
theorem nil_or {α : Type} (l : List α) : l = [] ∨ ∃ A z, l = A ++ [z] := by
  rcases List.eq_nil_or_concat l with rfl | ⟨A, z, rfl⟩
  · exact .inl rfl
  · exact .inr ⟨A, z, List.concat_eq_append⟩
def joinStep (acc : List Run) (r : Run) : List Run := match acc.getLast? with
  | some z => if z.2.2 = r.2.2 then acc.dropLast ++ [(z.1, r.2.1, r.2.2)] else acc ++ [r]
  | none => [r]
def joinR (l : List Run) : List Run := l.foldl joinStep []
theorem join_snoc (A : List Run) (z r : Run) : joinStep (A ++ [z]) r = if z.2.2 = r.2.2 then A ++ [(z.1, r.2.1, r.2.2)] else A ++ [z] ++ [r] := by
  unfold joinStep
  rw [List.getLast?_concat]
  simp only [List.dropLast_concat]
theorem atI_last {α : Type} (A : List α) (z : α) : atI (A ++ [z]) (-1) = some z := by
  unfold atI ixN
  rw [if_neg (by decide), if_pos (by rw [List.length_append]; show -((A.length + 1 : Nat) : Int) ≤ -1; omega)]
  show (A ++ [z])[(-1 + ((A ++ [z]).length : Int)).toNat]? = _
  rw [show (-1 + ((A ++ [z]).length : Int)).toNat = A.length by rw [List.length_append]; show (-1 + ((A.length + 1 : Nat) : Int)).toNat = _; omega, List.getElem?_concat_length]
theorem ixN_last {α : Type} (A : List α) (z : α) : ixN (A ++ [z]).length (-1) = some A.length := by
  unfold ixN
  rw [if_neg (by decide), if_pos (by rw [List.length_append]; show -((A.length + 1 : Nat) : Int) ≤ -1; omega)]
  congr 1
  rw [List.length_append]
  show (-1 + ((A.length + 1 : Nat) : Int)).toNat = _
  omega
theorem set_last {α : Type} (A : List α) (z y : α) : (A ++ [z]).set A.length y = A ++ [y] := by
  rw [List.set_append_right _ _ (Nat.le_refl _), Nat.sub_self]
  rfl
theorem guard_new {M : Mp} {d : D} {l : List D} {a : Addr} {c c' : Cell} (h : vw M d = .lst l) (ha : M a = none) : guardD (mset M a c) d (mset M a c') := by
  cases d with
  | ref b =>
    have hb : b ≠ a := fun e => by
      subst e
      rw [vw_none ha] at h
      cases h
    show mset M a c' b = mset M a c b
    rw [mset_ne hb, mset_ne hb]
  | _ => trivial
theorem vw_new {M : Mp} {d : D} {l : List D} {a : Addr} {c : Cell} (h : vw M d = .lst l) (ha : M a = none) : vw (mset M a c) d = .lst l := by
  cases d with
  | ref b =>
    have hb : b ≠ a := fun e => by
      subst e
      rw [vw_none ha] at h
      cases h
    unfold vw at h ⊢
    simp only [mset_ne hb]
    exact h
  | _ => exact h
theorem join_len (acc : List Run) (r : Run) : (joinStep acc r).length ≤ acc.length + 1 := by
  rcases nil_or acc with rfl | ⟨A, z, rfl⟩
  · simp [joinStep]
  · rw [join_snoc]
    split <;> simp
theorem fold_len : ∀ (l acc : List Run), (l.foldl joinStep acc).length ≤ acc.length + l.length
  | [], acc => Nat.le_refl _
  | r :: l, acc => by
    have h1 := fold_len l (joinStep acc r)
    have h2 := join_len acc r
    rw [List.foldl_cons, List.length_cons]
    omega
theorem mdel_mset {M : Mp} {a : Addr} {c : Cell} (h : M a = none) : mdel (mset M a c) a = M := by
  funext b
  unfold mdel mset
  by_cases e : b = a
  · rw [if_pos e, e, h]
  · rw [if_neg e, if_neg e]
/-! ### chains of runs -/
def Chain : Int → Int → List Run → Prop
  | a, b, [] => a = b
  | a, b, r :: l => r.1 = a ∧ a < r.2.1 ∧ Chain r.2.1 b l
def Alt : List Run → Prop
  | [] => True
  | r :: l => (∀ s ∈ l.head?, r.2.2 ≠ s.2.2) ∧ Alt l
def valR : List Run → Int → Bool
  | [], _ => false
  | r :: l, p => if p < r.2.1 then r.2.2 else valR l p
theorem val_cons (r : Run) (l : List Run) (p : Int) : valR (r :: l) p = if p < r.2.1 then r.2.2 else valR l p := rfl
theorem Chain.le : ∀ {l : List Run} {a b : Int}, Chain a b l → a ≤ b
  | [], a, b, h => Int.le_of_eq h
  | r :: l, a, b, h => by
    have := Chain.le h.2.2
    have := h.2.1
    omega
theorem chain_one : ∀ {l l' : List Run} {a b : Int}, Chain a b l → Alt l → Chain a b l' → Alt l' → (∀ p, a ≤ p → p < b → valR l p = valR l' p) → l = l'
  | [], [], a, b, _, _, _, _, _ => rfl
  | [], s :: l', a, b, h, _, h', _, _ => by
    have h0 : a = b := h
    have := h'.2.1
    have := Chain.le h'.2.2
    omega
  | r :: l, [], a, b, h, _, h', _, _ => by
    have h0 : a = b := h'
    have := h.2.1
    have := Chain.le h.2.2
    omega
  | r :: l, s :: l', a, b, h, al, h', al', hv => by
    obtain ⟨h1, h2, h3⟩ := h
    obtain ⟨i1, i2, i3⟩ := h'
    have le1 := Chain.le h3
    have le2 := Chain.le i3
    have e1 : r.2.2 = s.2.2 := by
      have := hv a (Int.le_refl _) (by omega)
      unfold valR at this
      rw [if_pos h2, if_pos i2] at this
      exact this
    have next : ∀ {r : Run} {l : List Run} {c : Int}, Chain r.2.1 b l → Alt (r :: l) → r.2.1 < b → valR l r.2.1 ≠ r.2.2 := by
      intro r l c hc ha hb
      cases l with
      | nil => exact absurd (show r.2.1 = b from hc) (by omega)
      | cons t l =>
        unfold valR
        rw [if_pos hc.2.1]
        exact fun z => ha.1 t rfl z.symm
    have e2 : r.2.1 = s.2.1 := by
      by_cases c1 : r.2.1 < s.2.1
      · have := hv r.2.1 (by omega) (by omega)
        unfold valR at this
        rw [if_neg (by omega), if_pos c1, ← e1] at this
        exact absurd this (next (c := 0) h3 al (by omega))
      · by_cases c2 : s.2.1 < r.2.1
        · have := hv s.2.1 (by omega) (by omega)
          unfold valR at this
          rw [if_pos c2, if_neg (by omega), e1] at this
          exact absurd this.symm (next (c := 0) i3 al' (by omega))
        · omega
    have e3 : l = l' := by
      refine chain_one h3 al.2 (by rw [e2]; exact i3) al'.2 fun p p1 p2 => ?_
      have := hv p (by omega) p2
      unfold valR at this
      rw [if_neg (by omega), if_neg (by omega)] at this
      exact this
    rw [e3]
    congr 1
    exact Prod.ext (h1.trans i1.symm) (Prod.ext e2 e1)
theorem chain_app : ∀ {l l' : List Run} {a b : Int}, Chain a b (l ++ l') ↔ ∃ c, Chain a c l ∧ Chain c b l'
  | [], l', a, b => ⟨fun h => ⟨a, rfl, h⟩, fun ⟨c, h, h'⟩ => by
    have e : a = c := h
    subst e
    exact h'⟩
  | r :: l, l', a, b => by
    constructor
    · rintro ⟨h1, h2, h3⟩
      obtain ⟨c, i1, i2⟩ := chain_app.mp h3
      exact ⟨c, ⟨h1, h2, i1⟩, i2⟩
    · rintro ⟨c, ⟨h1, h2, i1⟩, i2⟩
      exact ⟨h1, h2, chain_app.mpr ⟨c, i1, i2⟩⟩
theorem val_app : ∀ {l l' : List Run} {a c : Int}, Chain a c l → ∀ p, a ≤ p → valR (l ++ l') p = if p < c then valR l p else valR l' p
  | [], l', a, c, h, p, hp => by
    have e : a = c := h
    subst e
    rw [if_neg (by omega)]
    rfl
  | r :: l, l', a, c, h, p, hp => by
    obtain ⟨h1, h2, h3⟩ := h
    have := Chain.le h3
    rw [List.cons_append, val_cons, val_cons]
    by_cases c1 : p < r.2.1
    · rw [if_pos c1, if_pos c1, if_pos (by omega)]
    · rw [if_neg c1, if_neg c1, val_app h3 p (by omega)]
theorem alt_snoc : ∀ {A : List Run} {z r : Run}, Alt (A ++ [z]) → z.2.2 ≠ r.2.2 → Alt (A ++ [z] ++ [r])
  | [], z, r, _, h => ⟨fun s hs => (by cases hs; exact h), ⟨(fun _ hs => nomatch hs), trivial⟩⟩
  | y :: A, z, r, h, hz => by
    refine ⟨fun s hs => h.1 s ?_, alt_snoc h.2 hz⟩
    cases A <;> exact hs
theorem alt_end : ∀ {A : List Run} {z r : Run}, Alt (A ++ [z]) → z.2.2 = r.2.2 → Alt (A ++ [r])
  | [], z, r, _, _ => ⟨(fun _ hs => nomatch hs), trivial⟩
  | y :: A, z, r, h, hz => by
    refine ⟨fun s hs => ?_, alt_end h.2 hz⟩
    cases A with
    | nil =>
      cases hs
      rw [← hz]
      exact h.1 z rfl
    | cons x A => exact h.1 s hs
theorem chain_snoc {A : List Run} {z : Run} {a b : Int} : Chain a b (A ++ [z]) ↔ Chain a z.1 A ∧ z.1 < z.2.1 ∧ z.2.1 = b := by
  rw [chain_app]
  constructor
  · rintro ⟨c, h1, h2, h3, h4⟩
    subst h2
    exact ⟨h1, h3, h4⟩
  · rintro ⟨h1, h2, h3⟩
    exact ⟨z.1, h1, rfl, h2, h3⟩
theorem val_snoc {A : List Run} {z : Run} {a : Int} (h : Chain a z.1 A) (p : Int) (h1 : a ≤ p) (h2 : p < z.2.1) : valR (A ++ [z]) p = if p < z.1 then valR A p else z.2.2 := by
  rw [val_app h p h1]
  by_cases c : p < z.1
  · rw [if_pos c, if_pos c]
  · rw [if_neg c, if_neg c]
    unfold valR
    rw [if_pos h2]
/-- one more run joined -/
theorem join_chain {acc : List Run} {r : Run} {a c : Int} (h : Chain a c acc) (al : Alt acc) (e : r.1 = c) (lt : c < r.2.1) :
    Chain a r.2.1 (joinStep acc r) ∧ Alt (joinStep acc r) ∧ ∀ p, a ≤ p → p < r.2.1 → valR (joinStep acc r) p = valR (acc ++ [r]) p := by
  rcases nil_or acc with rfl | ⟨A, z, rfl⟩
  · have e0 : a = c := h
    subst e0
    exact ⟨⟨e, lt, rfl⟩, ⟨(fun _ hs => nomatch hs), trivial⟩, fun p _ _ => rfl⟩
  · rw [join_snoc]
    obtain ⟨h1, h2, h3⟩ := chain_snoc.mp h
    by_cases q : z.2.2 = r.2.2
    · rw [if_pos q]
      refine ⟨chain_snoc.mpr ⟨h1, by show z.1 < r.2.1; omega, rfl⟩, alt_end al q, fun p p1 p2 => ?_⟩
      rw [val_snoc (z := (z.1, r.2.1, r.2.2)) h1 p p1 p2, val_app h p p1]
      by_cases c1 : p < c
      · rw [if_pos c1, val_snoc h1 p p1 (by omega), q]
      · rw [if_neg c1]
        show (if p < z.1 then _ else _) = _
        rw [if_neg (by omega)]
        unfold valR
        rw [if_pos p2]
    · rw [if_neg q]
      refine ⟨chain_app.mpr ⟨c, h, e, lt, rfl⟩, alt_snoc al q, fun _ _ _ => rfl⟩
theorem joinR_chain : ∀ {l acc : List Run} {a c b : Int}, Chain a c acc → Alt acc → Chain c b l → Chain a b (l.foldl joinStep acc) ∧ Alt (l.foldl joinStep acc) ∧ ∀ p, a ≤ p → p < b → valR (l.foldl joinStep acc) p = valR (acc ++ l) p
  | [], acc, a, c, b, h, al, hl => by
    have e : c = b := hl
    subst e
    exact ⟨h, al, fun p _ _ => by rw [List.append_nil]; rfl⟩
  | r :: l, acc, a, c, b, h, al, hl => by
    obtain ⟨h1, h2, h3⟩ := hl
    obtain ⟨j1, j2, j3⟩ := join_chain h al h1 h2
    obtain ⟨k1, k2, k3⟩ := joinR_chain j1 j2 h3
    refine ⟨k1, k2, fun p p1 p2 => ?_⟩
    rw [List.foldl_cons, k3 p p1 p2, val_app j1 p p1]
    have e : acc ++ r :: l = (acc ++ [r]) ++ l := by simp
    have hc : Chain a r.2.1 (acc ++ [r]) := chain_app.mpr ⟨c, h, h1, h2, rfl⟩
    rw [e, val_app hc p p1]
    by_cases c1 : p < r.2.1
    · rw [if_pos c1, if_pos c1, j3 p p1 c1]
    · rw [if_neg c1, if_neg c1]
/-! ### a stretch cut out of runs -/
def cut1 (f b : Int) (r : Run) : Option Run := if r.1 < b ∧ f < r.2.1 then some (if f > r.1 then f else r.1, if b < r.2.1 then b else r.2.1, r.2.2) else none
def cutR (rs : List Run) (f b : Int) : List Run := rs.filterMap (cut1 f b)
theorem cut_cons (r : Run) (l : List Run) (f b : Int) : cutR (r :: l) f b = (cut1 f b r).toList ++ cutR l f b := by
  unfold cutR
  rw [List.filterMap_cons]
  cases cut1 f b r <;> rfl
theorem cut_none {f b : Int} : ∀ {l : List Run} {a c : Int}, Chain a c l → b ≤ a → cutR l f b = []
  | [], a, c, _, _ => rfl
  | r :: l, a, c, h, hb => by
    obtain ⟨h1, h2, h3⟩ := h
    rw [cut_cons, cut_none h3 (by omega)]
    unfold cut1
    rw [if_neg (by omega)]
    rfl
theorem cut_ge {f b : Int} : ∀ {l : List Run} {a a' c : Int}, Chain a c l → f ≤ a' → a' ≤ a → cutR l f b = cutR l a' b
  | [], a, a', c, _, _, _ => rfl
  | r :: l, a, a', c, h, hf, ha => by
    obtain ⟨h1, h2, h3⟩ := h
    rw [cut_cons, cut_cons, cut_ge h3 hf (by omega)]
    congr 1
    unfold cut1
    by_cases c1 : r.1 < b
    · rw [if_pos (show r.1 < b ∧ f < r.2.1 from ⟨c1, by omega⟩), if_pos (show r.1 < b ∧ a' < r.2.1 from ⟨c1, by omega⟩)]
      have e1 : (if f > r.1 then f else r.1) = (if a' > r.1 then a' else r.1) := by split <;> split <;> omega
      rw [e1]
    · rw [if_neg (show ¬ (r.1 < b ∧ f < r.2.1) from fun z => c1 z.1), if_neg (show ¬ (r.1 < b ∧ a' < r.2.1) from fun z => c1 z.1)]
theorem cut_chain {f b : Int} (hfb : f < b) : ∀ {l : List Run} {a c : Int}, Chain a c l → a ≤ f → b ≤ c → Chain f b (cutR l f b) ∧ ∀ p, f ≤ p → p < b → valR (cutR l f b) p = valR l p
  | [], a, c, h, h1, h2 => by
    have e : a = c := h
    omega
  | r :: l, a, c, h, ha, hc => by
    obtain ⟨h1, h2, h3⟩ := h
    rw [cut_cons]
    by_cases c1 : f < r.2.1
    · have e1 : cut1 f b r = some (f, if b < r.2.1 then b else r.2.1, r.2.2) := by
        unfold cut1
        rw [if_pos ⟨by omega, c1⟩]
        have e2 : (if f > r.1 then f else r.1) = f := by split <;> omega
        rw [e2]
      rw [e1]
      by_cases c2 : b ≤ r.2.1
      · rw [cut_none h3 c2]
        have e3 : (if b < r.2.1 then b else r.2.1) = b := by split <;> omega
        rw [e3]
        refine ⟨⟨rfl, hfb, rfl⟩, fun p p1 p2 => ?_⟩
        show valR [(f, b, r.2.2)] p = _
        rw [val_cons, val_cons, if_pos p2, if_pos (by omega)]
      · have e3 : (if b < r.2.1 then b else r.2.1) = r.2.1 := by split <;> omega
        rw [e3, cut_ge h3 (by omega : f ≤ r.2.1) (Int.le_refl _)]
        obtain ⟨k1, k2⟩ := cut_chain (by omega : r.2.1 < b) h3 (Int.le_refl _) hc
        refine ⟨⟨rfl, c1, k1⟩, fun p p1 p2 => ?_⟩
        show valR ((f, r.2.1, r.2.2) :: cutR l r.2.1 b) p = _
        rw [val_cons, val_cons]
        by_cases c3 : p < r.2.1
        · rw [if_pos c3, if_pos c3]
        · rw [if_neg c3, if_neg c3]
          exact k2 p (by omega) p2
    · have e1 : cut1 f b r = none := by
        unfold cut1
        rw [if_neg (fun z => c1 z.2)]
      rw [e1]
      obtain ⟨k1, k2⟩ := cut_chain hfb h3 (by omega) hc
      refine ⟨k1, fun p p1 p2 => ?_⟩
      show valR (cutR l f b) p = _
      rw [k2 p p1 p2, val_cons, if_neg (by omega)]
theorem cut_end {f b : Int} : ∀ {l : List Run} {a c : Int}, Chain a c l → c ≤ f → cutR l f b = []
  | [], a, c, _, _ => rfl
  | r :: l, a, c, h, hb => by
    obtain ⟨h1, h2, h3⟩ := h
    have := Chain.le h3
    rw [cut_cons, cut_end h3 hb]
    unfold cut1
    rw [if_neg (by omega)]
    rfl
theorem cut_len (rs : List Run) (f b : Int) : (cutR rs f b).length ≤ rs.length := List.length_filterMap_le _ _
theorem val_map (g : Bool → Bool) : ∀ (l : List Run) {a b : Int}, Chain a b l → Chain a b (l.map fun r => (r.1, r.2.1, g r.2.2)) ∧ ∀ p, a ≤ p → p < b → valR (l.map fun r => (r.1, r.2.1, g r.2.2)) p = g (valR l p)
  | [], a, b, h => ⟨h, fun p h1 h2 => by have e : a = b := h; omega⟩
  | r :: l, a, b, h => by
    obtain ⟨h1, h2, h3⟩ := h
    obtain ⟨k1, k2⟩ := val_map g l h3
    refine ⟨⟨h1, h2, k1⟩, fun p p1 p2 => ?_⟩
    rw [List.map_cons, val_cons, val_cons]
    by_cases c : p < r.2.1
    · rw [if_pos c, if_pos c]
    · rw [if_neg c, if_neg c]
      exact k2 p (by omega) p2
/-- runs behind a deed: what is to be known of them -/
structure DoneOk (rs R : List Run) (many : Int) (kind : Str) (f b : Int) : Prop where
  chain : Chain 0 many R
  alt : Alt R
  val : ∀ p, 0 ≤ p → p < many → valR R p = if f ≤ p ∧ p < b then swk kind (valR rs p) else valR rs p
theorem DoneOk.one {rs R R' : List Run} {many : Int} {kind : Str} {f b : Int} (h : DoneOk rs R many kind f b) (h' : DoneOk rs R' many kind f b) : R = R' :=
  chain_one h.chain h.alt h'.chain h'.alt fun p p1 p2 => by rw [h.val p p1 p2, h'.val p p1 p2]
theorem done_ok {rs mid : List Run} {many f b : Int} {kind : Str} (hc : Chain 0 many rs) (g : good many f b) (hm : Chain f b mid) (hv : ∀ p, f ≤ p → p < b → valR mid p = swk kind (valR rs p)) :
    DoneOk rs (joinR (cutR rs 0 f ++ mid ++ cutR rs b many)) many kind f b := by
  obtain ⟨g0, g1, g2⟩ := g
  have left : Chain 0 f (cutR rs 0 f) ∧ ∀ p, 0 ≤ p → p < f → valR (cutR rs 0 f) p = valR rs p := by
    by_cases c : 0 < f
    · exact cut_chain c hc (Int.le_refl _) (by omega)
    · have e : f = 0 := by omega
      subst e
      rw [cut_none hc (Int.le_refl _)]
      exact ⟨rfl, fun p p1 p2 => by omega⟩
  have right : Chain b many (cutR rs b many) ∧ ∀ p, b ≤ p → p < many → valR (cutR rs b many) p = valR rs p := by
    by_cases c : b < many
    · exact cut_chain c hc (by omega) (Int.le_refl _)
    · have e : b = many := by omega
      subst e
      rw [cut_end hc (Int.le_refl _)]
      exact ⟨rfl, fun p p1 p2 => by omega⟩
  have c1 : Chain 0 b (cutR rs 0 f ++ mid) := chain_app.mpr ⟨f, left.1, hm⟩
  have c2 : Chain 0 many (cutR rs 0 f ++ mid ++ cutR rs b many) := chain_app.mpr ⟨b, c1, right.1⟩
  obtain ⟨j1, j2, j3⟩ := joinR_chain (acc := []) (a := 0) (c := 0) rfl trivial c2
  refine ⟨j1, j2, fun p p1 p2 => ?_⟩
  rw [show joinR (cutR rs 0 f ++ mid ++ cutR rs b many) = List.foldl joinStep [] (cutR rs 0 f ++ mid ++ cutR rs b many) from rfl, j3 p p1 p2, List.nil_append, val_app c1 p p1]
  by_cases d1 : p < b
  · rw [if_pos d1, val_app left.1 p p1]
    by_cases d2 : p < f
    · rw [if_pos d2, left.2 p p1 d2, if_neg (by omega)]
    · rw [if_neg d2, hv p (by omega) d1, if_pos (by omega)]
  · rw [if_neg d1, right.2 p (by omega) p2, if_neg (by omega)]
theorem cut1_len (f b : Int) (r : Run) : (cut1 f b r).toList.length = if r.1 < b ∧ f < r.2.1 then 1 else 0 := by
  unfold cut1
  by_cases c : r.1 < b ∧ f < r.2.1
  · rw [if_pos c, if_pos c]
    rfl
  · rw [if_neg c, if_neg c]
    rfl
theorem cut_mono {rs : List Run} {x m y : Int} (h : x ≤ m) : (cutR rs m y).length ≤ (cutR rs x y).length := by
  induction rs with
  | nil => exact Nat.le_refl _
  | cons r l ih =>
    rw [cut_cons, cut_cons, List.length_append, List.length_append]
    have : (cut1 m y r).toList.length ≤ (cut1 x y r).toList.length := by
      rw [cut1_len, cut1_len]
      split <;> split <;> omega
    omega
theorem cut_len2 {x m y : Int} (h1 : x ≤ m) (h2 : m ≤ y) : ∀ {rs : List Run} {a c : Int}, Chain a c rs → (cutR rs x m).length + (cutR rs m y).length ≤ (cutR rs x y).length + 1
  | [], a, c, _ => Nat.zero_le _
  | r :: l, a, c, hc => by
    by_cases d : m ≤ a
    · have e : cutR (r :: l) x m = [] := cut_none hc d
      rw [e]
      have := cut_mono (rs := r :: l) (y := y) h1
      simp only [List.length_nil]
      omega
    · obtain ⟨c1, c2, c3⟩ := hc
      by_cases d2 : m < r.2.1
      · have e : cutR l x m = [] := cut_none c3 (by omega)
        have mo := cut_mono (rs := l) (y := y) h1
        rw [cut_cons, cut_cons, cut_cons, e]
        have e1 : (cut1 x y r).toList.length = 1 := by
          unfold cut1
          rw [if_pos ⟨by omega, by omega⟩]
          rfl
        have e2 : (cut1 x m r).toList.length ≤ 1 := by
          unfold cut1
          split <;> simp
        have e3 : (cut1 m y r).toList.length ≤ 1 := by
          unfold cut1
          split <;> simp
        simp only [List.length_append, List.length_nil]
        omega
      · have ih := cut_len2 h1 h2 c3
        have e3 : cut1 m y r = none := by
          unfold cut1
          rw [if_neg (fun z => d2 z.2)]
        have e2 : (cut1 x m r).toList.length ≤ (cut1 x y r).toList.length := by
          rw [cut1_len, cut1_len]
          split <;> split <;> omega
        rw [cut_cons, cut_cons, cut_cons, e3]
        simp only [List.length_append, Option.toList_none, List.length_nil]
        omega
theorem join_len0 (l : List Run) : (joinR l).length ≤ l.length := by
  have := fold_len l []
  rw [List.length_nil] at this
  unfold joinR
  omega
theorem DoneOk.len {rs R : List Run} {many : Int} {kind : Str} {f b : Int} (hc : Chain 0 many rs) (g : good many f b) (h : DoneOk rs R many kind f b) : R.length ≤ rs.length + 2 := by
  obtain ⟨g0, g1, g2⟩ := id g
  obtain ⟨m1, m2⟩ := cut_chain g1 hc g0 g2
  have l1 := cut_len2 (x := 0) (m := f) (y := b) g0 (by omega) hc
  have l2 := cut_len2 (x := 0) (m := b) (y := many) (by omega) g2 hc
  have l3 := cut_len rs 0 many
  have ne : 1 ≤ (cutR rs f b).length := by
    cases e : cutR rs f b with
    | nil =>
      rw [e] at m1
      have m1 : f = b := m1
      omega
    | cons r l => rw [List.length_cons]; omega
  have key : ∀ mid : List Run, mid.length ≤ (cutR rs f b).length → Chain f b mid → (∀ p, f ≤ p → p < b → valR mid p = swk kind (valR rs p)) → R.length ≤ rs.length + 2 := by
    intro mid hl hm hv
    have e := h.one (done_ok hc g hm hv)
    rw [e]
    have := join_len0 (cutR rs 0 f ++ mid ++ cutR rs b many)
    simp only [List.length_append] at this
    omega
  by_cases c : kind = "turn"
  · obtain ⟨v1, v2⟩ := val_map (!·) _ m1
    refine key _ (by rw [List.length_map]; exact Nat.le_refl _) v1 fun p p1 p2 => ?_
    rw [v2 p p1 p2, m2 p p1 p2]
    unfold swk
    rw [if_pos c]
  · refine key [(f, b, decide (kind = "on"))] ne ⟨rfl, g1, rfl⟩ fun p p1 p2 => ?_
    rw [val_cons, if_pos p2]
    unfold swk
    rw [if_neg c]
def seg (x y : Int) (t : Bool) : List Run := if x < y then [(x, y, t)] else []
theorem seg_ok {x y : Int} {t : Bool} (h : x ≤ y) : Chain x y (seg x y t) ∧ ∀ p, x ≤ p → p < y → valR (seg x y t) p = t := by
  unfold seg
  by_cases c : x < y
  · rw [if_pos c]
    exact ⟨⟨rfl, c, rfl⟩, fun p p1 p2 => by rw [val_cons, if_pos p2]⟩
  · rw [if_neg c]
    exact ⟨by show x = y; omega, fun p p1 p2 => by omega⟩
def pieces (f b : Int) (u : Bool) (r : Run) : List Run := [(r.1, min r.2.1 f, r.2.2), (max r.1 f, min r.2.1 b, u), (max r.1 b, r.2.1, r.2.2)].filter fun r => decide (r.1 < r.2.1)
theorem pieces_ok {f b : Int} {u : Bool} {r : Run} (hfb : f < b) (hr : r.1 < r.2.1) : Chain r.1 r.2.1 (pieces f b u r) ∧ ∀ p, r.1 ≤ p → p < r.2.1 → valR (pieces f b u r) p = if f ≤ p ∧ p < b then u else r.2.2 := by
  obtain ⟨lo, hi, t⟩ := r
  have hr : lo < hi := hr
  have e : pieces f b u (lo, hi, t) = seg lo (max lo (min hi f)) t ++ (seg (max lo (min hi f)) (max lo (min hi b)) u ++ seg (max lo (min hi b)) hi t) := by
    unfold pieces seg
    rw [List.filter_cons, List.filter_cons, List.filter_cons, List.filter_nil]
    simp only [decide_eq_true_eq]
    have a1 : (if lo < min hi f then [(lo, min hi f, t)] else []) = if lo < max lo (min hi f) then [(lo, max lo (min hi f), t)] else [] := by
      by_cases c : lo < min hi f
      · rw [if_pos c, if_pos (by omega), show max lo (min hi f) = min hi f by omega]
      · rw [if_neg c, if_neg (by omega)]
    have a2 : (if max lo f < min hi b then [(max lo f, min hi b, u)] else []) = if max lo (min hi f) < max lo (min hi b) then [(max lo (min hi f), max lo (min hi b), u)] else [] := by
      by_cases c : max lo f < min hi b
      · rw [if_pos c, if_pos (by omega), show max lo (min hi f) = max lo f by omega, show max lo (min hi b) = min hi b by omega]
      · rw [if_neg c, if_neg (by omega)]
    have a3 : (if max lo b < hi then [(max lo b, hi, t)] else []) = if max lo (min hi b) < hi then [(max lo (min hi b), hi, t)] else [] := by
      by_cases c : max lo b < hi
      · rw [if_pos c, if_pos (by omega), show max lo (min hi b) = max lo b by omega]
      · rw [if_neg c, if_neg (by omega)]
    rw [← a1, ← a2, ← a3]
    split <;> split <;> split <;> rfl
  rw [e]
  obtain ⟨s1, s2⟩ := seg_ok (t := t) (show lo ≤ max lo (min hi f) by omega)
  obtain ⟨s3, s4⟩ := seg_ok (t := u) (show max lo (min hi f) ≤ max lo (min hi b) by omega)
  obtain ⟨s5, s6⟩ := seg_ok (t := t) (show max lo (min hi b) ≤ hi by omega)
  refine ⟨chain_app.mpr ⟨_, s1, chain_app.mpr ⟨_, s3, s5⟩⟩, fun p p1 p2 => ?_⟩
  have p1 : lo ≤ p := p1
  have p2 : p < hi := p2
  rw [val_app s1 p p1]
  by_cases c1 : p < max lo (min hi f)
  · rw [if_pos c1, s2 p p1 c1, if_neg (by omega)]
  · rw [if_neg c1, val_app s3 p (by omega)]
    by_cases c2 : p < max lo (min hi b)
    · rw [if_pos c2, s4 p (by omega) c2, if_pos (by omega)]
    · rw [if_neg c2, s6 p (by omega) p2, if_neg (by omega)]
def piecesAll (kind : Str) (f b : Int) (rs : List Run) : List Run := rs.flatMap fun r => pieces f b (swk kind r.2.2) r
theorem piecesAll_ok {kind : Str} {f b : Int} (hfb : f < b) : ∀ {rs : List Run} {a c : Int}, Chain a c rs → Chain a c (piecesAll kind f b rs) ∧ ∀ p, a ≤ p → p < c → valR (piecesAll kind f b rs) p = if f ≤ p ∧ p < b then swk kind (valR rs p) else valR rs p
  | [], a, c, h => ⟨h, fun p p1 p2 => by have h : a = c := h; omega⟩
  | r :: rs, a, c, h => by
    obtain ⟨h1, h2, h3⟩ := h
    obtain ⟨i1, i2⟩ := piecesAll_ok (kind := kind) hfb h3
    obtain ⟨j1, j2⟩ := pieces_ok (u := swk kind r.2.2) hfb (show r.1 < r.2.1 by omega)
    rw [h1] at j1 j2
    have e : piecesAll kind f b (r :: rs) = pieces f b (swk kind r.2.2) r ++ piecesAll kind f b rs := rfl
    rw [e]
    refine ⟨chain_app.mpr ⟨_, j1, i1⟩, fun p p1 p2 => ?_⟩
    rw [val_app j1 p p1, val_cons]
    by_cases c1 : p < r.2.1
    · rw [if_pos c1, if_pos c1, j2 p p1 c1]
    · rw [if_neg c1, if_neg c1, i2 p (by omega) p2]
theorem piecesAll_done {rs : List Run} {many f b : Int} {kind : Str} (hc : Chain 0 many rs) (hfb : f < b) : DoneOk rs (joinR (piecesAll kind f b rs)) many kind f b := by
  obtain ⟨i1, i2⟩ := piecesAll_ok (kind := kind) hfb hc
  obtain ⟨j1, j2, j3⟩ := joinR_chain (acc := []) (a := 0) (c := 0) rfl trivial i1
  exact ⟨j1, j2, fun p p1 p2 => by rw [show joinR (piecesAll kind f b rs) = List.foldl joinStep [] (piecesAll kind f b rs) from rfl, j3 p p1 p2, List.nil_append, i2 p p1 p2]⟩
theorem pieces_len (f b : Int) (u : Bool) (r : Run) : (pieces f b u r).length ≤ 3 := List.length_filter_le _ _
theorem piecesAll_len (kind : Str) (f b : Int) : ∀ rs : List Run, (piecesAll kind f b rs).length ≤ 3 * rs.length
  | [] => Nat.le_refl _
  | r :: rs => by
    have e : piecesAll kind f b (r :: rs) = pieces f b (swk kind r.2.2) r ++ piecesAll kind f b rs := rfl
    have := pieces_len f b (swk kind r.2.2) r
    have := piecesAll_len kind f b rs
    rw [e, List.length_append, List.length_cons]
    omega
/-! ### lengths of alike ones, one behind the other -/
abbrev Lens := List (Int × Bool)
def totL : Lens → Int
  | [] => 0
  | e :: L => e.1 + totL L
def onL : Lens → Int
  | [] => 0
  | e :: L => (if e.2 = true then e.1 else 0) + onL L
def maxL (b : Bool) : Lens → Int
  | [] => 0
  | e :: L => if e.2 = b then max e.1 (maxL b L) else maxL b L
def valL : Lens → Int → Bool
  | [], _ => false
  | e :: L, p => if p < e.1 then e.2 else valL L (p - e.1)
def headL : Lens → Int
  | [] => 0
  | e :: _ => e.1
def headT : Lens → Bool
  | [] => false
  | e :: _ => e.2
def tailL (L : Lens) : Int := headL L.reverse
def tailT (L : Lens) : Bool := headT L.reverse
def flipL (b : Bool) (L : Lens) : Lens := L.map fun e => (e.1, e.2 ^^ b)
def AltL : Lens → Prop
  | [] => True
  | e :: L => 0 < e.1 ∧ (∀ d ∈ L.head?, d.2 ≠ e.2) ∧ AltL L
def putL : Lens → Lens → Lens
  | [], B => B
  | [e], [] => [e]
  | [e], d :: B => if e.2 = d.2 then (e.1 + d.1, e.2) :: B else e :: d :: B
  | e :: e' :: A, B => e :: putL (e' :: A) B
theorem putL_snoc (A : Lens) (e d : Int × Bool) (B : Lens) : putL (A ++ [e]) (d :: B) = if e.2 = d.2 then A ++ (e.1 + d.1, e.2) :: B else A ++ e :: d :: B := by
  induction A with
  | nil => rfl
  | cons a A ih =>
    cases A with
    | nil =>
      show a :: putL [e] (d :: B) = _
      show a :: (if e.2 = d.2 then (e.1 + d.1, e.2) :: B else e :: d :: B) = _
      split <;> rfl
    | cons a' A =>
      show a :: putL (a' :: A ++ [e]) (d :: B) = _
      rw [ih]
      split <;> rfl
theorem putL_nil (A : Lens) : putL A [] = A := by
  induction A with
  | nil => rfl
  | cons a A ih =>
    cases A with
    | nil => rfl
    | cons a' A =>
      show a :: putL (a' :: A) [] = _
      rw [ih]
theorem nil_orL (A : Lens) : A = [] ∨ ∃ B e, A = B ++ [e] := by
  rcases List.eq_nil_or_concat A with rfl | ⟨B, e, rfl⟩
  · exact .inl rfl
  · exact .inr ⟨B, e, List.concat_eq_append⟩
theorem totL_app (A B : Lens) : totL (A ++ B) = totL A + totL B := by
  induction A with
  | nil => show totL B = 0 + totL B; omega
  | cons a A ih => show a.1 + totL (A ++ B) = a.1 + totL A + totL B; omega
theorem onL_app (A B : Lens) : onL (A ++ B) = onL A + onL B := by
  induction A with
  | nil => show onL B = 0 + onL B; omega
  | cons a A ih => show (if a.2 = true then a.1 else 0) + onL (A ++ B) = (if a.2 = true then a.1 else 0) + onL A + onL B; omega
theorem maxL_app (b : Bool) (A B : Lens) (h : 0 ≤ maxL b B) : maxL b (A ++ B) = max (maxL b A) (maxL b B) := by
  induction A with
  | nil => show maxL b B = max 0 (maxL b B); omega
  | cons a A ih =>
    show (if a.2 = b then max a.1 (maxL b (A ++ B)) else maxL b (A ++ B)) = max (if a.2 = b then max a.1 (maxL b A) else maxL b A) (maxL b B)
    rw [ih]
    split <;> omega
theorem maxL_nn (b : Bool) : ∀ A : Lens, 0 ≤ maxL b A
  | [] => Int.le_refl _
  | a :: A => by
    have := maxL_nn b A
    show 0 ≤ if a.2 = b then max a.1 (maxL b A) else maxL b A
    split <;> omega
theorem tailL_snoc (A : Lens) (e : Int × Bool) : tailL (A ++ [e]) = e.1 := by
  unfold tailL
  rw [List.reverse_append]
  rfl
theorem tailT_snoc (A : Lens) (e : Int × Bool) : tailT (A ++ [e]) = e.2 := by
  unfold tailT
  rw [List.reverse_append]
  rfl
theorem tailL_cons (e : Int × Bool) (A : Lens) (h : A ≠ []) : tailL (e :: A) = tailL A := by
  rcases nil_orL A with rfl | ⟨B, d, rfl⟩
  · exact absurd rfl h
  · rw [show e :: (B ++ [d]) = (e :: B) ++ [d] from rfl, tailL_snoc, tailL_snoc]
theorem tailT_cons (e : Int × Bool) (A : Lens) (h : A ≠ []) : tailT (e :: A) = tailT A := by
  rcases nil_orL A with rfl | ⟨B, d, rfl⟩
  · exact absurd rfl h
  · rw [show e :: (B ++ [d]) = (e :: B) ++ [d] from rfl, tailT_snoc, tailT_snoc]
theorem altL_tot : ∀ {A : Lens}, AltL A → 0 ≤ totL A ∧ (A ≠ [] → 1 ≤ totL A)
  | [], _ => ⟨Int.le_refl _, fun h => absurd rfl h⟩
  | a :: A, h => by
    have h1 := (altL_tot h.2.2).1
    have h2 := h.1
    show 0 ≤ a.1 + totL A ∧ (_ → 1 ≤ a.1 + totL A)
    exact ⟨by omega, fun _ => by omega⟩
theorem altL_app : ∀ {A B : Lens}, AltL (A ++ B) ↔ AltL A ∧ AltL B ∧ (A ≠ [] → B ≠ [] → tailT A ≠ headT B)
  | [], B => ⟨fun h => ⟨trivial, h, fun z => absurd rfl z⟩, fun h => h.2.1⟩
  | [e], [] => ⟨fun h => ⟨h, trivial, fun _ z => absurd rfl z⟩, fun h => h.1⟩
  | [e], d :: B => by
    constructor
    · intro h
      refine ⟨⟨h.1, nofun, trivial⟩, h.2.2, fun _ _ => ?_⟩
      show e.2 ≠ d.2
      exact fun z => h.2.1 d rfl z.symm
    · rintro ⟨h1, h2, h3⟩
      refine ⟨h1.1, fun c hc => ?_, h2⟩
      cases hc
      exact fun z => h3 (by simp) (by simp) z.symm
  | e :: e' :: A, B => by
    have ih := altL_app (A := e' :: A) (B := B)
    constructor
    · intro h
      obtain ⟨i1, i2, i3⟩ := ih.mp h.2.2
      exact ⟨⟨h.1, h.2.1, i1⟩, i2, fun _ hb => by rw [tailT_cons e (e' :: A) (by simp)]; exact i3 (by simp) hb⟩
    · rintro ⟨h1, h2, h3⟩
      refine ⟨h1.1, h1.2.1, ih.mpr ⟨h1.2.2, h2, fun _ hb => ?_⟩⟩
      rw [← tailT_cons e (e' :: A) (by simp)]
      exact h3 (by simp) hb
theorem altL_one {e : Int × Bool} (h : 0 < e.1) : AltL [e] := ⟨h, nofun, trivial⟩
theorem putL_tot (A B : Lens) : totL (putL A B) = totL A + totL B := by
  rcases nil_orL A with rfl | ⟨A, e, rfl⟩
  · show totL B = 0 + totL B
    omega
  · cases B with
    | nil => rw [putL_nil]; show _ = _ + (0 : Int); omega
    | cons d B =>
      rw [putL_snoc, totL_app]
      show _ = totL A + (e.1 + 0) + (d.1 + totL B)
      split
      · rw [totL_app]; show totL A + (e.1 + d.1 + totL B) = _; omega
      · rw [totL_app]; show totL A + (e.1 + (d.1 + totL B)) = _; omega
theorem putL_on (A B : Lens) : onL (putL A B) = onL A + onL B := by
  rcases nil_orL A with rfl | ⟨A, e, rfl⟩
  · show onL B = 0 + onL B
    omega
  · cases B with
    | nil => rw [putL_nil]; show _ = _ + (0 : Int); omega
    | cons d B =>
      rw [putL_snoc, onL_app]
      show _ = onL A + ((if e.2 = true then e.1 else 0) + 0) + ((if d.2 = true then d.1 else 0) + onL B)
      split
      · rename_i c
        rw [onL_app, ← c]; show onL A + ((if e.2 = true then e.1 + d.1 else 0) + onL B) = _
        split <;> omega
      · rw [onL_app]; show onL A + ((if e.2 = true then e.1 else 0) + ((if d.2 = true then d.1 else 0) + onL B)) = _; omega
theorem putL_ne {A B : Lens} (h : A ≠ []) : putL A B ≠ [] := by
  rcases nil_orL A with rfl | ⟨A, e, rfl⟩
  · exact absurd rfl h
  · cases B with
    | nil => rw [putL_nil]; exact h
    | cons d B => rw [putL_snoc]; split <;> simp
theorem putL_headT {A B : Lens} (h : A ≠ []) : headT (putL A B) = headT A := by
  cases A with
  | nil => exact absurd rfl h
  | cons a A =>
    cases A with
    | nil =>
      cases B with
      | nil => rfl
      | cons d B =>
        show headT (if a.2 = d.2 then _ else _) = _
        split <;> rfl
    | cons a' A => rfl
theorem headT_app {A B : Lens} (h : A ≠ []) : headT (A ++ B) = headT A := by
  cases A with
  | nil => exact absurd rfl h
  | cons a A => rfl
theorem tailT_app {A B : Lens} (h : B ≠ []) : tailT (A ++ B) = tailT B := by
  unfold tailT
  rw [List.reverse_append, headT_app (by simpa using h)]
theorem headL_app {A B : Lens} (h : A ≠ []) : headL (A ++ B) = headL A := by
  cases A with
  | nil => exact absurd rfl h
  | cons a A => rfl
theorem tailL_app {A B : Lens} (h : B ≠ []) : tailL (A ++ B) = tailL B := by
  unfold tailL
  rw [List.reverse_append, headL_app (by simpa using h)]
theorem putL_tailT {A B : Lens} (h : B ≠ []) : tailT (putL A B) = tailT B := by
  rcases nil_orL A with rfl | ⟨A, e, rfl⟩
  · rfl
  · cases B with
    | nil => exact absurd rfl h
    | cons d B =>
      rw [putL_snoc]
      cases B with
      | nil =>
        split
        · rename_i c
          rw [tailT_snoc, c]; rfl
        · rw [show A ++ [e, d] = (A ++ [e]) ++ [d] by simp, tailT_snoc]; rfl
      | cons d' B =>
        split
        · rw [show A ++ (e.1 + d.1, e.2) :: d' :: B = (A ++ [(e.1 + d.1, e.2)]) ++ (d' :: B) by simp, tailT_app (by simp), tailT_cons d (d' :: B) (by simp)]
        · rw [show A ++ e :: d :: d' :: B = (A ++ [e]) ++ (d :: d' :: B) by simp, tailT_app (by simp)]
theorem putL_alt {A B : Lens} (hA : AltL A) (hB : AltL B) : AltL (putL A B) := by
  rcases nil_orL A with rfl | ⟨A, e, rfl⟩
  · exact hB
  · cases B with
    | nil => rw [putL_nil]; exact hA
    | cons d B =>
      rw [putL_snoc]
      obtain ⟨a1, a2, a3⟩ := altL_app.mp hA
      obtain ⟨b1, b2, b3⟩ := hB
      have he : 0 < e.1 := a2.1
      split
      · rename_i c
        refine altL_app.mpr ⟨a1, ⟨by show 0 < e.1 + d.1; omega, ?_, b3⟩, fun ha _ => a3 ha (by simp)⟩
        show ∀ x ∈ B.head?, x.2 ≠ e.2
        rw [c]
        exact b2
      · rename_i c
        refine altL_app.mpr ⟨a1, ⟨he, ?_, b1, b2, b3⟩, fun ha _ => a3 ha (by simp)⟩
        intro x hx
        cases hx
        exact fun z => c z.symm
theorem valL_cons (e : Int × Bool) (L : Lens) (p : Int) : valL (e :: L) p = if p < e.1 then e.2 else valL L (p - e.1) := rfl
theorem totL_cons (e : Int × Bool) (L : Lens) : totL (e :: L) = e.1 + totL L := rfl
theorem valL_app : ∀ {A : Lens}, AltL A → ∀ (B : Lens) (p : Int), 0 ≤ p → valL (A ++ B) p = if p < totL A then valL A p else valL B (p - totL A)
  | [], _, B, p, hp => by
    show valL B p = if p < 0 then false else valL B (p - 0)
    rw [if_neg (by omega), Int.sub_zero]
  | a :: A, h, B, p, hp => by
    have h1 := h.1
    have h2 := (altL_tot h.2.2).1
    rw [List.cons_append, valL_cons, valL_cons, totL_cons]
    by_cases c : p < a.1
    · rw [if_pos c, if_pos c, if_pos (by omega)]
    · rw [if_neg c, if_neg c, valL_app h.2.2 B (p - a.1) (by omega)]
      by_cases c2 : p < a.1 + totL A
      · rw [if_pos c2, if_pos (by omega)]
      · rw [if_neg c2, if_neg (by omega), show p - a.1 - totL A = p - (a.1 + totL A) by omega]
theorem putL_val {A B : Lens} (hA : AltL A) (hB : AltL B) (p : Int) (hp : 0 ≤ p) : valL (putL A B) p = if p < totL A then valL A p else valL B (p - totL A) := by
  rcases nil_orL A with rfl | ⟨A, e, rfl⟩
  · show valL B p = if p < 0 then false else valL B (p - 0)
    rw [if_neg (by omega), Int.sub_zero]
  · cases B with
    | nil =>
      rw [putL_nil]
      have := valL_app hA [] p hp
      rw [List.append_nil] at this
      exact this
    | cons d B =>
      rw [putL_snoc]
      split
      · rename_i c
        obtain ⟨a1, a2, a3⟩ := altL_app.mp hA
        have he : 0 < e.1 := a2.1
        have hd : 0 < d.1 := hB.1
        rw [valL_app a1 _ p hp, valL_app a1 _ p hp, totL_app, valL_cons, valL_cons, valL_cons]
        show (if p < totL A then valL A p else if p - totL A < e.1 + d.1 then e.2 else valL B (p - totL A - (e.1 + d.1))) = if p < totL A + (e.1 + 0) then (if p < totL A then valL A p else if p - totL A < e.1 then e.2 else valL [] (p - totL A - e.1)) else if p - (totL A + (e.1 + 0)) < d.1 then d.2 else valL B (p - (totL A + (e.1 + 0)) - d.1)
        by_cases c1 : p < totL A
        · rw [if_pos c1, if_pos c1, if_pos (by omega)]
        · rw [if_neg c1, if_neg c1]
          by_cases c2 : p < totL A + (e.1 + 0)
          · rw [if_pos c2, if_pos (by omega), if_pos (by omega)]
          · rw [if_neg c2]
            by_cases c3 : p - totL A < e.1 + d.1
            · rw [if_pos c3, if_pos (by omega), c]
            · rw [if_neg c3, if_neg (by omega), show p - totL A - (e.1 + d.1) = p - (totL A + (e.1 + 0)) - d.1 by omega]
      · rw [show A ++ e :: d :: B = (A ++ [e]) ++ (d :: B) by simp, valL_app hA _ p hp]
/-! turned -/
theorem flipL_cons (b : Bool) (e : Int × Bool) (L : Lens) : flipL b (e :: L) = (e.1, e.2 ^^ b) :: flipL b L := rfl
theorem flipL_ne {b : Bool} {L : Lens} (h : L ≠ []) : flipL b L ≠ [] := by
  cases L with
  | nil => exact absurd rfl h
  | cons e L => simp [flipL]
theorem flipL_false (L : Lens) : flipL false L = L := by
  unfold flipL
  simp
theorem flipL_flipL (a b : Bool) (L : Lens) : flipL b (flipL a L) = flipL (a ^^ b) L := by
  unfold flipL
  simp
theorem flipL_tot (b : Bool) : ∀ L : Lens, totL (flipL b L) = totL L
  | [] => rfl
  | e :: L => by rw [flipL_cons, totL_cons, totL_cons, flipL_tot b L]
theorem flipL_alt (b : Bool) : ∀ {L : Lens}, AltL L → AltL (flipL b L)
  | [], _ => trivial
  | e :: L, h => by
    refine ⟨h.1, fun d hd => ?_, flipL_alt b h.2.2⟩
    cases L with
    | nil => cases hd
    | cons c L =>
      cases hd
      show (c.2 ^^ b) ≠ (e.2 ^^ b)
      have := h.2.1 c rfl
      revert this
      cases c.2 <;> cases e.2 <;> cases b <;> simp
theorem flipL_headT {b : Bool} {L : Lens} (h : L ≠ []) : headT (flipL b L) = (headT L ^^ b) := by
  cases L with
  | nil => exact absurd rfl h
  | cons e L => rfl
theorem flipL_headL (b : Bool) (L : Lens) : headL (flipL b L) = headL L := by
  cases L with
  | nil => rfl
  | cons e L => rfl
theorem flipL_rev (b : Bool) (L : Lens) : (flipL b L).reverse = flipL b L.reverse := by
  unfold flipL
  rw [List.map_reverse]
theorem flipL_tailT {b : Bool} {L : Lens} (h : L ≠ []) : tailT (flipL b L) = (tailT L ^^ b) := by
  unfold tailT
  rw [flipL_rev, flipL_headT (by simpa using h)]
theorem flipL_tailL (b : Bool) (L : Lens) : tailL (flipL b L) = tailL L := by
  unfold tailL
  rw [flipL_rev, flipL_headL]
theorem flipL_on : ∀ L : Lens, onL (flipL true L) = totL L - onL L
  | [] => rfl
  | e :: L => by
    have ih := flipL_on L
    rw [flipL_cons, totL_cons]
    show (if (e.2 ^^ true) = true then e.1 else 0) + onL (flipL true L) = e.1 + totL L - ((if e.2 = true then e.1 else 0) + onL L)
    rw [ih]
    cases e.2 <;> simp <;> omega
theorem flipL_max (b : Bool) : ∀ L : Lens, maxL b (flipL true L) = maxL (!b) L
  | [] => rfl
  | e :: L => by
    have ih := flipL_max b L
    rw [flipL_cons]
    show (if (e.2 ^^ true) = b then max e.1 (maxL b (flipL true L)) else maxL b (flipL true L)) = if e.2 = !b then max e.1 (maxL (!b) L) else maxL (!b) L
    rw [ih]
    cases e.2 <;> cases b <;> rfl
theorem flipL_val (b : Bool) : ∀ {L : Lens} (p : Int), 0 ≤ p → p < totL L → valL (flipL b L) p = (valL L p ^^ b)
  | [], p, h0, h => by
    have h : p < 0 := h
    omega
  | e :: L, p, h0, h => by
    rw [totL_cons] at h
    rw [flipL_cons, valL_cons, valL_cons]
    by_cases c : p < e.1
    · rw [if_pos c, if_pos c]
    · rw [if_neg c, if_neg c]
      exact flipL_val b (p - e.1) (by omega) (by omega)
/-! one lengths list for a row -/
theorem lens_one : ∀ {A B : Lens}, AltL A → AltL B → totL A = totL B → (∀ p, 0 ≤ p → p < totL A → valL A p = valL B p) → A = B
  | [], [], _, _, _, _ => rfl
  | [], b :: B, _, h, e, _ => by
    have h1 := (altL_tot h).2 (by simp)
    have e : (0 : Int) = totL (b :: B) := e
    omega
  | a :: A, [], h, _, e, _ => by
    have h1 := (altL_tot h).2 (by simp)
    have e : totL (a :: A) = (0 : Int) := e
    omega
  | a :: A, b :: B, hA, hB, e, hv => by
    have a1 := hA.1
    have b1 := hB.1
    have a2 := (altL_tot hA.2.2).1
    have b2 := (altL_tot hB.2.2).1
    rw [totL_cons] at e hv
    rw [totL_cons] at e
    have e1 : a.2 = b.2 := by
      have := hv 0 (by omega) (by omega)
      rw [valL_cons, valL_cons, if_pos a1, if_pos b1] at this
      exact this
    have next : ∀ {a : Int × Bool} {A : Lens}, AltL (a :: A) → A ≠ [] → valL A 0 ≠ a.2 := by
      intro a A h hne
      cases A with
      | nil => exact absurd rfl hne
      | cons c A =>
        rw [valL_cons, if_pos h.2.2.1]
        exact h.2.1 c rfl
    have ne : ∀ {A : Lens}, 0 < totL A → A ≠ [] := by
      intro A h z
      subst z
      have h : (0 : Int) < 0 := h
      omega
    have e2 : a.1 = b.1 := by
      by_cases c1 : a.1 < b.1
      · have := hv a.1 (by omega) (by omega)
        rw [valL_cons, valL_cons, if_neg (by omega), if_pos c1, Int.sub_self, ← e1] at this
        exact absurd this (next hA (ne (by omega)))
      · by_cases c2 : b.1 < a.1
        · have := hv b.1 (by omega) (by omega)
          rw [valL_cons, valL_cons, if_pos c2, if_neg (by omega), Int.sub_self, e1] at this
          exact absurd this.symm (next hB (ne (by omega)))
        · omega
    have e3 : A = B := by
      refine lens_one hA.2.2 hB.2.2 (by omega) fun p p1 p2 => ?_
      have := hv (p + a.1) (by omega) (by omega)
      rw [valL_cons, valL_cons, if_neg (by omega), if_neg (by omega), ← e2, show p + a.1 - a.1 = p by omega] at this
      exact this
    rw [e3]
    congr 1
    exact Prod.ext e2 e1
/-! sums -/
structure Sums where
  on : Int
  head : Int
  tail : Int
  most : Int
  least : Int
deriving DecidableEq
def sumsL (L : Lens) : Sums := ⟨onL L, headL L, tailL L, maxL true L, maxL false L⟩
theorem sums_flip {L : Lens} : sumsL (flipL true L) = ⟨totL L - onL L, headL L, tailL L, maxL false L, maxL true L⟩ := by
  unfold sumsL
  rw [flipL_on, flipL_headL, flipL_tailL, flipL_max, flipL_max]
  rfl
theorem head_all {A : Lens} (h : AltL A) (hne : A ≠ []) : headL A ≤ totL A ∧ (headL A = totL A ↔ ∃ e, A = [e]) := by
  cases A with
  | nil => exact absurd rfl hne
  | cons e A =>
    have h2 := altL_tot h.2.2
    show e.1 ≤ e.1 + totL A ∧ (e.1 = e.1 + totL A ↔ _)
    refine ⟨by omega, fun z => ?_, fun ⟨d, z⟩ => ?_⟩
    · cases A with
      | nil => exact ⟨e, rfl⟩
      | cons d A => have := h2.2 (by simp); omega
    · cases z
      show e.1 = e.1 + 0
      omega
/-- the sums of two halves by their own -/
def sumsPutF (s s' : Sums) (lt ft : Bool) (half : Int) : Sums :=
  let joined := if lt = ft then s.tail + s'.head else 0
  ⟨s.on + s'.on, if s.head = half ∧ joined > 0 then joined else s.head, if s'.tail = half ∧ joined > 0 then joined else s'.tail,
    if lt = ft ∧ ft = true then max (max s.most s'.most) joined else max s.most s'.most, if lt = ft ∧ ft = false then max (max s.least s'.least) joined else max s.least s'.least⟩
theorem maxL_one (b : Bool) (e : Int × Bool) (h : 0 < e.1) : maxL b [e] = if e.2 = b then e.1 else 0 := by
  show (if e.2 = b then max e.1 0 else 0) = _
  split <;> omega
theorem maxL_cons (b : Bool) (e : Int × Bool) (A : Lens) : maxL b (e :: A) = if e.2 = b then max e.1 (maxL b A) else maxL b A := rfl
theorem putL_max {A B : Lens} {e d : Int × Bool} (b : Bool) (he : 0 < e.1) (hd : 0 < d.1) : maxL b (putL (A ++ [e]) (d :: B)) = if e.2 = d.2 ∧ d.2 = b then max (max (maxL b (A ++ [e])) (maxL b (d :: B))) (e.1 + d.1) else max (maxL b (A ++ [e])) (maxL b (d :: B)) := by
  have n1 := maxL_nn b A
  have n2 := maxL_nn b B
  rw [putL_snoc, maxL_app b A [e] (maxL_nn _ _), maxL_one b e he, maxL_cons b d B]
  by_cases c : e.2 = d.2
  · rw [if_pos c, maxL_app b A _ (maxL_nn _ _), maxL_cons]
    simp only
    by_cases c2 : d.2 = b
    · rw [if_pos (c.trans c2), if_pos (c.trans c2), if_pos c2, if_pos ⟨c, c2⟩]
      omega
    · rw [if_neg (fun z => c2 (c.symm.trans z)), if_neg (fun z => c2 (c.symm.trans z)), if_neg c2, if_neg (fun z => c2 z.2)]
      omega
  · rw [if_neg c, if_neg (fun z => c z.1), maxL_app b A _ (maxL_nn _ _), maxL_cons, maxL_cons]
    split <;> split <;> omega
theorem sums_put {A B : Lens} {half : Int} (hA : AltL A) (hB : AltL B) (tA : totL A = half) (tB : totL B = half) (h1 : 1 ≤ half) : sumsL (putL A B) = sumsPutF (sumsL A) (sumsL B) (tailT A) (headT B) half := by
  rcases nil_orL A with rfl | ⟨A, e, rfl⟩
  · have tA : (0 : Int) = half := tA
    omega
  cases B with
  | nil =>
    have tB : (0 : Int) = half := tB
    omega
  | cons d B =>
    have hh1 := head_all hA (by simp)
    have hh2 : tailL (d :: B) = half ↔ B = [] := by
      cases B with
      | nil => exact ⟨fun _ => rfl, fun _ => by rw [← tB]; show d.1 = d.1 + 0; omega⟩
      | cons d' B =>
        refine ⟨fun z => ?_, fun z => by cases z⟩
        exfalso
        rcases nil_orL (d' :: B) with z2 | ⟨C, c, z2⟩
        · cases z2
        · rw [z2] at hB tB z
          have hC := (altL_app (A := d :: C) (B := [c])).mp hB
          rw [show d :: (C ++ [c]) = (d :: C) ++ [c] from rfl, totL_app] at tB
          rw [show d :: (C ++ [c]) = (d :: C) ++ [c] from rfl, tailL_snoc] at z
          have := (altL_tot hC.1).2 (by simp)
          have tB : totL (d :: C) + (c.1 + 0) = half := tB
          omega
    have he : 0 < e.1 := (altL_app.mp hA).2.1.1
    have hd : 0 < d.1 := hB.1
    unfold sumsL sumsPutF
    simp only [tailT_snoc, tailL_snoc, putL_on]
    rw [putL_max true he hd, putL_max false he hd]
    have hT : headT (d :: B) = d.2 := rfl
    have hL : headL (d :: B) = d.1 := rfl
    rw [hT, hL]
    have p1 : headL (putL (A ++ [e]) (d :: B)) = if headL (A ++ [e]) = half ∧ (if e.2 = d.2 then e.1 + d.1 else 0) > 0 then (if e.2 = d.2 then e.1 + d.1 else 0) else headL (A ++ [e]) := by
      rw [putL_snoc]
      by_cases c : e.2 = d.2
      · rw [if_pos c, if_pos c]
        cases A with
        | nil =>
          rw [if_pos ⟨by rw [← tA]; show e.1 = e.1 + 0; omega, by omega⟩]
          rfl
        | cons a A =>
          rw [if_neg (fun z => by
            obtain ⟨e', z2⟩ := hh1.2.mp (z.1.trans tA.symm)
            simp at z2)]
          rfl
      · rw [if_neg c, if_neg c, if_neg (fun z => by have := z.2; omega)]
        cases A <;> rfl
    have p2 : tailL (putL (A ++ [e]) (d :: B)) = if tailL (d :: B) = half ∧ (if e.2 = d.2 then e.1 + d.1 else 0) > 0 then (if e.2 = d.2 then e.1 + d.1 else 0) else tailL (d :: B) := by
      rw [putL_snoc]
      by_cases c : e.2 = d.2
      · rw [if_pos c, if_pos c]
        cases B with
        | nil =>
          rw [if_pos ⟨hh2.mpr rfl, by omega⟩, tailL_snoc]
        | cons d' B =>
          rw [if_neg (fun z => by have := hh2.mp z.1; cases this)]
          rw [show A ++ (e.1 + d.1, e.2) :: d' :: B = (A ++ [(e.1 + d.1, e.2)]) ++ (d' :: B) by simp, tailL_app (by simp), tailL_cons d (d' :: B) (by simp)]
      · rw [if_neg c, if_neg c, if_neg (fun z => by have := z.2; omega)]
        rw [show A ++ e :: d :: B = (A ++ [e]) ++ (d :: B) by simp, tailL_app (by simp)]
    rw [p1, p2]
    congr 1
    · by_cases c : e.2 = d.2 ∧ d.2 = true
      · rw [if_pos c, if_pos c, if_pos c.1]
      · rw [if_neg c, if_neg c]
    · by_cases c : e.2 = d.2 ∧ d.2 = false
      · rw [if_pos c, if_pos c, if_pos c.1]
      · rw [if_neg c, if_neg c]
/-! ### trees kept in halves -/
inductive Tree where
  | all (b : Bool)
  | half (l r : Tree) (late : Bool) (s : Sums)
def lens : Tree → Nat → Lens
  | .all b, h => [(sz h, b)]
  | .half l r t _, h + 1 => flipL t (putL (lens l h) (lens r h))
  | .half _ _ _ _, 0 => [(1, false)]
/-- not higher than that -/
def Fit : Tree → Nat → Prop
  | .all _, _ => True
  | .half l r _ _, h + 1 => Fit l h ∧ Fit r h
  | .half _ _ _ _, 0 => False
def sameAll : Tree → Tree → Bool
  | .all a, .all b => decide (a = b)
  | _, _ => false
/-- kept right -/
def Right : Tree → Nat → Prop
  | .all _, _ => True
  | .half l r t s, h + 1 => sameAll l r = false ∧ Right l h ∧ Right r h ∧ s = sumsL (flipL t (putL (lens l h) (lens r h)))
  | .half _ _ _ _, 0 => False
theorem Right.fit : ∀ {t : Tree} {h : Nat}, Right t h → Fit t h
  | .all _, _, _ => trivial
  | .half _ _ _ _, _ + 1, z => ⟨z.2.1.fit, z.2.2.1.fit⟩
  | .half _ _ _ _, 0, z => z.elim
theorem lens_ne (t : Tree) (h : Nat) : lens t h ≠ [] := by
  induction t generalizing h with
  | all b => simp [lens]
  | half l r t s ihl ihr =>
    cases h with
    | zero => simp [lens]
    | succ h => exact flipL_ne (putL_ne (ihl h))
theorem lens_alt (t : Tree) (h : Nat) : AltL (lens t h) := by
  induction t generalizing h with
  | all b => exact altL_one (by have := sz_pos h; show 0 < sz h; omega)
  | half l r t s ihl ihr =>
    cases h with
    | zero => exact altL_one (by decide)
    | succ h => exact flipL_alt _ (putL_alt (ihl h) (ihr h))
theorem lens_tot (t : Tree) (h : Nat) : totL (lens t h) = sz h := by
  induction t generalizing h with
  | all b => show sz h + 0 = _; omega
  | half l r t s ihl ihr =>
    cases h with
    | zero => rfl
    | succ h =>
      show totL (flipL t (putL (lens l h) (lens r h))) = _
      rw [flipL_tot, putL_tot, ihl, ihr, sz_succ]
      omega
/-- the truth at a place -/
def val (t : Tree) (h : Nat) (p : Int) : Bool := valL (lens t h) p
theorem val_all (b : Bool) (h : Nat) {p : Int} (hp : p < sz h) : val (.all b) h p = b := by
  show (if p < sz h then b else _) = b
  rw [if_pos hp]
theorem val_half {l r : Tree} {t : Bool} {s : Sums} {h : Nat} {p : Int} (h0 : 0 ≤ p) (h1 : p < sz (h + 1)) : val (.half l r t s) (h + 1) p = ((if p < sz h then val l h p else val r h (p - sz h)) ^^ t) := by
  show valL (flipL t (putL (lens l h) (lens r h))) p = _
  rw [flipL_val t p h0 (by rw [putL_tot, lens_tot, lens_tot]; rw [sz_succ] at h1; omega), putL_val (lens_alt l h) (lens_alt r h) p h0, lens_tot]
  rfl
/-! what the program computes -/
def sumsOf (t : Tree) (h : Nat) : Sums :=
  match t with
  | .half _ _ _ s => s
  | .all true => ⟨sz h, sz h, sz h, sz h, 0⟩
  | .all false => ⟨0, sz h, sz h, 0, sz h⟩
def sumsTurned (s : Sums) (h : Nat) : Sums := ⟨sz h - s.on, s.head, s.tail, s.least, s.most⟩
def turnedT (t : Tree) (h : Nat) : Tree :=
  match t with
  | .all b => .all (!b)
  | .half l r t s => .half l r (!t) (sumsTurned s h)
def endOn : Tree → Bool → Bool
  | .all b, _ => b
  | .half l r t _, d => (if d = true then endOn r d else endOn l d) ^^ t
def sumsPut (l r : Tree) (h : Nat) : Sums := sumsPutF (sumsOf l h) (sumsOf r h) (endOn l true) (endOn r false) (sz h)
def halfOf (l r : Tree) (h : Nat) : Tree := if sameAll l r = true then l else .half l r false (sumsPut l r h)
def opened (t : Tree) (h : Nat) : Tree × Tree :=
  match t with
  | .all b => (.all b, .all b)
  | .half l r true _ => (turnedT l h, turnedT r h)
  | .half l r false _ => (l, r)
theorem sumsOf_ok {t : Tree} {h : Nat} (R : Right t h) : sumsOf t h = sumsL (lens t h) := by
  have := sz_pos h
  cases t with
  | all b =>
    cases b with
    | true =>
      show (⟨sz h, sz h, sz h, sz h, 0⟩ : Sums) = ⟨sz h + 0, sz h, sz h, max (sz h) 0, 0⟩
      rw [show max (sz h) 0 = sz h by omega, Int.add_zero]
    | false =>
      show (⟨0, sz h, sz h, 0, sz h⟩ : Sums) = ⟨0 + 0, sz h, sz h, 0, max (sz h) 0⟩
      rw [show max (sz h) 0 = sz h by omega, Int.add_zero]
  | half l r t s =>
    cases h with
    | zero => exact R.elim
    | succ h => exact R.2.2.2
theorem endOn_ok {t : Tree} : ∀ {h : Nat}, Fit t h → endOn t false = headT (lens t h) ∧ endOn t true = tailT (lens t h) := by
  induction t with
  | all b => exact fun _ => ⟨rfl, rfl⟩
  | half l r t s ihl ihr =>
    intro h F
    cases h with
    | zero => exact F.elim
    | succ h =>
      obtain ⟨a1, a2⟩ := ihl F.1
      obtain ⟨b1, b2⟩ := ihr F.2
      have e : lens (.half l r t s) (h + 1) = flipL t (putL (lens l h) (lens r h)) := rfl
      rw [e, flipL_headT (putL_ne (lens_ne _ _)), flipL_tailT (putL_ne (lens_ne _ _)), putL_headT (lens_ne _ _), putL_tailT (lens_ne _ _), ← a1, ← b2]
      exact ⟨rfl, rfl⟩
theorem sumsPut_ok {l r : Tree} {h : Nat} (hl : Right l h) (hr : Right r h) : sumsPut l r h = sumsL (putL (lens l h) (lens r h)) := by
  unfold sumsPut
  rw [sums_put (lens_alt l h) (lens_alt r h) (lens_tot l h) (lens_tot r h) (sz_pos h), sumsOf_ok hl, sumsOf_ok hr, (endOn_ok hl.fit).2, (endOn_ok hr.fit).1]
theorem turnedT_lens (t : Tree) : ∀ {h : Nat}, Fit t h → lens (turnedT t h) h = flipL true (lens t h) := by
  intro h F
  cases t with
  | all b => show [(sz h, !b)] = [(sz h, b ^^ true)]; cases b <;> rfl
  | half l r t s =>
    cases h with
    | zero => exact F.elim
    | succ h =>
      show flipL (!t) _ = flipL true (flipL t _)
      rw [flipL_flipL]
      cases t <;> rfl
theorem turnedT_right {t : Tree} {h : Nat} (R : Right t h) : Right (turnedT t h) h := by
  cases t with
  | all b => trivial
  | half l r t s =>
    cases h with
    | zero => exact R.elim
    | succ h =>
      obtain ⟨r1, r2, r3, r4⟩ := R
      refine ⟨r1, r2, r3, ?_⟩
      have e : flipL (!t) (putL (lens l h) (lens r h)) = flipL true (flipL t (putL (lens l h) (lens r h))) := by
        rw [flipL_flipL]
        cases t <;> rfl
      rw [e, sums_flip, r4]
      unfold sumsTurned sumsL
      rw [flipL_tot, putL_tot, lens_tot, lens_tot, sz_succ, show sz h + sz h = 2 * sz h by omega]
theorem turnedT_val {t : Tree} {h : Nat} (F : Fit t h) {p : Int} (h0 : 0 ≤ p) (h1 : p < sz h) : val (turnedT t h) h p = !val t h p := by
  unfold val
  rw [turnedT_lens t F, flipL_val true p h0 (by rw [lens_tot]; exact h1)]
  cases valL (lens t h) p <;> rfl
theorem turnedT_fit {t : Tree} {h : Nat} (F : Fit t h) : Fit (turnedT t h) h := by
  cases t with
  | all b => trivial
  | half l r t s =>
    cases h with
    | zero => exact F.elim
    | succ h => exact F
theorem opened_right {t : Tree} {h : Nat} (R : Right t (h + 1)) : Right (opened t h).1 h ∧ Right (opened t h).2 h := by
  cases t with
  | all b => exact ⟨trivial, trivial⟩
  | half l r t s =>
    cases t with
    | true => exact ⟨turnedT_right R.2.1, turnedT_right R.2.2.1⟩
    | false => exact ⟨R.2.1, R.2.2.1⟩
theorem opened_val {t : Tree} {h : Nat} (F : Fit t (h + 1)) {p : Int} (h0 : 0 ≤ p) (h1 : p < sz (h + 1)) : val t (h + 1) p = if p < sz h then val (opened t h).1 h p else val (opened t h).2 h (p - sz h) := by
  have h2 := h1
  rw [sz_succ] at h2
  cases t with
  | all b =>
    rw [val_all b _ h1]
    show b = if p < sz h then val (.all b) h p else val (.all b) h (p - sz h)
    by_cases c : p < sz h
    · rw [if_pos c, val_all b h c]
    · rw [if_neg c, val_all b h (by omega)]
  | half l r t s =>
    rw [val_half h0 h1]
    cases t with
    | true =>
      show _ = if p < sz h then val (turnedT l h) h p else val (turnedT r h) h (p - sz h)
      by_cases c : p < sz h
      · rw [if_pos c, if_pos c, turnedT_val F.1 h0 c]
        cases val l h p <;> rfl
      · rw [if_neg c, if_neg c, turnedT_val F.2 (by omega) (by omega)]
        cases val r h (p - sz h) <;> rfl
    | false =>
      show _ = if p < sz h then val l h p else val r h (p - sz h)
      split <;> simp
theorem halfOf_right {l r : Tree} {h : Nat} (hl : Right l h) (hr : Right r h) : Right (halfOf l r h) (h + 1) := by
  unfold halfOf
  by_cases c : sameAll l r = true
  · rw [if_pos c]
    cases l with
    | all b => trivial
    | half a b t s => cases c
  · rw [if_neg c]
    refine ⟨by simpa using c, hl, hr, ?_⟩
    rw [flipL_false, sumsPut_ok hl hr]
theorem halfOf_val {l r : Tree} {h : Nat} {p : Int} (h0 : 0 ≤ p) (h1 : p < sz (h + 1)) : val (halfOf l r h) (h + 1) p = if p < sz h then val l h p else val r h (p - sz h) := by
  have h2 := h1
  rw [sz_succ] at h2
  unfold halfOf
  by_cases c : sameAll l r = true
  · rw [if_pos c]
    cases l with
    | all a =>
      cases r with
      | all b =>
        have e : a = b := by simpa [sameAll] using c
        subst e
        rw [val_all a _ h1]
        by_cases d : p < sz h
        · rw [if_pos d, val_all a h d]
        · rw [if_neg d, val_all a h (by omega)]
      | half a b t s => cases c
    | half a b t s => cases c
  · rw [if_neg c, val_half h0 h1, Bool.xor_false]
def putOn : Nat → Tree → Int → Str → Int → Int → Tree
  | h, t, low, kind, f, b =>
    if b ≤ low ∨ low + sz h ≤ f then t
    else if f ≤ low ∧ low + sz h ≤ b then (if kind = "turn" then turnedT t h else .all (decide (kind = "on")))
    else match h with
      | 0 => t
      | h + 1 => halfOf (putOn h (opened t h).1 low kind f b) (putOn h (opened t h).2 (low + sz h) kind f b) h
theorem putOn_eq (h : Nat) (t : Tree) (low : Int) (kind : Str) (f b : Int) : putOn h t low kind f b = if b ≤ low ∨ low + sz h ≤ f then t
    else if f ≤ low ∧ low + sz h ≤ b then (if kind = "turn" then turnedT t h else .all (decide (kind = "on")))
    else match h with
      | 0 => t
      | h + 1 => halfOf (putOn h (opened t h).1 low kind f b) (putOn h (opened t h).2 (low + sz h) kind f b) h := by
  cases h <;> rfl
theorem putOn_right {h : Nat} {t : Tree} {low : Int} {kind : Str} {f b : Int} (R : Right t h) : Right (putOn h t low kind f b) h := by
  induction h generalizing t low with
  | zero =>
    rw [putOn_eq]
    split
    · exact R
    · split
      · split
        · exact turnedT_right R
        · trivial
      · exact R
  | succ h ih =>
    rw [putOn_eq]
    split
    · exact R
    · split
      · split
        · exact turnedT_right R
        · trivial
      · exact halfOf_right (ih (opened_right R).1) (ih (opened_right R).2)
theorem putOn_val {h : Nat} {t : Tree} {low : Int} {kind : Str} {f b : Int} (R : Right t h) (hfb : f < b) {p : Int} (h0 : 0 ≤ p) (h1 : p < sz h) :
    val (putOn h t low kind f b) h p = if f ≤ p + low ∧ p + low < b then swk kind (val t h p) else val t h p := by
  have whole : ∀ (h : Nat) (t : Tree) (low p : Int), Right t h → 0 ≤ p → p < sz h → f ≤ low ∧ low + sz h ≤ b →
      val (if kind = "turn" then turnedT t h else .all (decide (kind = "on"))) h p = if f ≤ p + low ∧ p + low < b then swk kind (val t h p) else val t h p := by
    intro h t low p R h0 h1 c2
    rw [if_pos (show f ≤ p + low ∧ p + low < b by omega)]
    unfold swk
    by_cases c3 : kind = "turn"
    · rw [if_pos c3, if_pos c3]
      exact turnedT_val R.fit h0 h1
    · rw [if_neg c3, if_neg c3]
      exact val_all _ _ h1
  induction h generalizing t low p with
  | zero =>
    have e1 : sz 0 = 1 := rfl
    rw [putOn_eq]
    by_cases c1 : b ≤ low ∨ low + sz 0 ≤ f
    · rw [if_pos c1, if_neg (show ¬ (f ≤ p + low ∧ p + low < b) by omega)]
    · rw [if_neg c1]
      by_cases c2 : f ≤ low ∧ low + sz 0 ≤ b
      · rw [if_pos c2]
        exact whole _ _ _ _ R h0 h1 c2
      · omega
  | succ h ih =>
    have h2 := h1
    rw [sz_succ] at h2
    rw [putOn_eq]
    by_cases c1 : b ≤ low ∨ low + sz (h + 1) ≤ f
    · rw [if_pos c1, if_neg (show ¬ (f ≤ p + low ∧ p + low < b) by omega)]
    · rw [if_neg c1]
      by_cases c2 : f ≤ low ∧ low + sz (h + 1) ≤ b
      · rw [if_pos c2]
        exact whole _ _ _ _ R h0 h1 c2
      · rw [if_neg c2]
        obtain ⟨r1, r2⟩ := opened_right R
        show val (halfOf _ _ h) (h + 1) p = _
        rw [halfOf_val h0 h1, opened_val R.fit h0 h1]
        by_cases c : p < sz h
        · rw [if_pos c, if_pos c, ih r1 h0 c]
        · rw [if_neg c, if_neg c, ih r2 (by omega) (by omega), show p - sz h + (low + sz h) = p + low by omega]
/-! ### the program's halves, walked -/
def sumsD (s : Sums) : D := .tup [.int s.on, .int s.head, .int s.tail, .int s.most, .int s.least]
def treeD : Tree → D
  | .all b => .tup [.str "all", .bl b]
  | .half l r t s => .tup [.str "half", treeD l, treeD r, .bl t, sumsD s]
/-- as high as it must be -/
def SizeOk (many : Int) (h : Nat) : Prop := many ≤ sz h ∧ (h = 0 ∨ sz (h - 1) < many)
theorem sz_mono : ∀ {a b : Nat}, a ≤ b → sz a ≤ sz b
  | a, 0, h => by rw [show a = 0 by omega]; exact Int.le_refl _
  | a, b + 1, h => by
    by_cases e : a = b + 1
    · rw [e]; exact Int.le_refl _
    · have := sz_mono (show a ≤ b by omega)
      have := sz_pos b
      rw [sz_succ]
      omega
theorem sz_40 : sz 40 = 1099511627776 := by decide +kernel
theorem SizeOk.le {many : Int} {h : Nat} (s : SizeOk many h) (hm : many ≤ 1000000000000) : h ≤ 40 := by
  rcases s.2 with e | e
  · omega
  · by_cases c : h ≤ 40
    · exact c
    · have := sz_mono (show 40 ≤ h - 1 by omega)
      rw [sz_40] at this
      omega
theorem SizeOk.one {many : Int} {h h' : Nat} (s : SizeOk many h) (s' : SizeOk many h') : h = h' := by
  have go : ∀ {h h' : Nat}, SizeOk many h → SizeOk many h' → ¬ h < h' := fun {h h'} s s' z => by
    rcases s'.2 with e | e
    · omega
    · have := sz_mono (show h ≤ h' - 1 by omega)
      have := s.1
      omega
  have := go s s'
  have := go s' s
  omega
def hgt : Tree → Nat
  | .all _ => 0
  | .half l r _ _ => hgt l + hgt r + 1
def sp_size_for : Spec := fun ds M k x => ∃ many : Int, ds = [.int many] ∧ many ≤ 1000000000000 ∧ ∀ h, SizeOk many h → k (.int (sz h)) M
abbrev n_size_for : List Str := ["many", "size"]
def b_size_for_1 : B := (.cons (.ret (.var 1)) .nil)
def b_size_for_2 : B := (.cons (.aug 1 .mul (.int 2)) .nil)
def b_size_for : B := (.cons (.asg 1 (.int 1)) (.cons (.whl (.cmp .lt (.var 1) (.var 0)) b_size_for_2) b_size_for_1))
theorem w_size_for : Body n_size_for 1 b_size_for sp_size_for := by
  rintro ds M k x ⟨many, rfl, hm, h⟩
  refine ⟨rfl, ?_⟩
  simp only [b_size_for]
  walk_at "wp"
  refine ⟨43, wloop_go (fun i ρ M' => M' = M ∧ ∃ j : Nat, j + i = 42 ∧ (j = 0 ∨ sz (j - 1) < many) ∧ ρ = [some (.int many), some (.int (sz j))]) ?_ 43 42 _ _ (by decide) ⟨rfl, 0, rfl, .inl rfl, rfl⟩⟩
  rintro i ρ M' q ⟨rfl, j, hj, hs, rfl⟩ hq
  walk_at "wp"
  refine ite_of (fun c => ?_) (fun c => ?_)
  · have c : sz j < many := by simpa using c
    have hj2 : j ≤ 40 := by
      by_cases z : j ≤ 40
      · exact z
      · have := sz_mono (show 40 ≤ j by omega)
        rw [sz_40] at this
        omega
    simp only [b_size_for_2]
    walk_at "wp"
    rw [atV_s (d := .int (sz j)) rfl]
    walk_at "wp"
    refine hq (i - 1) _ _ (by omega) ⟨rfl, j + 1, by omega, .inr c, ?_⟩
    rw [show sz j * 2 = sz (j + 1) by rw [sz_succ]; omega]
  · have c : ¬ sz j < many := by simpa using c
    simp only [b_size_for_1]
    walk_at "wp"
    exact fewer_of (h j ⟨by omega, hs⟩)
def sp_sums_of : Spec := fun ds M k x => ∃ (t : Tree) (h : Nat), ds = [treeD t, .int (sz h)] ∧ k (sumsD (sumsOf t h)) M
abbrev n_sums_of : List Str := ["tree", "size"]
def b_sums_of_1 : B := (.cons (.ret (.tup (.cons (.int 0) (.cons (.var 1) (.cons (.var 1) (.cons (.int 0) (.cons (.var 1) .nil))))))) .nil)
def b_sums_of_2 : B := (.cons (.ite (.idx (.var 0) (.int 1)) (.cons (.ret (.tup (.cons (.var 1) (.cons (.var 1) (.cons (.var 1) (.cons (.var 1) (.cons (.int 0) .nil))))))) .nil) .nil) b_sums_of_1)
def b_sums_of : B := (.cons (.ite (.cmp .eq (.idx (.var 0) (.int 0)) (.str "half")) (.cons (.ret (.idx (.var 0) (.int 4))) .nil) .nil) b_sums_of_2)
theorem w_sums_of : Body n_sums_of 2 b_sums_of sp_sums_of := by
  rintro ds M k x ⟨t, h, rfl, hk⟩
  refine ⟨rfl, ?_⟩
  simp only [b_sums_of]
  cases t with
  | all b =>
    simp only [treeD]
    walk_at "wt"
    simp only [b_sums_of_2]
    walk_at "wt"
    cases b with
    | true => exact fewer_of hk
    | false =>
      simp only [Bool.false_eq_true, if_false, b_sums_of_1]
      walk_at "wt"
      exact fewer_of hk
  | half l r t s =>
    simp only [treeD]
    walk_at "wt"
    exact fewer_of hk
def sp_sums_turned : Spec := fun ds M k x => ∃ (s : Sums) (h : Nat), ds = [sumsD s, .int (sz h)] ∧ k (sumsD (sumsTurned s h)) M
abbrev n_sums_turned : List Str := ["sums", "size", "on", "head", "tail", "most", "least"]
def b_sums_turned : B := (.cons (.asgT [2, 3, 4, 5, 6] (.var 0)) (.cons (.ret (.tup (.cons (.bin .sub (.var 1) (.var 2)) (.cons (.var 3) (.cons (.var 4) (.cons (.var 6) (.cons (.var 5) .nil))))))) .nil))
theorem w_sums_turned : Body n_sums_turned 2 b_sums_turned sp_sums_turned := by
  rintro ds M k x ⟨s, h, rfl, hk⟩
  refine ⟨rfl, ?_⟩
  simp only [b_sums_turned, sumsD]
  walk_at "wt"
  exact fewer_of hk
def sp_turned : Spec := fun ds M k x => ∃ (t : Tree) (h : Nat), ds = [treeD t, .int (sz h)] ∧ k (treeD (turnedT t h)) M
abbrev n_turned : List Str := ["tree", "size", "word", "left", "right", "late", "sums"]
def b_turned_1 : B := (.cons (.asgT [2, 3, 4, 5, 6] (.var 0)) (.cons (.ret (.tup (.cons (.var 2) (.cons (.var 3) (.cons (.var 4) (.cons (.not (.var 5)) (.cons (.call "sums_turned" sp_sums_turned (.cons (.var 6) (.cons (.var 1) .nil))) .nil))))))) .nil))
def b_turned : B := (.cons (.ite (.cmp .eq (.idx (.var 0) (.int 0)) (.str "all")) (.cons (.ret (.tup (.cons (.str "all") (.cons (.not (.idx (.var 0) (.int 1))) .nil)))) .nil) .nil) b_turned_1)
theorem w_turned : Body n_turned 2 b_turned sp_turned := by
  rintro ds M k x ⟨t, h, rfl, hk⟩
  refine ⟨rfl, ?_⟩
  simp only [b_turned]
  cases t with
  | all b =>
    simp only [treeD]
    walk_at "wt"
    exact fewer_of hk
  | half l r t s =>
    simp only [treeD]
    walk_at "wt"
    simp only [b_turned_1]
    walk_at "wt"
    refine ⟨s, h, rfl, ?_⟩
    exact fewer_of hk
def sp_end_on : Spec := fun ds M k x => ∃ (t : Tree) (d : Bool), ds = [treeD t, .int (if d = true then 2 else 1)] ∧ k (.bl (endOn t d)) M
abbrev n_end_on : List Str := ["tree", "side", "truth"]
def b_end_on_1 : B := (.cons (.ret (.cmp .ne (.var 2) (.idx (.var 0) (.int 1)))) .nil)
def b_end_on_2 : B := (.cons (.asg 2 (.cmp .ne (.var 2) (.idx (.var 0) (.int 3)))) (.cons (.asg 0 (.idx (.var 0) (.var 1))) .nil))
def b_end_on : B := (.cons (.asg 2 (.bl false)) (.cons (.whl (.cmp .eq (.idx (.var 0) (.int 0)) (.str "half")) b_end_on_2) b_end_on_1))
theorem w_end_on : Body n_end_on 2 b_end_on sp_end_on := by
  rintro ds M k x ⟨t, d, rfl, hk⟩
  refine ⟨rfl, ?_⟩
  simp only [b_end_on]
  walk_at "wp"
  refine ⟨hgt t + 1, wloop_go (fun i ρ M' => M' = M ∧ ∃ (c : Tree) (b : Bool), hgt c ≤ i ∧ (endOn c d ^^ b) = endOn t d ∧ ρ = [some (treeD c), some (.int (if d = true then 2 else 1)), some (.bl b)]) ?_ _ (hgt t) _ _ (Nat.lt_succ_self _) ⟨rfl, t, false, Nat.le_refl _, Bool.xor_false _, rfl⟩⟩
  rintro i ρ M' q ⟨rfl, c, b, hc, he, rfl⟩ hq
  cases c with
  | all a =>
    simp only [treeD]
    walk_at "wt"
    simp only [b_end_on_1]
    walk_at "wt"
    rw [← he] at hk
    have e : (!decide (b = a)) = (endOn (.all a) d ^^ b) := by
      show _ = (a ^^ b)
      cases a <;> cases b <;> rfl
    rw [e]
    exact fewer_of hk
  | half l r t' s =>
    simp only [treeD]
    walk_at "wt"
    simp only [b_end_on_2]
    walk_at "wt"
    have hg : hgt l + hgt r + 1 ≤ i := hc
    cases d with
    | true =>
      walk_at "wt"
      refine hq (i - 1) _ _ (by omega) ⟨rfl, r, !decide (b = t'), by omega, ?_, rfl⟩
      rw [← he]
      show (endOn r true ^^ !decide (b = t')) = ((endOn r true ^^ t') ^^ b)
      cases endOn r true <;> cases b <;> cases t' <;> rfl
    | false =>
      walk_at "wt"
      refine hq (i - 1) _ _ (by omega) ⟨rfl, l, !decide (b = t'), by omega, ?_, rfl⟩
      rw [← he]
      show (endOn l false ^^ !decide (b = t')) = ((endOn l false ^^ t') ^^ b)
      cases endOn l false <;> cases b <;> cases t' <;> rfl
def sp_first_on : Spec := fun ds M k x => ∃ (t : Tree), ds = [treeD t] ∧ k (.bl (endOn t false)) M
abbrev n_first_on : List Str := ["tree"]
def b_first_on : B := (.cons (.ret (.call "end_on" sp_end_on (.cons (.var 0) (.cons (.int 1) .nil)))) .nil)
theorem w_first_on : Body n_first_on 1 b_first_on sp_first_on := by
  rintro ds M k x ⟨t, rfl, hk⟩
  refine ⟨rfl, ?_⟩
  simp only [b_first_on]
  walk_at "wp"
  exact ⟨t, false, rfl, fewer_of hk⟩
def sp_last_on : Spec := fun ds M k x => ∃ (t : Tree), ds = [treeD t] ∧ k (.bl (endOn t true)) M
abbrev n_last_on : List Str := ["tree"]
def b_last_on : B := (.cons (.ret (.call "end_on" sp_end_on (.cons (.var 0) (.cons (.int 2) .nil)))) .nil)
theorem w_last_on : Body n_last_on 1 b_last_on sp_last_on := by
  rintro ds M k x ⟨t, rfl, hk⟩
  refine ⟨rfl, ?_⟩
  simp only [b_last_on]
  walk_at "wp"
  exact ⟨t, true, rfl, fewer_of hk⟩
def sp_sums_put : Spec := fun ds M k x => ∃ (l r : Tree) (h : Nat), ds = [treeD l, treeD r, .int (sz (h + 1))] ∧ k (sumsD (sumsPut l r h)) M
abbrev n_sums_put : List Str := ["left", "right", "size", "half", "on", "head", "tail", "most", "least", "on_right", "head_right", "tail_right", "most_right", "least_right", "joined"]
def b_sums_put_1 : B := (.cons (.ret (.tup (.cons (.bin .add (.var 4) (.var 9)) (.cons (.var 5) (.cons (.var 11) (.cons (.var 7) (.cons (.var 8) .nil))))))) .nil)
def b_sums_put_2 : B := (.cons (.ite (.and (.cmp .eq (.var 11) (.var 3)) (.one (.cmp .gt (.var 14) (.int 0)))) (.cons (.asg 11 (.var 14)) .nil) .nil) b_sums_put_1)
def b_sums_put_3 : B := (.cons (.ite (.and (.cmp .eq (.var 5) (.var 3)) (.one (.cmp .gt (.var 14) (.int 0)))) (.cons (.asg 5 (.var 14)) .nil) .nil) b_sums_put_2)
def b_sums_put : B := (.cons (.asg 3 (.bin .fdiv (.var 2) (.int 2))) (.cons (.asgT [4, 5, 6, 7, 8] (.call "sums_of" sp_sums_of (.cons (.var 0) (.cons (.var 3) .nil)))) (.cons (.asgT [9, 10, 11, 12, 13] (.call "sums_of" sp_sums_of (.cons (.var 1) (.cons (.var 3) .nil)))) (.cons (.asg 7 (.blt .max2 (.cons (.var 7) (.cons (.var 12) .nil)))) (.cons (.asg 8 (.blt .max2 (.cons (.var 8) (.cons (.var 13) .nil)))) (.cons (.asg 14 (.int 0)) (.cons (.ite (.cmp .eq (.call "last_on" sp_last_on (.cons (.var 0) .nil)) (.call "first_on" sp_first_on (.cons (.var 1) .nil))) (.cons (.asg 14 (.bin .add (.var 6) (.var 10))) (.cons (.ite (.call "first_on" sp_first_on (.cons (.var 1) .nil)) (.cons (.asg 7 (.blt .max2 (.cons (.var 7) (.cons (.var 14) .nil)))) .nil) (.cons (.asg 8 (.blt .max2 (.cons (.var 8) (.cons (.var 14) .nil)))) .nil)) .nil)) .nil) b_sums_put_3)))))))
theorem w_sums_put : Body n_sums_put 3 b_sums_put sp_sums_put := by
  rintro ds M k x ⟨l, r, h, rfl, hk⟩
  refine ⟨rfl, ?_⟩
  simp only [b_sums_put]
  walk_at "wt"
  refine ⟨l, h, rfl, ?_⟩
  unfold sumsPut at hk
  generalize sumsOf l h = s at hk ⊢
  simp only [sumsD]
  walk_at "wt"
  refine ⟨r, h, rfl, ?_⟩
  generalize sumsOf r h = s' at hk ⊢
  simp only [sumsD]
  walk_at "wt"
  refine ⟨l, rfl, r, rfl, ?_⟩
  walk_at "wt"
  have fin : ∀ (a c j : Int) , k (sumsD ⟨s.on + s'.on, if s.head = sz h ∧ j > 0 then j else s.head, if s'.tail = sz h ∧ j > 0 then j else s'.tail, a, c⟩) M → wpB b_sums_put_3 [some (treeD l), some (treeD r), some (.int (sz (h + 1))), some (.int (sz h)), some (.int s.on), some (.int s.head), some (.int s.tail), some (.int a), some (.int c), some (.int s'.on), some (.int s'.head), some (.int s'.tail), some (.int s'.most), some (.int s'.least), some (.int j)] M (fun _ M' => fewer k .non M')
      (fewer k) (fun c _ M' => fewerX x c M') := by
    intro a c j hk
    simp only [b_sums_put_3]
    walk_at "wt"
    have two : ∀ g : Int, k (sumsD ⟨s.on + s'.on, g, if s'.tail = sz h ∧ j > 0 then j else s'.tail, a, c⟩) M → wpB b_sums_put_2 [some (treeD l), some (treeD r), some (.int (sz (h + 1))), some (.int (sz h)), some (.int s.on), some (.int g), some (.int s.tail), some (.int a), some (.int c), some (.int s'.on), some (.int s'.head), some (.int s'.tail), some (.int s'.most), some (.int s'.least), some (.int j)] M (fun _ M' => fewer k .non M')
      (fewer k) (fun c _ M' => fewerX x c M') := by
      intro g hk
      simp only [b_sums_put_2]
      walk_at "wt"
      have one : ∀ u : Int, k (sumsD ⟨s.on + s'.on, g, u, a, c⟩) M → wpB b_sums_put_1 [some (treeD l), some (treeD r), some (.int (sz (h + 1))), some (.int (sz h)), some (.int s.on), some (.int g), some (.int s.tail), some (.int a), some (.int c), some (.int s'.on), some (.int s'.head), some (.int u), some (.int s'.most), some (.int s'.least), some (.int j)] M (fun _ M' => fewer k .non M')
        (fewer k) (fun c _ M' => fewerX x c M') := by
        intro u hk
        simp only [b_sums_put_1]
        walk_at "wt"
        exact fewer_of hk
      refine ite_of (fun c1 => ?_) (fun c1 => ?_)
      · refine ite_of (fun c2 => ?_) (fun c2 => ?_)
        · rw [if_pos ⟨c1, c2⟩] at hk
          exact one _ hk
        · rw [if_neg (fun z => c2 z.2)] at hk
          exact one _ hk
      · rw [if_neg (fun z => c1 z.1)] at hk
        simpa using one _ hk
    refine ite_of (fun c1 => ?_) (fun c1 => ?_)
    · refine ite_of (fun c2 => ?_) (fun c2 => ?_)
      · rw [if_pos ⟨c1, c2⟩] at hk
        exact two _ hk
      · rw [if_neg (fun z => c2 z.2)] at hk
        exact two _ hk
    · rw [if_neg (fun z => c1 z.1)] at hk
      simpa using two _ hk
  dsimp only [sumsPutF] at hk
  refine ite_of (fun c1 => ?_) (fun c1 => ?_)
  · refine ⟨r, rfl, ?_⟩
    walk_at "wt"
    rw [if_pos c1] at hk
    refine ite_of (fun c2 => ?_) (fun c2 => ?_)
    · rw [if_pos (c := endOn l true = endOn r false ∧ endOn r false = true) ⟨c1, c2⟩, if_neg (c := endOn l true = endOn r false ∧ endOn r false = false) (fun z => by rw [z.2] at c2; cases c2)] at hk
      exact fin _ _ _ hk
    · have c3 : endOn r false = false := by simpa using c2
      rw [if_neg (c := endOn l true = endOn r false ∧ endOn r false = true) (fun z => c2 z.2), if_pos (c := endOn l true = endOn r false ∧ endOn r false = false) ⟨c1, c3⟩] at hk
      exact fin _ _ _ hk
  · rw [if_neg c1, if_neg (c := endOn l true = endOn r false ∧ endOn r false = true) (fun z => c1 z.1), if_neg (c := endOn l true = endOn r false ∧ endOn r false = false) (fun z => c1 z.1)] at hk
    exact fin _ _ _ hk
def sp_half_of : Spec := fun ds M k x => ∃ (l r : Tree) (h : Nat), ds = [treeD l, treeD r, .int (sz (h + 1))] ∧ k (treeD (halfOf l r h)) M
abbrev n_half_of : List Str := ["left", "right", "size"]
def b_half_of_1 : B := (.cons (.ret (.tup (.cons (.str "half") (.cons (.var 0) (.cons (.var 1) (.cons (.bl false) (.cons (.call "sums_put" sp_sums_put (.cons (.var 0) (.cons (.var 1) (.cons (.var 2) .nil)))) .nil))))))) .nil)
def b_half_of : B := (.cons (.ite (.and (.cmp .eq (.idx (.var 0) (.int 0)) (.str "all")) (.and (.cmp .eq (.idx (.var 1) (.int 0)) (.str "all")) (.one (.cmp .eq (.idx (.var 0) (.int 1)) (.idx (.var 1) (.int 1)))))) (.cons (.ret (.var 0)) .nil) .nil) b_half_of_1)
theorem w_half_of : Body n_half_of 3 b_half_of sp_half_of := by
  rintro ds M k x ⟨l, r, h, rfl, hk⟩
  refine ⟨rfl, ?_⟩
  have other : sameAll l r = false → wpB b_half_of_1 [some (treeD l), some (treeD r), some (.int (sz (h + 1)))] M (fun _ M' => fewer k .non M') (fewer k) (fun c _ M' => fewerX x c M') := by
    intro e
    unfold halfOf at hk
    rw [if_neg (by rw [e]; decide)] at hk
    simp only [b_half_of_1]
    walk_at "wt"
    refine ⟨l, r, h, rfl, ?_⟩
    exact fewer_of hk
  simp only [b_half_of]
  cases l with
  | all a =>
    cases r with
    | all b =>
      by_cases c : a = b
      · subst c
        unfold halfOf at hk
        rw [if_pos (by simp [sameAll])] at hk
        simp only [treeD]
        walk_at "wt"
        exact fewer_of hk
      · have o := other (by simp [sameAll, c])
        simp only [treeD] at o ⊢
        walk_at "wt"
        simpa [c] using o
    | half a b t s =>
      have o := other rfl
      simp only [treeD] at o ⊢
      walk_at "wt"
      exact o
  | half a b t s =>
    have o := other rfl
    simp only [treeD] at o ⊢
    walk_at "wt"
    exact o
def sp_opened : Spec := fun ds M k x => ∃ (t : Tree) (h : Nat), ds = [treeD t, .int (sz (h + 1))] ∧ k (.tup [treeD (opened t h).1, treeD (opened t h).2]) M
abbrev n_opened : List Str := ["tree", "size", "word", "left", "right", "late", "sums"]
def b_opened_1 : B := (.cons (.ret (.tup (.cons (.var 3) (.cons (.var 4) .nil)))) .nil)
def b_opened_2 : B := (.cons (.asgT [2, 3, 4, 5, 6] (.var 0)) (.cons (.ite (.var 5) (.cons (.ret (.tup (.cons (.call "turned" sp_turned (.cons (.var 3) (.cons (.bin .fdiv (.var 1) (.int 2)) .nil))) (.cons (.call "turned" sp_turned (.cons (.var 4) (.cons (.bin .fdiv (.var 1) (.int 2)) .nil))) .nil)))) .nil) .nil) b_opened_1))
def b_opened : B := (.cons (.ite (.cmp .eq (.idx (.var 0) (.int 0)) (.str "all")) (.cons (.ret (.tup (.cons (.var 0) (.cons (.var 0) .nil)))) .nil) .nil) b_opened_2)
theorem w_opened : Body n_opened 2 b_opened sp_opened := by
  rintro ds M k x ⟨t, h, rfl, hk⟩
  refine ⟨rfl, ?_⟩
  simp only [b_opened]
  cases t with
  | all b =>
    simp only [treeD]
    walk_at "wt"
    exact fewer_of hk
  | half l r t s =>
    simp only [treeD]
    walk_at "wt"
    simp only [b_opened_2]
    walk_at "wt"
    cases t with
    | true =>
      walk_at "wt"
      refine ⟨l, h, rfl, r, h, rfl, ?_⟩
      walk_at "wt"
      exact fewer_of hk
    | false =>
      simp only [Bool.false_eq_true, if_false, b_opened_1]
      walk_at "wt"
      exact fewer_of hk
def sp_put_on (n : Nat) : Spec := fun ds M k x => ∃ (t : Tree) (h : Nat) (low : Int) (kind : Str) (f b : Int), ds = [treeD t, .int (sz h), .int low, .tup [.str kind, .int f, .int b]] ∧ h < n ∧ kOk kind ∧ f < b ∧ k (treeD (putOn h t low kind f b)) M
theorem zero_put_on : ∀ ds M k x, ¬ sp_put_on 0 ds M k x := fun _ _ _ _ ⟨_, _, _, _, _, _, _, h, _⟩ => absurd h (by omega)
abbrev n_put_on : List Str := ["tree", "size", "low", "deed", "kind", "first", "beyond", "left", "right", "half"]
def b_put_on_1 (sp : Spec) : B := (.cons (.asgT [7, 8] (.call "opened" sp_opened (.cons (.var 0) (.cons (.var 1) .nil)))) (.cons (.asg 9 (.bin .fdiv (.var 1) (.int 2))) (.cons (.ret (.call "half_of" sp_half_of (.cons (.call "put_on" sp (.cons (.var 7) (.cons (.var 9) (.cons (.var 2) (.cons (.var 3) .nil))))) (.cons (.call "put_on" sp (.cons (.var 8) (.cons (.var 9) (.cons (.bin .add (.var 2) (.var 9)) (.cons (.var 3) .nil))))) (.cons (.var 1) .nil))))) .nil)))
def b_put_on_2 (sp : Spec) : B := (.cons (.ret (.tup (.cons (.str "all") (.cons (.cmp .eq (.var 4) (.str "on")) .nil)))) .nil)
def b_put_on_3 (sp : Spec) : B := (.cons (.ite (.and (.cmp .le (.var 5) (.var 2)) (.one (.cmp .le (.bin .add (.var 2) (.var 1)) (.var 6)))) (.cons (.ite (.cmp .eq (.var 4) (.str "turn")) (.cons (.ret (.call "turned" sp_turned (.cons (.var 0) (.cons (.var 1) .nil)))) .nil) .nil) (b_put_on_2 sp)) .nil) (b_put_on_1 sp))
def b_put_on (sp : Spec) : B := (.cons (.asgT [4, 5, 6] (.var 3)) (.cons (.ite (.or (.cmp .le (.var 6) (.var 2)) (.one (.cmp .le (.bin .add (.var 2) (.var 1)) (.var 5)))) (.cons (.ret (.var 0)) .nil) .nil) (b_put_on_3 sp)))
theorem w_put_on (n : Nat) : Body n_put_on 4 (b_put_on (sp_put_on n)) (sp_put_on (n + 1)) := by
  rintro ds M k x ⟨t, h, low, kind, f, b, rfl, hn, hkk, hfb, hk⟩
  refine ⟨rfl, ?_⟩
  simp only [b_put_on]
  walk_at "wt"
  rw [putOn_eq] at hk
  have same : (b ≤ low ∨ low + sz h ≤ f) → fewer k (treeD t) M := fun c => by
    rw [if_pos c] at hk
    exact fewer_of hk
  refine ite_of (fun c => same (.inl c)) (fun c1 => ?_)
  refine ite_of (fun c => same (.inr c)) (fun c2 => ?_)
  rw [if_neg (fun z => z.elim c1 c2)] at hk
  simp only [b_put_on_3]
  walk_at "wt"
  have rest : ¬ (f ≤ low ∧ low + sz h ≤ b) → wpB (b_put_on_1 (sp_put_on n)) [some (treeD t), some (.int (sz h)), some (.int low), some (.tup [.str kind, .int f, .int b]), some (.str kind), some (.int f), some (.int b), none, none, none] M (fun _ M' => fewer k .non M') (fewer k) (fun c _ M' => fewerX x c M') := by
    intro c3
    rw [if_neg c3] at hk
    simp only [b_put_on_1]
    walk_at "wt"
    cases h with
    | zero =>
      have e1 : sz 0 = 1 := rfl
      omega
    | succ h =>
      refine ⟨t, h, rfl, ?_⟩
      walk_at "wt"
      refine ⟨(opened t h).1, h, low, kind, f, b, rfl, by omega, hkk, hfb, ?_⟩
      refine ⟨(opened t h).2, h, low + sz h, kind, f, b, rfl, by omega, hkk, hfb, ?_⟩
      refine ⟨_, _, h, rfl, ?_⟩
      exact fewer_of hk
  refine ite_of (fun c3 => ?_) (fun c3 => by simpa using rest (fun z => c3 z.1))
  refine ite_of (fun c4 => ?_) (fun c4 => rest (fun z => c4 z.2))
  rw [if_pos ⟨c3, c4⟩] at hk
  refine ⟨⟨hkk.ok, ok_turn⟩, ?_⟩
  refine ite_of (fun c5 => ?_) (fun c5 => ?_)
  · rw [if_pos c5] at hk
    exact ⟨t, h, rfl, fewer_of hk⟩
  · rw [if_neg c5] at hk
    simp only [b_put_on_2]
    walk_at "wt"
    exact ⟨⟨hkk.ok, ok_on⟩, fewer_of hk⟩
/-! ### lengths, walked -/
def elemD (e : Int × Bool) : D := .tup [.int e.1, .bl e.2]
theorem elemF : EqF elemD 1 := EqF.tup2 EqF.int EqF.bl
def lensD (L : Lens) : D := .lst (L.map elemD)
theorem lensD_ok (L : Lens) : (D.lst (L.map elemD)).eqok = true := elemF.lst.ok L
theorem ixN0 {α : Type} {a : α} {l : List α} : atI (a :: l) 0 = some a := atI_get (by decide) rfl
theorem cutD_init (l : List D) (z : D) : cutD (l ++ [z]) none (some (-1)) = l := by
  unfold cutD
  have e : HT.sIx (l ++ [z]).length (l ++ [z]).length (some (-1)) = l.length := by
    unfold HT.sIx
    rw [List.length_append]
    simp
    omega
  rw [e]
  show List.take (l.length - 0) (List.drop 0 (l ++ [z])) = l
  rw [Nat.sub_zero, List.drop_zero, List.take_left]
theorem putL_len (A B : Lens) : (putL A B).length ≤ A.length + B.length ∧ (A ≠ [] → B ≠ [] → A.length + B.length ≤ (putL A B).length + 1) := by
  rcases nil_orL A with rfl | ⟨A, e, rfl⟩
  · exact ⟨by show B.length ≤ 0 + B.length; omega, fun h => absurd rfl h⟩
  · cases B with
    | nil => rw [putL_nil]; exact ⟨Nat.le_refl _, fun _ h => absurd rfl h⟩
    | cons d B =>
      rw [putL_snoc]
      split <;> simp <;> omega
theorem altL_pos : ∀ {L : Lens}, AltL L → ∀ e ∈ L, 0 < e.1
  | [], _, _, h => nomatch h
  | d :: L, hA, e, h => by
    rcases List.mem_cons.mp h with rfl | h
    · exact hA.1
    · exact altL_pos hA.2.2 e h
theorem maxL_is (b : Bool) : ∀ L : Lens, (∀ e ∈ L, 0 < e.1) → ∀ m : Int, m ∈ ((L.filter fun e => decide (e.2 = b)).map (·.1)) ++ [0] → (∀ y, y ∈ ((L.filter fun e => decide (e.2 = b)).map (·.1)) ++ [0] → y ≤ m) → m = maxL b L
  | [], _, m, h1, _ => by
    have h1 : m = 0 := by simpa using h1
    exact h1
  | e :: L, hp, m, h1, h2 => by
    have hp2 : ∀ d ∈ L, 0 < d.1 := fun d hd => hp d (List.mem_cons_of_mem _ hd)
    have ih := maxL_is b L hp2
    rw [maxL_cons]
    by_cases c : e.2 = b
    · rw [if_pos c]
      rw [List.filter_cons, if_pos (by simpa using c), List.map_cons, List.cons_append] at h1 h2
      have a1 := h2 e.1 List.mem_cons_self
      have a2 : maxL b L ≤ m := by
        have nn := maxL_nn b L
        have h3 : ∀ y, y ∈ ((L.filter fun e => decide (e.2 = b)).map (·.1)) ++ [0] → y ≤ m := fun y hy => h2 y (List.mem_cons_of_mem _ hy)
        -- the greatest is one of them
        have ex : maxL b L ∈ ((L.filter fun e => decide (e.2 = b)).map (·.1)) ++ [0] := by
          clear ih h1 h2 h3 a1 hp
          induction L with
          | nil => simp [maxL]
          | cons d L ih2 =>
            have ih2 := ih2 (fun x hx => hp2 x (List.mem_cons_of_mem _ hx)) (maxL_nn b L)
            rw [maxL_cons]
            by_cases c2 : d.2 = b
            · rw [if_pos c2, List.filter_cons, if_pos (by simpa using c2), List.map_cons, List.cons_append]
              by_cases c3 : maxL b L ≤ d.1
              · rw [show max d.1 (maxL b L) = d.1 by omega]
                exact List.mem_cons_self
              · rw [show max d.1 (maxL b L) = maxL b L by omega]
                exact List.mem_cons_of_mem _ ih2
            · rw [if_neg c2, List.filter_cons, if_neg (by simpa using c2)]
              exact ih2
        exact h3 _ ex
      rcases List.mem_cons.mp h1 with rfl | h1
      · omega
      · have := ih m h1 fun y hy => h2 y (List.mem_cons_of_mem _ hy)
        omega
    · rw [if_neg c]
      rw [List.filter_cons, if_neg (by simpa using c)] at h1 h2
      exact ih m h1 h2
theorem onL_is : ∀ L : Lens, ((L.filter fun e => decide (e.2 = true)).map (·.1)).sum = onL L
  | [] => rfl
  | e :: L => by
    have ih := onL_is L
    show _ = (if e.2 = true then e.1 else 0) + onL L
    by_cases c : e.2 = true
    · rw [List.filter_cons, if_pos (by simpa using c), List.map_cons, List.sum_cons, ih, if_pos c]
    · rw [List.filter_cons, if_neg (by simpa using c), ih, if_neg c]
      omega
/-! ### a tree's lengths; a row's runs -/
theorem flipL_map (b : Bool) (L : Lens) : List.map (fun e : Int × Bool => elemD (e.1, e.2 ^^ b)) L = (flipL b L).map elemD := by
  unfold flipL
  rw [List.map_map]
  rfl
theorem ne_xor (a b : Bool) : (!decide (a = b)) = (a ^^ b) := by cases a <;> cases b <;> rfl
theorem flipL_len (b : Bool) (L : Lens) : (flipL b L).length = L.length := by unfold flipL; rw [List.length_map]
theorem sumsF : EqF sumsD 1 := by
  refine ⟨fun s => rfl, fun s => by simp [sumsD, D.py, D.pys, PyData.canLay0, PyData.canLayAll0], fun s => by simp [sumsD, D.py, D.pys, PyData.depth, PyData.depthAll], fun a b => ?_⟩
  show PyData.eqv (.tuple [_, _, _, _, _]) (.tuple [_, _, _, _, _]) = true ↔ _
  obtain ⟨a1, a2, a3, a4, a5⟩ := a
  obtain ⟨b1, b2, b3, b4, b5⟩ := b
  simp [D.py, PyData.eqv, PyData.eqvAll]
/-- the runs of the first so many of lengths -/
def rowR (many : Int) : Int → Lens → List Run
  | _, [] => []
  | low, e :: L => (if low < many then [(low, min many (low + e.1), e.2)] else []) ++ rowR many (low + e.1) L
theorem rowR_none {many : Int} : ∀ {low : Int} {L : Lens}, many ≤ low → AltL L → rowR many low L = []
  | _, [], _, _ => rfl
  | low, e :: L, h, hA => by
    have := hA.1
    show (if low < many then _ else []) ++ rowR many (low + e.1) L = []
    rw [if_neg (by omega), rowR_none (low := low + e.1) (by omega) hA.2.2]
    rfl
theorem rowR_len (many : Int) : ∀ (low : Int) (L : Lens), (rowR many low L).length ≤ L.length
  | _, [] => Nat.le_refl _
  | low, e :: L => by
    have := rowR_len many (low + e.1) L
    show ((if low < many then [(low, min many (low + e.1), e.2)] else []) ++ rowR many (low + e.1) L).length ≤ L.length + 1
    rw [List.length_append]
    split <;> simp <;> omega
theorem rowR_ok {many : Int} : ∀ {L : Lens} {low : Int}, low < many → AltL L → many ≤ low + totL L → Chain low many (rowR many low L) ∧ Alt (rowR many low L) ∧ (∀ r ∈ (rowR many low L).head?, r.2.2 = headT L) ∧ ∀ p, low ≤ p → p < many → valR (rowR many low L) p = valL L (p - low)
  | [], low, h, hA, ht => by
    have ht : many ≤ low + 0 := ht
    omega
  | e :: L, low, h, hA, ht => by
    obtain ⟨a1, a2, a3⟩ := hA
    have e1 : rowR many low (e :: L) = (low, min many (low + e.1), e.2) :: rowR many (low + e.1) L := by
      show (if low < many then _ else []) ++ _ = _
      rw [if_pos h]
      rfl
    have ht : many ≤ low + (e.1 + totL L) := ht
    rw [e1]
    by_cases c : many ≤ low + e.1
    · rw [rowR_none c a3, show min many (low + e.1) = many by omega]
      refine ⟨⟨rfl, h, rfl⟩, ⟨(fun _ hs => nomatch hs), trivial⟩, fun r hr => by cases hr; rfl, fun p p1 p2 => ?_⟩
      rw [val_cons, if_pos p2, valL_cons, if_pos (by omega)]
    · obtain ⟨i1, i2, i3, i4⟩ := rowR_ok (many := many) (L := L) (low := low + e.1) (by omega) a3 (by omega)
      rw [show min many (low + e.1) = low + e.1 by omega]
      refine ⟨⟨rfl, by show low < low + e.1; omega, i1⟩, ⟨fun s hs => ?_, i2⟩, fun r hr => by cases hr; rfl, fun p p1 p2 => ?_⟩
      · show e.2 ≠ s.2.2
        rw [i3 s hs]
        cases L with
        | nil => have ht : many ≤ low + (e.1 + 0) := ht; omega
        | cons d L => exact fun z => a2 d rfl z.symm
      · rw [val_cons, valL_cons]
        by_cases c2 : p < low + e.1
        · rw [if_pos c2, if_pos (by omega)]
        · rw [if_neg c2, if_neg (by omega), i4 p (by omega) p2, show p - (low + e.1) = p - low - e.1 by omega]
/-- nothing on beyond -/
def offFrom (many : Int) : Int → Lens → Bool
  | _, [] => true
  | low, e :: L => !(e.2 && decide (low + e.1 > many)) && offFrom many (low + e.1) L
theorem offFrom_iff {many : Int} : ∀ {L : Lens} {low : Int}, AltL L → (offFrom many low L = true ↔ ∀ p, many ≤ p → low ≤ p → p < low + totL L → valL L (p - low) = false)
  | [], low, _ => ⟨fun _ p _ h1 h2 => by have h2 : p < low + 0 := h2; omega, fun _ => rfl⟩
  | e :: L, low, hA => by
    obtain ⟨a1, a2, a3⟩ := hA
    have ih := offFrom_iff (many := many) (L := L) (low := low + e.1) a3
    have t := (altL_tot a3).1
    have e1 : offFrom many low (e :: L) = (!(e.2 && decide (low + e.1 > many)) && offFrom many (low + e.1) L) := rfl
    rw [e1, Bool.and_eq_true, ih, totL_cons]
    constructor
    · rintro ⟨h1, h2⟩ p p1 p2 p3
      rw [valL_cons]
      by_cases c : p - low < e.1
      · rw [if_pos c]
        cases z : e.2 with
        | false => rfl
        | true =>
          rw [z, decide_eq_true (show low + e.1 > many by omega)] at h1
          cases h1
      · rw [if_neg c, show p - low - e.1 = p - (low + e.1) by omega]
        exact h2 p p1 (by omega) (by omega)
    · intro h
      refine ⟨?_, fun p p1 p2 p3 => ?_⟩
      · cases z : e.2 with
        | false => rfl
        | true =>
          by_cases c : low + e.1 > many
          · have := h (max many low) (by omega) (by omega) (by omega)
            rw [valL_cons, if_pos (by omega), z] at this
            cases this
          · rw [decide_eq_false c]
            rfl
      · have := h p p1 (by omega) (by omega)
        rw [valL_cons, if_neg (by omega), show p - low - e.1 = p - (low + e.1) by omega] at this
        exact this
/-- a kept row that is right -/
def RowR (many : Int) (t : Tree) (h : Nat) : Prop := Right t h ∧ ∀ p, many ≤ p → p < sz h → val t h p = false
/-- these are the row's runs -/
structure IsRuns (R : List Run) (many : Int) (g : Int → Bool) : Prop where
  chain : Chain 0 many R
  alt : Alt R
  val : ∀ p, 0 ≤ p → p < many → valR R p = g p
theorem IsRuns.one {R R' : List Run} {many : Int} {g g' : Int → Bool} (h : IsRuns R many g) (h' : IsRuns R' many g') (e : ∀ p, 0 ≤ p → p < many → g p = g' p) : R = R' :=
  chain_one h.chain h.alt h'.chain h'.alt fun p p1 p2 => by rw [h.val p p1 p2, h'.val p p1 p2, e p p1 p2]
/-! ### rows laid by the law -/
def takeL : Int → Lens → Lens
  | _, [] => []
  | at_, e :: L => (if 0 < at_ then [(min e.1 at_, e.2)] else []) ++ takeL (at_ - e.1) L
def dropL : Int → Lens → Lens
  | _, [] => []
  | at_, e :: L => (if e.1 > at_ then [(e.1 - max 0 at_, e.2)] else []) ++ dropL (at_ - e.1) L
theorem takeL_none : ∀ {L : Lens} {c : Int}, c ≤ 0 → AltL L → takeL c L = []
  | [], _, _, _ => rfl
  | e :: L, c, h, hA => by
    have := hA.1
    show (if 0 < c then _ else []) ++ takeL (c - e.1) L = []
    rw [if_neg (by omega), takeL_none (c := c - e.1) (by omega) hA.2.2]
    rfl
theorem dropL_none : ∀ {L : Lens} {c : Int}, c ≤ 0 → AltL L → dropL c L = L
  | [], _, _, _ => rfl
  | e :: L, c, h, hA => by
    have := hA.1
    show (if e.1 > c then [(e.1 - max 0 c, e.2)] else []) ++ dropL (c - e.1) L = e :: L
    rw [if_pos (by omega), dropL_none (c := c - e.1) (by omega) hA.2.2, show e.1 - max 0 c = e.1 by omega]
    rfl
theorem takeL_ok : ∀ {L : Lens} {c : Int}, 0 ≤ c → AltL L → c ≤ totL L → AltL (takeL c L) ∧ totL (takeL c L) = c ∧ (0 < c → headT (takeL c L) = headT L) ∧ ∀ p, 0 ≤ p → p < c → valL (takeL c L) p = valL L p
  | [], c, h0, _, h => by
    have h : c ≤ 0 := h
    have e : c = 0 := by omega
    subst e
    exact ⟨trivial, rfl, fun z => by omega, fun p p1 p2 => by omega⟩
  | e :: L, c, h0, hA, h => by
    have a1 := hA.1
    have h : c ≤ e.1 + totL L := h
    by_cases c0 : c = 0
    · subst c0
      rw [takeL_none (Int.le_refl _) hA]
      exact ⟨trivial, rfl, fun z => by omega, fun p p1 p2 => by omega⟩
    have e1 : takeL c (e :: L) = (min e.1 c, e.2) :: takeL (c - e.1) L := by
      show (if 0 < c then _ else []) ++ _ = _
      rw [if_pos (by omega)]
      rfl
    rw [e1]
    by_cases c1 : c ≤ e.1
    · rw [takeL_none (c := c - e.1) (by omega) hA.2.2, show min e.1 c = c by omega]
      refine ⟨altL_one (by show 0 < c; omega), by show c + 0 = c; omega, fun _ => rfl, fun p p1 p2 => ?_⟩
      rw [valL_cons, valL_cons, if_pos p2, if_pos (by omega)]
    · obtain ⟨i1, i2, i3, i4⟩ := takeL_ok (L := L) (c := c - e.1) (by omega) hA.2.2 (by omega)
      rw [show min e.1 c = e.1 by omega]
      refine ⟨⟨a1, fun d hd => ?_, i1⟩, by show e.1 + totL (takeL (c - e.1) L) = c; omega, fun _ => rfl, fun p p1 p2 => ?_⟩
      · have e2 : headT (takeL (c - e.1) L) = d.2 := by
          cases hz : takeL (c - e.1) L with
          | nil => rw [hz] at hd; cases hd
          | cons z Z => rw [hz] at hd; cases hd; rfl
        have e3 := i3 (by omega)
        rw [e2] at e3
        cases L with
        | nil => have h : c ≤ e.1 + 0 := h; omega
        | cons y Y =>
          show d.2 ≠ e.2
          rw [e3]
          exact hA.2.1 y rfl
      · rw [valL_cons, valL_cons]
        by_cases c2 : p < e.1
        · rw [if_pos c2, if_pos c2]
        · rw [if_neg c2, if_neg c2]
          exact i4 _ (by omega) (by omega)
theorem dropL_ok : ∀ {L : Lens} {c : Int}, 0 ≤ c → AltL L → c ≤ totL L → AltL (dropL c L) ∧ totL (dropL c L) = totL L - c ∧ ∀ p, 0 ≤ p → valL (dropL c L) p = valL L (p + c)
  | [], c, h0, _, h => by
    have h : c ≤ 0 := h
    have e : c = 0 := by omega
    subst e
    exact ⟨trivial, rfl, fun p _ => rfl⟩
  | e :: L, c, h0, hA, h => by
    have a1 := hA.1
    have h : c ≤ e.1 + totL L := h
    by_cases c1 : e.1 > c
    · have e1 : dropL c (e :: L) = (e.1 - c, e.2) :: L := by
        show (if e.1 > c then [(e.1 - max 0 c, e.2)] else []) ++ dropL (c - e.1) L = _
        rw [if_pos c1, dropL_none (c := c - e.1) (by omega) hA.2.2, show e.1 - max 0 c = e.1 - c by omega]
        rfl
      rw [e1]
      refine ⟨⟨by show 0 < e.1 - c; omega, hA.2.1, hA.2.2⟩, by show e.1 - c + totL L = e.1 + totL L - c; omega, fun p p1 => ?_⟩
      rw [valL_cons, valL_cons]
      by_cases c2 : p < e.1 - c
      · rw [if_pos c2, if_pos (by omega)]
      · rw [if_neg c2, if_neg (by omega), show p - (e.1 - c) = p + c - e.1 by omega]
    · have e1 : dropL c (e :: L) = dropL (c - e.1) L := by
        show (if e.1 > c then _ else []) ++ _ = _
        rw [if_neg c1]
        rfl
      obtain ⟨i1, i2, i3⟩ := dropL_ok (L := L) (c := c - e.1) (by omega) hA.2.2 (by omega)
      rw [e1]
      refine ⟨i1, by show _ = e.1 + totL L - c; omega, fun p p1 => ?_⟩
      rw [i3 p p1, valL_cons, if_neg (by omega), show p + (c - e.1) = p + c - e.1 by omega]
theorem takeL_len : ∀ (L : Lens) (c : Int), (takeL c L).length ≤ L.length
  | [], _ => Nat.le_refl _
  | e :: L, c => by
    have := takeL_len L (c - e.1)
    show ((if 0 < c then [(min e.1 c, e.2)] else []) ++ takeL (c - e.1) L).length ≤ L.length + 1
    rw [List.length_append]
    split <;> simp <;> omega
theorem dropL_len : ∀ (L : Lens) (c : Int), (dropL c L).length ≤ L.length
  | [], _ => Nat.le_refl _
  | e :: L, c => by
    have := dropL_len L (c - e.1)
    show ((if e.1 > c then [(e.1 - max 0 c, e.2)] else []) ++ dropL (c - e.1) L).length ≤ L.length + 1
    rw [List.length_append]
    split <;> simp <;> omega
theorem put_back {L : Lens} {c : Int} (h0 : 0 ≤ c) (hA : AltL L) (h : c ≤ totL L) : putL (takeL c L) (dropL c L) = L := by
  obtain ⟨t1, t2, _, t4⟩ := takeL_ok h0 hA h
  obtain ⟨d1, d2, d3⟩ := dropL_ok h0 hA h
  refine lens_one (putL_alt t1 d1) hA (by rw [putL_tot]; omega) fun p p1 p2 => ?_
  rw [putL_val t1 d1 p p1, t2]
  by_cases z : p < c
  · rw [if_pos z, t4 p p1 z]
  · rw [if_neg z, d3 _ (by omega), show p - c + c = p by omega]
def lensOf (R : List Run) : Lens := R.map fun r => (r.2.1 - r.1, r.2.2)
theorem lensOf_ok : ∀ {R : List Run} {a b : Int}, Chain a b R → Alt R → AltL (lensOf R) ∧ totL (lensOf R) = b - a ∧ ∀ p, a ≤ p → p < b → valL (lensOf R) (p - a) = valR R p
  | [], a, b, h, _ => ⟨trivial, by have h : a = b := h; show (0 : Int) = b - a; omega, fun p p1 p2 => by have h : a = b := h; omega⟩
  | r :: R, a, b, h, al => by
    obtain ⟨h1, h2, h3⟩ := h
    obtain ⟨i1, i2, i3⟩ := lensOf_ok h3 al.2
    refine ⟨⟨by show 0 < r.2.1 - r.1; omega, fun d hd => ?_, i1⟩, by show r.2.1 - r.1 + totL (lensOf R) = b - a; omega, fun p p1 p2 => ?_⟩
    · cases R with
      | nil => cases hd
      | cons s R =>
        cases hd
        exact fun z => al.1 s rfl z.symm
    · show (if p - a < r.2.1 - r.1 then r.2.2 else valL (lensOf R) (p - a - (r.2.1 - r.1))) = _
      rw [val_cons]
      by_cases c : p < r.2.1
      · rw [if_pos c, if_pos (by omega)]
      · rw [if_neg c, if_neg (by omega), show p - a - (r.2.1 - r.1) = p - r.2.1 by omega]
        exact i3 p (by omega) p2
/-! ### trees may be compared -/
theorem tree_pure : ∀ t : Tree, (treeD t).pure = true
  | .all _ => rfl
  | .half l r t s => by
    show (true && (D.pure (treeD l) && (D.pure (treeD r) && (true && (D.pure (sumsD s) && true))))) = true
    rw [tree_pure l, tree_pure r]
    rfl
theorem str_lay (s : Str) (h : (D.str s).eqok = true) : PyData.canLay0 (.str s) = true := by
  unfold D.eqok SeqAt.shaped at h
  simp [D.pure, D.py] at h
  exact h.1
theorem tree_lay : ∀ t : Tree, (treeD t).py.canLay0 = true
  | .all b => by
    show PyData.canLay0 (.tuple [.str "all", .bool b]) = true
    have := str_lay _ ok_all
    simp [PyData.canLay0, PyData.canLayAll0] at this ⊢
    exact this
  | .half l r t s => by
    show PyData.canLay0 (.tuple [.str "half", (treeD l).py, (treeD r).py, .bool t, (sumsD s).py]) = true
    have h1 := str_lay _ ok_half
    have h2 := sumsF.lay s
    have h3 := tree_lay l
    have h4 := tree_lay r
    unfold PyData.canLay0
    simp only [PyData.canLayAll0, h1, h2, h3, h4, Bool.and_true, Bool.true_and]
    simp [PyData.canLay0]
theorem tree_dep : ∀ (t : Tree) (h : Nat), Fit t h → (treeD t).py.depth ≤ h + 2
  | .all b, h, _ => by
    show PyData.depth (.tuple [.str "all", .bool b]) ≤ _
    simp [PyData.depth, PyData.depthAll]
  | .half l r t s, 0, f => f.elim
  | .half l r t s, h + 1, f => by
    show PyData.depth (.tuple [.str "half", (treeD l).py, (treeD r).py, .bool t, (sumsD s).py]) ≤ _
    have h2 := sumsF.dep s
    have h3 := tree_dep l h f.1
    have h4 := tree_dep r h f.2
    simp only [PyData.depth, PyData.depthAll]
    omega
def rowD (many : Int) (t : Tree) : D := .tup [.int many, treeD t]
theorem rowD_ok {many : Int} {t : Tree} {h : Nat} (f : Fit t h) (hh : h ≤ 40) : (rowD many t).eqok = true := by
  have h1 := tree_dep t h f
  unfold D.eqok SeqAt.shaped
  have e1 : (rowD many t).pure = true := by
    show (true && (D.pure (treeD t) && true)) = true
    rw [tree_pure]
    rfl
  have e2 : (rowD many t).py.canLay0 = true := by
    show PyData.canLay0 (.tuple [.int many, (treeD t).py]) = true
    unfold PyData.canLay0
    simp only [PyData.canLayAll0, tree_lay t, Bool.and_true]
    simp [PyData.canLay0]
  have e3 : (rowD many t).py.depth ≤ 64 := by
    show PyData.depth (.tuple [.int many, (treeD t).py]) ≤ 64
    simp only [PyData.depth, PyData.depthAll]
    omega
  rw [e1, e2, decide_eq_true e3]
  rfl
theorem trees_ok {l : List Tree} {h : Nat} (f : ∀ t ∈ l, Fit t h) (hh : h ≤ 40) : (D.lst (l.map treeD)).eqok = true := by
  have e1 : D.pures (l.map treeD) = true := by
    clear f
    induction l with
    | nil => rfl
    | cons a l ih =>
      show (D.pure (treeD a) && D.pures (l.map treeD)) = true
      rw [tree_pure, ih]
      rfl
  have e2 : PyData.canLayAll0 (D.pys (l.map treeD)) = true := by
    clear f e1
    induction l with
    | nil => simp [D.pys, PyData.canLayAll0]
    | cons a l ih =>
      show PyData.canLayAll0 ((treeD a).py :: D.pys (l.map treeD)) = true
      unfold PyData.canLayAll0
      rw [tree_lay, ih]
      rfl
  have e3 : PyData.depthAll (D.pys (l.map treeD)) ≤ 42 := by
    clear e1 e2
    induction l with
    | nil => simp [D.pys, PyData.depthAll]
    | cons a l ih =>
      show PyData.depthAll ((treeD a).py :: D.pys (l.map treeD)) ≤ 42
      unfold PyData.depthAll
      have := tree_dep a h (f a List.mem_cons_self)
      exact Nat.max_le.mpr ⟨by omega, ih fun t ht => f t (List.mem_cons_of_mem _ ht)⟩
  unfold D.eqok SeqAt.shaped
  have e4 : (D.lst (l.map treeD)).py.depth ≤ 64 := by
    show PyData.depth (.list (D.pys (l.map treeD))) ≤ 64
    simp only [PyData.depth]
    omega
  have e5 : (D.lst (l.map treeD)).py.canLay0 = true := by
    show PyData.canLay0 (.list (D.pys (l.map treeD))) = true
    unfold PyData.canLay0
    exact e2
  rw [show (D.lst (l.map treeD)).pure = true from e1, e5, decide_eq_true e4]
  rfl
mutual
theorem eqv_self : ∀ d : D, d.pure = true → PyData.eqv d.py d.py = true
  | .non, _ => by simp [D.py, PyData.eqv]
  | .bl b, _ => by simp [D.py, PyData.eqv]
  | .int i, _ => by simp [D.py, PyData.eqv]
  | .str s, _ => by simp [D.py, PyData.eqv]
  | .lst l, h => by
    show PyData.eqv (.list _) (.list _) = true
    unfold PyData.eqv
    exact eqv_selfs l h
  | .tup l, h => by
    show PyData.eqv (.tuple _) (.tuple _) = true
    unfold PyData.eqv
    exact eqv_selfs l h
  | .ref a, h => by cases h
  | .scr a, h => by cases h
theorem eqv_selfs : ∀ l : List D, D.pures l = true → PyData.eqvAll (D.pys l) (D.pys l) = true
  | [], _ => by simp [D.pys, PyData.eqvAll]
  | d :: l, h => by
    have h : (D.pure d && D.pures l) = true := h
    rw [Bool.and_eq_true] at h
    show PyData.eqvAll (d.py :: D.pys l) (d.py :: D.pys l) = true
    unfold PyData.eqvAll
    rw [eqv_self d h.1, eqv_selfs l h.2]
    rfl
end
theorem rowD_self (many : Int) (t : Tree) : D.eqv (rowD many t) (rowD many t) = true := by
  refine eqv_self _ ?_
  show (true && (D.pure (treeD t) && true)) = true
  rw [tree_pure]
  rfl
theorem Fit.up : ∀ {t : Tree} {h : Nat}, Fit t h → Fit t (h + 1)
  | .all _, _, _ => trivial
  | .half _ _ _ _, 0, f => f.elim
  | .half _ _ _ _, h + 1, f => ⟨f.1.up, f.2.up⟩
theorem Fit.ups {t : Tree} {h k : Nat} (f : Fit t h) (hk : h ≤ k) : Fit t k := by
  induction k with
  | zero => rw [show h = 0 by omega] at f; exact f
  | succ k ih =>
    by_cases e : h = k + 1
    · rw [e] at f; exact f
    · exact (ih (by omega)).up
/-! ### lengths of a row -/
theorem lens_row {many : Int} {t : Tree} {h : Nat} {R : List Run} (hs : SizeOk many h) (h1 : 1 ≤ many) (off : ∀ p, many ≤ p → p < sz h → val t h p = false) (hR : IsRuns R many (val t h)) : (lens t h).length ≤ R.length + 1 := by
  obtain ⟨o1, o2, o3⟩ := lensOf_ok hR.chain hR.alt
  have ol : (lensOf R).length = R.length := by unfold lensOf; rw [List.length_map]
  have hs1 := hs.1
  by_cases c : many = sz h
  · have e : lens t h = lensOf R := lens_one (lens_alt t h) o1 (by rw [lens_tot, o2]; omega) fun p p1 p2 => by
      rw [lens_tot] at p2
      have := o3 p p1 (by omega)
      rw [Int.sub_zero] at this
      rw [this, hR.val p p1 (by omega)]
      rfl
    rw [e]
    omega
  · have b1 : AltL [(sz h - many, false)] := altL_one (by show 0 < sz h - many; omega)
    have e : lens t h = putL (lensOf R) [(sz h - many, false)] := lens_one (lens_alt t h) (putL_alt o1 b1) (by rw [lens_tot, putL_tot, o2]; show _ = many - 0 + (sz h - many + 0); omega) fun p p1 p2 => by
      rw [lens_tot] at p2
      rw [putL_val o1 b1 p p1, o2]
      by_cases c2 : p < many - 0
      · have := o3 p p1 (by omega)
        rw [Int.sub_zero] at this
        rw [if_pos c2, this, hR.val p p1 (by omega)]
        rfl
      · rw [if_neg c2, valL_cons, if_pos (by show _ < sz h - many; omega)]
        exact off p (by omega) p2
    have pl := (putL_len (lensOf R) [(sz h - many, false)]).1
    rw [e]
    simp at pl
    omega
theorem putOn_row {many : Int} {t : Tree} {h : Nat} {kind : Str} {f b : Int} (g : good many f b) (hR : RowR many t h) : RowR many (putOn h t 0 kind f b) h := by
  obtain ⟨g0, g1, g2⟩ := g
  refine ⟨putOn_right hR.1, fun p p1 p2 => ?_⟩
  rw [putOn_val hR.1 g1 (by omega) p2, if_neg (by omega)]
  exact hR.2 p p1 p2
theorem putOn_runs {many : Int} {t : Tree} {h : Nat} {kind : Str} {f b : Int} {rs R : List Run} (hs : SizeOk many h) (g : good many f b) (hR : RowR many t h) (i : IsRuns rs many (val t h)) (d : DoneOk rs R many kind f b) : IsRuns R many (val (putOn h t 0 kind f b) h) := by
  have := hs.1
  refine ⟨d.chain, d.alt, fun p p1 p2 => ?_⟩
  rw [d.val p p1 p2, putOn_val hR.1 g.2.1 p1 (by omega), i.val p p1 p2, Int.add_zero]
abbrev Deed := Str × Int × Int
def deedD (e : Deed) : D := .tup [.str e.1, .int e.2.1, .int e.2.2]
def doneAll (h : Nat) (l : List Deed) (t : Tree) : Tree := l.foldl (fun t e => putOn h t 0 e.1 e.2.1 e.2.2) t
def sp_need_deed : Spec := fun ds M k x => ∃ (many f b : Int) (d : D), ds = [.int many, .tup [d, .int f, .int b]] ∧ (if good many f b then k .non M else x "NoStretch" M)
abbrev n_need_deed : List Str := ["many", "deed"]
def b_need_deed : B := (.cons (.exp (.call "need_stretch" sp_need_stretch (.cons (.var 0) (.cons (.idx (.var 1) (.int 1)) (.cons (.idx (.var 1) (.int 2)) .nil))))) .nil)
theorem w_need_deed : Body n_need_deed 2 b_need_deed sp_need_deed := by
  rintro ds M k x ⟨many, f, b, d, rfl, h⟩
  refine ⟨rfl, ?_⟩
  simp only [b_need_deed]
  walk_at "wt"
  refine ⟨many, f, b, rfl, ?_⟩
  by_cases g : good many f b
  · rw [if_pos g] at h ⊢
    exact fewer_of h
  · rw [if_neg g] at h ⊢
    exact fewerX_of h
def sp_done : Spec := fun ds M k x => ∃ (t : Tree) (many f b : Int) (kind : Str), ds = [.tup [.int many, treeD t], .tup [.str kind, .int f, .int b]] ∧ many ≤ 1000000000000 ∧ kOk kind ∧ (if good many f b then ∀ h, SizeOk many h → k (.tup [.int many, treeD (putOn h t 0 kind f b)]) M else x "NoStretch" M)
abbrev n_done : List Str := ["row", "deed", "many", "tree"]
def b_done : B := (.cons (.asgT [2, 3] (.var 0)) (.cons (.exp (.call "need_deed" sp_need_deed (.cons (.var 2) (.cons (.var 1) .nil)))) (.cons (.ret (.tup (.cons (.var 2) (.cons (.call "put_on" (sp_put_on 42) (.cons (.var 3) (.cons (.call "size_for" sp_size_for (.cons (.var 2) .nil)) (.cons (.int 0) (.cons (.var 1) .nil))))) .nil)))) .nil)))
theorem w_done : Body n_done 2 b_done sp_done := by
  rintro ds M k x ⟨t, many, f, b, kind, rfl, h2, hkk, h⟩
  refine ⟨rfl, ?_⟩
  simp only [b_done]
  walk_at "wt"
  refine ⟨many, f, b, _, rfl, ?_⟩
  by_cases g : good many f b
  · rw [if_pos g] at h ⊢
    walk_at "wt"
    refine ⟨many, rfl, h2, fun h' hs => ?_⟩
    have hle := hs.le h2
    refine ⟨t, h', 0, kind, f, b, rfl, by omega, hkk, g.2.1, ?_⟩
    walk_at "wt"
    exact fewer_of (h h' hs)
  · rw [if_neg g] at h ⊢
    exact fewerX_of h
/-! ### the runs of a tree -/
def leafR : Tree → Nat → Int → Bool → List Run
  | .all b, h, low, above => [(low, low + sz h, b ^^ above)]
  | .half l r t _, h + 1, low, above => leafR l h low (above ^^ t) ++ leafR r h (low + sz h) (above ^^ t)
  | .half _ _ _ _, 0, _, _ => []
theorem leafR_ok : ∀ {t : Tree} {h : Nat} {low : Int} {above : Bool}, Fit t h → Chain low (low + sz h) (leafR t h low above) ∧ ∀ p, low ≤ p → p < low + sz h → valR (leafR t h low above) p = (val t h (p - low) ^^ above)
  | .all b, h, low, above, _ => by
    have := sz_pos h
    refine ⟨⟨rfl, by show low < low + sz h; omega, rfl⟩, fun p p1 p2 => ?_⟩
    show valR [(low, low + sz h, b ^^ above)] p = _
    rw [val_cons, if_pos p2, val_all b h (by omega)]
  | .half l r t s, 0, low, above, f => f.elim
  | .half l r t s, h + 1, low, above, f => by
    obtain ⟨i1, i2⟩ := leafR_ok (low := low) (above := above ^^ t) f.1
    obtain ⟨j1, j2⟩ := leafR_ok (low := low + sz h) (above := above ^^ t) f.2
    have e : low + sz (h + 1) = low + sz h + sz h := by rw [sz_succ]; omega
    rw [e]
    refine ⟨chain_app.mpr ⟨_, i1, j1⟩, fun p p1 p2 => ?_⟩
    show valR (leafR l h low (above ^^ t) ++ leafR r h (low + sz h) (above ^^ t)) p = _
    rw [val_app i1 p p1, val_half (by omega) (by rw [sz_succ]; omega)]
    by_cases c : p < low + sz h
    · rw [if_pos c, if_pos (by omega), i2 p p1 c]
      cases val l h (p - low) <;> cases above <;> cases t <;> rfl
    · rw [if_neg c, if_neg (by omega), j2 p (by omega) p2, show p - (low + sz h) = p - low - sz h by omega]
      cases val r h (p - low - sz h) <;> cases above <;> cases t <;> rfl
theorem right_len2 : ∀ {t : Tree} {h : Nat}, Right t h → (∃ b, t = .all b) ∨ 2 ≤ (lens t h).length
  | .all b, _, _ => .inl ⟨b, rfl⟩
  | .half l r t s, 0, R => R.elim
  | .half l r t s, h + 1, R => by
    right
    obtain ⟨r1, r2, r3, _⟩ := R
    have e : (lens (.half l r t s) (h + 1)).length = (putL (lens l h) (lens r h)).length := flipL_len _ _
    have pl := (putL_len (lens l h) (lens r h)).2 (lens_ne _ _) (lens_ne _ _)
    have l1 := List.length_pos_iff.mpr (lens_ne l h)
    have l2 := List.length_pos_iff.mpr (lens_ne r h)
    rcases right_len2 r2 with ⟨a, rfl⟩ | z
    · rcases right_len2 r3 with ⟨b, rfl⟩ | z
      · have hne : ¬ a = b := by simpa [sameAll] using r1
        rw [e]
        have e2 : putL (lens (.all a) h) (lens (.all b) h) = [(sz h, a), (sz h, b)] := by
          show (if a = b then _ else _) = _
          rw [if_neg hne]
        rw [e2]
        exact Nat.le_refl _
      · omega
    · omega
theorem leafR_len : ∀ {t : Tree} {h : Nat} {low : Int} {above : Bool}, Right t h → (leafR t h low above).length + h ≤ 1 + h * (lens t h).length
  | .all b, h, low, above, _ => by
    show 1 + h ≤ 1 + h * 1
    omega
  | .half l r t s, 0, _, _, R => R.elim
  | .half l r t s, h + 1, low, above, R => by
    have l2 : 2 ≤ (lens (.half l r t s) (h + 1)).length := by
      rcases right_len2 (t := .half l r t s) (h := h + 1) R with ⟨b, e⟩ | z
      · cases e
      · exact z
    have i1 := leafR_len (low := low) (above := above ^^ t) R.2.1
    have i2 := leafR_len (low := low + sz h) (above := above ^^ t) R.2.2.1
    have e : (lens (.half l r t s) (h + 1)).length = (putL (lens l h) (lens r h)).length := flipL_len _ _
    have pl := (putL_len (lens l h) (lens r h)).2 (lens_ne _ _) (lens_ne _ _)
    show (leafR l h low (above ^^ t) ++ leafR r h (low + sz h) (above ^^ t)).length + (h + 1) ≤ 1 + (h + 1) * (lens (.half l r t s) (h + 1)).length
    rw [List.length_append]
    rw [← e] at pl
    generalize (lens (.half l r t s) (h + 1)).length = n at *
    generalize (lens l h).length = a at *
    generalize (lens r h).length = b at *
    have m1 : h * (a + b) ≤ h * (n + 1) := Nat.mul_le_mul_left h pl
    rw [Nat.mul_add, Nat.mul_add, Nat.mul_one] at m1
    rw [Nat.add_mul, Nat.one_mul]
    omega
theorem fold_app (l l' acc : List Run) : (l ++ l').foldl joinStep acc = l'.foldl joinStep (l.foldl joinStep acc) := List.foldl_append
def sp_stretches_in (n : Nat) : Spec := fun ds M k x => ∃ (t : Tree) (h : Nat) (low : Int) (above : Bool) (a : Addr) (acc : List Run), ds = [treeD t, .int (sz h), .int low, .bl above, .ref a] ∧ h < n ∧ Fit t h ∧ M a = some (.lst (acc.map runD)) ∧ acc.length + (leafR t h low above).length ≤ 900000 ∧
  k .non (mset M a (.lst (((leafR t h low above).foldl joinStep acc).map runD)))
theorem zero_stretches_in : ∀ ds M k x, ¬ sp_stretches_in 0 ds M k x := fun _ _ _ _ ⟨_, _, _, _, _, _, _, h, _⟩ => absurd h (by omega)
abbrev n_stretches_in : List Str := ["tree", "size", "low", "above", "found", "half", "beneath", "truth"]
def b_stretches_in_1 (sp : Spec) : B := (.cons (.asg 7 (.cmp .ne (.idx (.var 0) (.int 1)) (.var 3))) (.cons (.ite (.and (.cmp .ne (.var 4) (.lst false .nil)) (.one (.cmp .eq (.idx (.idx (.var 4) (.un .neg (.int 1))) (.int 2)) (.var 7)))) (.cons (.setI 4 (.un .neg (.int 1)) (.tup (.cons (.idx (.idx (.var 4) (.un .neg (.int 1))) (.int 0)) (.cons (.bin .add (.var 2) (.var 1)) (.cons (.var 7) .nil))))) .nil) (.cons (.app 4 (.tup (.cons (.var 2) (.cons (.bin .add (.var 2) (.var 1)) (.cons (.var 7) .nil))))) .nil)) .nil))
def b_stretches_in (sp : Spec) : B := (.cons (.ite (.cmp .eq (.idx (.var 0) (.int 0)) (.str "half")) (.cons (.asg 5 (.bin .fdiv (.var 1) (.int 2))) (.cons (.asg 6 (.cmp .ne (.var 3) (.idx (.var 0) (.int 3)))) (.cons (.exp (.call "stretches_in" sp (.cons (.idx (.var 0) (.int 1)) (.cons (.var 5) (.cons (.var 2) (.cons (.var 6) (.cons (.var 4) .nil))))))) (.cons (.exp (.call "stretches_in" sp (.cons (.idx (.var 0) (.int 2)) (.cons (.var 5) (.cons (.bin .add (.var 2) (.var 5)) (.cons (.var 6) (.cons (.var 4) .nil))))))) (.cons .retN .nil))))) .nil) (b_stretches_in_1 sp))
theorem w_stretches_in (n : Nat) : Body n_stretches_in 5 (b_stretches_in (sp_stretches_in n)) (sp_stretches_in (n + 1)) := by
  rintro ds M k x ⟨t, h, low, above, a, acc, rfl, hn, hf, ha, hl, hk⟩
  refine ⟨rfl, ?_⟩
  simp only [b_stretches_in]
  cases t with
  | all b =>
    have e : (leafR (.all b) h low above).foldl joinStep acc = joinStep acc (low, low + sz h, b ^^ above) := rfl
    rw [e] at hk
    have hl : acc.length + 1 ≤ 900000 := hl
    simp only [treeD]
    walk_at "wt"
    simp only [b_stretches_in_1]
    walk_at "wt"
    rw [vw_lst ha]
    simp only [runs_ok, true_and, eqv_emp, ne_xor]
    rcases nil_or acc with rfl | ⟨A, z, rfl⟩
    · simp only [List.map_nil, List.isEmpty_nil, Bool.not_true, Bool.false_eq_true, if_false]
      rw [atV_s (d := .ref a) rfl, isL_ref ha]
      walk_at "wt"
      rw [app_ref ha]
      exact ⟨by simp, fewer_of hk⟩
    · rw [join_snoc] at hk
      have e1 : (List.map runD (A ++ [z])).isEmpty = false := by cases A <;> rfl
      simp only [e1, Bool.not_false, if_true]
      rw [ixP_ref ha, List.map_append]
      refine ⟨runD z, atI_last _ _, ?_⟩
      simp only [runD]
      walk_at "wt"
      refine ite_of (fun c => ?_) (fun c => ?_)
      · rw [if_pos (show z.2.2 = (b ^^ above) by simpa using c)] at hk
        rw [ixP_ref ha, List.map_append]
        refine ⟨runD z, atI_last _ _, ?_⟩
        simp only [runD]
        walk_at "wt"
        rw [atV_s (d := .ref a) rfl]
        walk_at "wt"
        rw [set_ref ha]
        refine ⟨A.length, by rw [List.length_map]; exact ixN_last A z, ?_⟩
        have e2 : (List.map runD (A ++ [z])).set A.length (.tup [.int z.1, .int (low + sz h), .bl (b ^^ above)]) = List.map runD (A ++ [(z.1, low + sz h, b ^^ above)]) := by
          rw [List.map_append, List.map_append]
          have := set_last (List.map runD A) (runD z) (runD (z.1, low + sz h, b ^^ above))
          rw [List.length_map] at this
          exact this
        rw [e2]
        exact fewer_of hk
      · rw [if_neg (show ¬ z.2.2 = (b ^^ above) by simpa using c)] at hk
        rw [atV_s (d := .ref a) rfl, isL_ref ha]
        walk_at "wt"
        rw [app_ref ha, List.length_map]
        simp only [List.length_cons, List.length_nil]
        refine ⟨by omega, ?_⟩
        rw [List.map_append] at hk
        exact fewer_of hk
  | half l r t s =>
    cases h with
    | zero => exact hf.elim
    | succ h =>
      have e : leafR (.half l r t s) (h + 1) low above = leafR l h low (above ^^ t) ++ leafR r h (low + sz h) (above ^^ t) := rfl
      rw [e] at hk hl
      rw [fold_app] at hk
      rw [List.length_append] at hl
      simp only [treeD]
      walk_at "wt"
      simp only [ne_xor]
      refine ⟨l, h, low, above ^^ t, a, acc, rfl, by omega, hf.1, ha, by omega, ?_⟩
      walk_at "wt"
      have fl := fold_len (leafR l h low (above ^^ t)) acc
      refine ⟨r, h, low + sz h, above ^^ t, a, (leafR l h low (above ^^ t)).foldl joinStep acc, rfl, by omega, hf.2, mset_same, by omega, ?_⟩
      walk_at "wt"
      rw [mset_mset]
      exact fewer_of hk
def sp_runs_told : Spec := fun ds M k x => ∃ (t : Tree) (many : Int) (h : Nat), ds = [.tup [.int many, treeD t]] ∧ 1 ≤ many ∧ many ≤ 1000000000000 ∧ SizeOk many h ∧ Fit t h ∧ (leafR t h 0 false).length ≤ 900000 ∧
  ∀ R, IsRuns R many (val t h) → ∀ a, M a = none → k (.ref a) (mset M a (.lst (R.map runD)))
abbrev n_runs_told : List Str := ["row", "many", "tree", "found"]
def b_runs_told_1 : B := (.cons (.setI 3 (.un .neg (.int 1)) (.tup (.cons (.idx (.idx (.var 3) (.un .neg (.int 1))) (.int 0)) (.cons (.var 1) (.cons (.idx (.idx (.var 3) (.un .neg (.int 1))) (.int 2)) .nil))))) (.cons (.ret (.var 3)) .nil))
def b_runs_told_2 : B := (.cons (.pop 3) .nil)
def b_runs_told : B := (.cons (.asgT [1, 2] (.var 0)) (.cons (.asg 3 (.lst true .nil)) (.cons (.exp (.call "stretches_in" (sp_stretches_in 42) (.cons (.var 2) (.cons (.call "size_for" sp_size_for (.cons (.var 1) .nil)) (.cons (.int 0) (.cons (.bl false) (.cons (.var 3) .nil))))))) (.cons (.whl (.cmp .ge (.idx (.idx (.var 3) (.un .neg (.int 1))) (.int 0)) (.var 1)) b_runs_told_2) b_runs_told_1))))
theorem w_runs_told : Body n_runs_told 1 b_runs_told sp_runs_told := by
  rintro ds M k x ⟨t, many, h, rfl, h1, h2, hs, hf, hl, hk⟩
  refine ⟨rfl, ?_⟩
  simp only [b_runs_told]
  walk_at "wt"
  intro a ha
  walk_at "wt"
  refine ⟨many, rfl, h2, fun h' hs' => ?_⟩
  have e := hs'.one hs
  subst e
  have hle := hs.le h2
  refine ⟨t, h', 0, false, a, [], rfl, by omega, hf, mset_same, by show 0 + _ ≤ _; omega, ?_⟩
  rw [mset_mset]
  obtain ⟨c1, c2⟩ := leafR_ok (low := 0) (above := false) hf
  obtain ⟨j1, j2, j3⟩ := joinR_chain (acc := []) (a := 0) (c := 0) rfl trivial c1
  have jl := fold_len (leafR t h' 0 false) []
  generalize (leafR t h' 0 false).foldl joinStep [] = J at j1 j2 j3 jl
  have hs1 := hs.1
  have jv : ∀ p, 0 ≤ p → p < many → valR J p = val t h' p := fun p p1 p2 => by
    rw [j3 p p1 (by omega), List.nil_append, c2 p p1 (by omega), Int.sub_zero, Bool.xor_false]
  walk_at "wt"
  refine ⟨J.length + 1, wloop_go (fun i ρ M' => ∃ (F : List Run) (c : Int), F.length ≤ i ∧ many ≤ c ∧ Chain 0 c F ∧ Alt F ∧ (∀ p, 0 ≤ p → p < many → valR F p = val t h' p) ∧ M' = mset M a (.lst (F.map runD)) ∧ ρ = [some (.tup [.int many, treeD t]), some (.int many), some (treeD t), some (.ref a)]) ?_ _ J.length _ _ (Nat.lt_succ_self _) ⟨J, 0 + sz h', Nat.le_refl _, by omega, j1, j2, jv, rfl, rfl⟩⟩
  rintro i ρ M' q ⟨F, c, hF, hc, ch, al, hv, rfl, rfl⟩ hq
  obtain ⟨A, z, rfl⟩ : ∃ A z, F = A ++ [z] := by
    rcases nil_or F with rfl | q
    · have e : (0 : Int) = c := ch
      omega
    · exact q
  obtain ⟨d1, d2, d3⟩ := chain_snoc.mp ch
  walk_at "wt"
  rw [ixP_ref mset_same, List.map_append]
  refine ⟨runD z, atI_last _ _, ?_⟩
  simp only [runD]
  walk_at "wt"
  refine ite_of (fun e => ?_) (fun e => ?_)
  · simp only [b_runs_told_2]
    walk_at "wt"
    rw [atV_s (d := .ref a) rfl, pop_ref mset_same, mset_mset]
    refine ⟨runD z, ?_, ?_⟩
    · rw [List.length_append]
      show (List.map runD A ++ [runD z])[(List.map runD A).length + 1 - 1]? = _
      rw [Nat.add_sub_cancel, List.getElem?_concat_length]
    · rw [List.dropLast_concat]
      have alA : Alt A := by
        clear hv ch d1 hF hq
        induction A with
        | nil => trivial
        | cons b A ih =>
          refine ⟨fun s hs => al.1 s ?_, ih al.2⟩
          cases A with
          | nil => cases hs
          | cons b' A => exact hs
      refine hq (i - 1) _ _ (by rw [List.length_append] at hF; simp at hF; omega) ⟨A, z.1, by rw [List.length_append] at hF; simp at hF; omega, e, d1, alA, fun p p1 p2 => ?_, rfl, rfl⟩
      rw [← hv p p1 p2, val_snoc d1 p p1 (by omega), if_pos (by omega)]
  · simp only [b_runs_told_1]
    walk_at "wt"
    rw [ixP_ref mset_same]
    refine ⟨runD z, atI_last _ _, ?_⟩
    simp only [runD]
    walk_at "wt"
    rw [ixP_ref mset_same]
    refine ⟨runD z, atI_last _ _, ?_⟩
    simp only [runD]
    walk_at "wt"
    rw [atV_s (d := .ref a) rfl]
    walk_at "wt"
    rw [set_ref mset_same]
    refine ⟨(List.map runD A).length, ixN_last (List.map runD A) (runD z), ?_⟩
    have e2 : (List.map runD A ++ [D.tup [.int z.1, .int z.2.1, .bl z.2.2]]).set (List.map runD A).length (.tup [.int z.1, .int many, .bl z.2.2]) = List.map runD (A ++ [(z.1, many, z.2.2)]) := by
      rw [List.map_append]
      exact set_last (List.map runD A) (runD z) (runD (z.1, many, z.2.2))
    rw [e2, mset_mset]
    have e : z.1 < many := by omega
    refine fewer_of (hk (A ++ [(z.1, many, z.2.2)]) ⟨(chain_snoc (z := (z.1, many, z.2.2))).mpr ⟨d1, e, rfl⟩, alt_end al rfl, fun p p1 p2 => ?_⟩ a ha)
    rw [val_snoc (z := (z.1, many, z.2.2)) d1 p p1 p2, ← hv p p1 p2, val_snoc d1 p p1 (by omega)]
/-! ### told down -/
def downT : Tree → Nat → Tree
  | .all b, _ => .all b
  | .half l r true _, h + 1 => .half (downT (turnedT l h) h) (downT (turnedT r h) h) false (sumsPut (downT (turnedT l h) h) (downT (turnedT r h) h) h)
  | .half l r false _, h + 1 => .half (downT l h) (downT r h) false (sumsPut (downT l h) (downT r h) h)
  | t, 0 => t
termination_by _ h => h
theorem downT_all (b : Bool) (h : Nat) : downT (.all b) h = .all b := by
  cases h <;> simp [downT]
theorem downT_half (l r : Tree) (t : Bool) (s : Sums) (h : Nat) : downT (.half l r t s) (h + 1) = .half (downT (opened (.half l r t s) h).1 h) (downT (opened (.half l r t s) h).2 h) false (sumsPut (downT (opened (.half l r t s) h).1 h) (downT (opened (.half l r t s) h).2 h) h) := by
  cases t <;> simp [downT, opened]
theorem downT_isall : ∀ {t : Tree} {h : Nat} {b : Bool}, Fit t h → downT t h = .all b → t = .all b
  | .all a, h, b, _, e => by rw [downT_all] at e; exact e
  | .half l r t s, 0, b, f, _ => f.elim
  | .half l r t s, h + 1, b, _, e => by rw [downT_half] at e; cases e
theorem sameAll_iff {l r : Tree} : sameAll l r = true ↔ ∃ b, l = .all b ∧ r = .all b := by
  constructor
  · intro h
    cases l with
    | half a b t s => cases h
    | all a =>
      cases r with
      | half a b t s => cases h
      | all b =>
        have e : a = b := by simpa [sameAll] using h
        subst e
        exact ⟨a, rfl, rfl⟩
  · rintro ⟨b, rfl, rfl⟩
    simp [sameAll]
theorem sameAll_opened {l r : Tree} {t : Bool} {s : Sums} {h : Nat} (hs : sameAll l r = false) : sameAll (opened (.half l r t s) h).1 (opened (.half l r t s) h).2 = false := by
  cases t with
  | false => exact hs
  | true =>
    show sameAll (turnedT l h) (turnedT r h) = false
    cases l with
    | half a b t s => rfl
    | all a =>
      cases r with
      | half a b t s => rfl
      | all b =>
        have : ¬ a = b := by simpa [sameAll] using hs
        show decide ((!a) = (!b)) = false
        rw [decide_eq_false]
        revert this
        cases a <;> cases b <;> simp
theorem downT_right : ∀ {h : Nat} {t : Tree}, Right t h → Right (downT t h) h ∧ ∀ p, 0 ≤ p → p < sz h → val (downT t h) h p = val t h p
  | h, .all b, _ => by rw [downT_all]; exact ⟨trivial, fun p _ _ => rfl⟩
  | 0, .half l r t s, R => R.elim
  | h + 1, .half l r t s, R => by
    obtain ⟨o1, o2⟩ := opened_right R
    have so := sameAll_opened (t := t) (s := s) (h := h) R.1
    have ov := fun p p1 p2 => opened_val (p := p) R.fit p1 p2
    obtain ⟨i1, i2⟩ := downT_right o1
    obtain ⟨j1, j2⟩ := downT_right o2
    rw [downT_half]
    refine ⟨⟨?_, i1, j1, by rw [flipL_false, sumsPut_ok i1 j1]⟩, fun p p1 p2 => ?_⟩
    · cases hz : sameAll (downT (opened (.half l r t s) h).1 h) (downT (opened (.half l r t s) h).2 h) with
      | false => rfl
      | true =>
        obtain ⟨b, e1, e2⟩ := sameAll_iff.mp hz
        rw [sameAll_iff.mpr ⟨b, downT_isall o1.fit e1, downT_isall o2.fit e2⟩] at so
        cases so
    · have hsz := sz_succ h
      rw [val_half p1 p2, Bool.xor_false, ov p p1 p2]
      by_cases c : p < sz h
      · rw [if_pos c, if_pos c, i2 p p1 c]
      · rw [if_neg c, if_neg c, j2 _ (by omega) (by omega)]
def NoLate : Tree → Prop
  | .all _ => True
  | .half l r t _ => t = false ∧ NoLate l ∧ NoLate r
theorem downT_nolate : ∀ {h : Nat} {t : Tree}, Fit t h → NoLate (downT t h)
  | h, .all b, _ => by rw [downT_all]; trivial
  | 0, .half l r t s, R => R.elim
  | h + 1, .half l r t s, R => by
    have o : Fit (opened (.half l r t s) h).1 h ∧ Fit (opened (.half l r t s) h).2 h := by
      cases t with
      | true => exact ⟨turnedT_fit R.1, turnedT_fit R.2⟩
      | false => exact R
    rw [downT_half]
    exact ⟨rfl, downT_nolate o.1, downT_nolate o.2⟩
theorem downT_same : ∀ {h : Nat} {t : Tree}, Right t h → NoLate t → downT t h = t
  | h, .all b, _, _ => downT_all b h
  | 0, .half l r t s, R, _ => R.elim
  | h + 1, .half l r t s, R, n => by
    obtain ⟨n1, n2, n3⟩ := n
    subst n1
    rw [downT_half]
    show Tree.half (downT l h) (downT r h) false (sumsPut (downT l h) (downT r h) h) = _
    rw [downT_same R.2.1 n2, downT_same R.2.2.1 n3, sumsPut_ok R.2.1 R.2.2.1, R.2.2.2, flipL_false]
/-! ### a kept row of runs -/
theorem guard_refl (M : Mp) (d : D) : guardD M d M := by
  cases d <;> first | rfl | trivial
def keptT (h : Nat) (R : List Run) (t : Tree) : Tree := R.foldl (fun t r => if r.2.2 = true then putOn h t 0 "on" r.1 r.2.1 else t) t
theorem keptT_cons (h : Nat) (r : Run) (R : List Run) (t : Tree) : keptT h (r :: R) t = keptT h R (if r.2.2 = true then putOn h t 0 "on" r.1 r.2.1 else t) := rfl
theorem swk_on (b : Bool) : swk "on" b = true := by
  unfold swk
  rw [if_neg (by decide +kernel)]
  exact decide_eq_true rfl
theorem keptT_ok {h : Nat} {many : Int} : ∀ {R : List Run} {c : Int} {t : Tree}, Right t h → Chain c many R → 0 ≤ c → (∀ p, c ≤ p → p < sz h → val t h p = false) →
    Right (keptT h R t) h ∧ ∀ p, 0 ≤ p → p < sz h → val (keptT h R t) h p = if p < c then val t h p else if p < many then valR R p else false
  | [], c, t, hR, hc, h0, hv => by
    have hc : c = many := hc
    subst hc
    refine ⟨hR, fun p p1 p2 => ?_⟩
    by_cases z : p < c
    · rw [if_pos z]
      rfl
    · rw [if_neg z, if_neg z]
      exact hv p (by omega) p2
  | r :: R, c, t, hR, hc, h0, hv => by
    obtain ⟨c1, c2, c3⟩ := hc
    have hle := Chain.le c3
    rw [keptT_cons]
    have step : Right (if r.2.2 = true then putOn h t 0 "on" r.1 r.2.1 else t) h ∧ ∀ p, 0 ≤ p → p < sz h → val (if r.2.2 = true then putOn h t 0 "on" r.1 r.2.1 else t) h p = if p < c then val t h p else if p < r.2.1 then r.2.2 else false := by
      by_cases z : r.2.2 = true
      · rw [if_pos z]
        refine ⟨putOn_right hR, fun p p1 p2 => ?_⟩
        rw [putOn_val hR (by omega) p1 p2, swk_on, z, Int.add_zero, c1]
        by_cases d1 : p < c
        · rw [if_pos d1, if_neg (by omega)]
        · rw [if_neg d1]
          by_cases d2 : p < r.2.1
          · rw [if_pos d2, if_pos ⟨by omega, d2⟩]
          · rw [if_neg d2, if_neg (by omega)]
            exact hv p (by omega) p2
      · rw [if_neg z]
        refine ⟨hR, fun p p1 p2 => ?_⟩
        by_cases d1 : p < c
        · rw [if_pos d1]
        · rw [if_neg d1, hv p (by omega) p2]
          have e : r.2.2 = false := by simpa using z
          rw [e]
          split <;> rfl
    generalize (if r.2.2 = true then putOn h t 0 "on" r.1 r.2.1 else t) = t' at step
    obtain ⟨s1, s2⟩ := step
    obtain ⟨i1, i2⟩ := keptT_ok (R := R) s1 c3 (by omega) fun p p1 p2 => by
      rw [s2 p (by omega) p2, if_neg (by omega), if_neg (by omega)]
    refine ⟨i1, fun p p1 p2 => ?_⟩
    rw [i2 p p1 p2, val_cons]
    by_cases d1 : p < r.2.1
    · rw [if_pos d1, s2 p p1 p2]
      by_cases d0 : p < c
      · rw [if_pos d0, if_pos d0]
      · rw [if_neg d0, if_neg d0, if_pos d1, if_pos (by omega), if_pos d1]
    · rw [if_neg d1, if_neg (by omega : ¬ p < c)]
      by_cases d2 : p < many
      · rw [if_pos d2, if_pos d2, if_neg d1]
      · rw [if_neg d2, if_neg d2]
theorem kept_row {many : Int} {R : List Run} {h : Nat} (hs : SizeOk many h) (hc : Chain 0 many R) (al : Alt R) : RowR many (keptT h R (.all false)) h ∧ IsRuns R many (val (keptT h R (.all false)) h) := by
  obtain ⟨k1, k2⟩ := keptT_ok (h := h) (R := R) (t := .all false) trivial hc (Int.le_refl _) fun p _ p2 => val_all false h p2
  have := hs.1
  have := Chain.le hc
  refine ⟨⟨k1, fun p p1 p2 => ?_⟩, hc, al, fun p p1 p2 => ?_⟩
  · rw [k2 p (by omega) p2, if_neg (by omega), if_neg (by omega)]
  · rw [k2 p p1 (by omega), if_neg (by omega), if_pos p2]
def g_MOST_SWITCHES : D := .int 1000000000000
def RightOff (t : Tree) (h : Nat) (room : Int) (above : Bool) : Prop := Right t h ∧ ∀ p, room ≤ p → p < sz h → (val t h p ^^ above) = false
def sp_is_right_tree (n : Nat) : Spec := fun ds M k x => ∃ (t : Tree) (h : Nat) (room : Int) (above : Bool), ds = [treeD t, .int (sz h), .int room, .bl above] ∧ h < n ∧ 0 ≤ room ∧ room ≤ sz h ∧ (RightOff t h room above → k (.bl true) M) ∧ (¬ RightOff t h room above → k (.bl false) M)
theorem zero_is_right_tree : ∀ ds M k x, ¬ sp_is_right_tree 0 ds M k x := fun _ _ _ _ ⟨_, _, _, _, _, h, _⟩ => absurd h (by omega)
theorem vw_sums (M : Mp) (s : Sums) : vw M (sumsD s) = sumsD s := rfl
theorem rightOff_half {l r : Tree} {t : Bool} {s : Sums} {h : Nat} {room : Int} {above : Bool} (h0 : 0 ≤ room) : RightOff (.half l r t s) (h + 1) room above ↔ sameAll l r = false ∧ RightOff l h (min room (sz h)) (above ^^ t) ∧ RightOff r h (max 0 (room - sz h)) (above ^^ t) ∧ s = sumsL (flipL t (putL (lens l h) (lens r h))) := by
  have hz := sz_succ h
  have hp := sz_pos h
  constructor
  · rintro ⟨⟨r1, r2, r3, r4⟩, v⟩
    refine ⟨r1, ⟨r2, fun p p1 p2 => ?_⟩, ⟨r3, fun p p1 p2 => ?_⟩, r4⟩
    · have := v p (by omega) (by omega)
      rw [val_half (by omega) (by omega), if_pos p2] at this
      rw [← this]
      cases val l h p <;> cases above <;> cases t <;> rfl
    · have := v (p + sz h) (by omega) (by omega)
      rw [val_half (by omega) (by omega), if_neg (by omega), show p + sz h - sz h = p by omega] at this
      rw [← this]
      cases val r h p <;> cases above <;> cases t <;> rfl
  · rintro ⟨r1, ⟨r2, v2⟩, ⟨r3, v3⟩, r4⟩
    refine ⟨⟨r1, r2, r3, r4⟩, fun p p1 p2 => ?_⟩
    rw [val_half (by omega) p2]
    by_cases c : p < sz h
    · rw [if_pos c]
      have := v2 p (by omega) c
      rw [← this]
      cases val l h p <;> cases above <;> cases t <;> rfl
    · rw [if_neg c]
      have := v3 (p - sz h) (by omega) (by omega)
      rw [← this]
      cases val r h (p - sz h) <;> cases above <;> cases t <;> rfl
abbrev n_is_right_tree : List Str := ["tree", "size", "room", "above", "word", "left", "right", "late", "sums", "half", "beneath", "due"]
def b_is_right_tree_1 (sp : Spec) : B := (.cons (.ret (.cmp .eq (.var 8) (.var 11))) .nil)
def b_is_right_tree_2 (sp : Spec) : B := (.cons (.asg 11 (.call "sums_put" sp_sums_put (.cons (.var 5) (.cons (.var 6) (.cons (.var 1) .nil))))) (.cons (.ite (.var 7) (.cons (.asg 11 (.call "sums_turned" sp_sums_turned (.cons (.var 11) (.cons (.var 1) .nil)))) .nil) .nil) (b_is_right_tree_1 sp)))
def b_is_right_tree_3 (sp : Spec) : B := (.cons (.ite (.not (.call "is_right_tree" sp (.cons (.var 6) (.cons (.var 9) (.cons (.blt .max2 (.cons (.int 0) (.cons (.bin .sub (.var 2) (.var 9)) .nil))) (.cons (.var 10) .nil)))))) (.cons (.ret (.bl false)) .nil) .nil) (b_is_right_tree_2 sp))
def b_is_right_tree_4 (sp : Spec) : B := (.cons (.asg 10 (.cmp .ne (.var 3) (.var 7))) (.cons (.ite (.not (.call "is_right_tree" sp (.cons (.var 5) (.cons (.var 9) (.cons (.blt .min2 (.cons (.var 2) (.cons (.var 9) .nil))) (.cons (.var 10) .nil)))))) (.cons (.ret (.bl false)) .nil) .nil) (b_is_right_tree_3 sp)))
def b_is_right_tree_5 (sp : Spec) : B := (.cons (.asgT [4, 5, 6, 7, 8] (.var 0)) (.cons (.asg 9 (.bin .fdiv (.var 1) (.int 2))) (.cons (.ite (.or (.cmp .eq (.var 1) (.int 1)) (.one (.and (.cmp .eq (.idx (.var 5) (.int 0)) (.str "all")) (.and (.cmp .eq (.idx (.var 6) (.int 0)) (.str "all")) (.one (.cmp .eq (.idx (.var 5) (.int 1)) (.idx (.var 6) (.int 1)))))))) (.cons (.ret (.bl false)) .nil) .nil) (b_is_right_tree_4 sp))))
def b_is_right_tree (sp : Spec) : B := (.cons (.ite (.cmp .eq (.idx (.var 0) (.int 0)) (.str "all")) (.cons (.ret (.or (.cmp .eq (.var 2) (.var 1)) (.one (.cmp .eq (.idx (.var 0) (.int 1)) (.var 3))))) .nil) .nil) (b_is_right_tree_5 sp))
theorem w_is_right_tree (n : Nat) : Body n_is_right_tree 4 (b_is_right_tree (sp_is_right_tree n)) (sp_is_right_tree (n + 1)) := by
  rintro ds M k x ⟨t, h, room, above, rfl, hn, h0, h1, hk, hk'⟩
  refine ⟨rfl, ?_⟩
  have hp := sz_pos h
  cases t with
  | all b =>
    simp only [b_is_right_tree, treeD]
    walk_at "wt"
    refine ite_of (fun c => ?_) (fun c => ?_)
    · exact fewer_of (hk ⟨trivial, fun p p1 p2 => by omega⟩)
    · by_cases e : b = above
      · subst e
        rw [decide_eq_true rfl]
        refine fewer_of (hk ⟨trivial, fun p p1 p2 => ?_⟩)
        rw [val_all b h p2]
        cases b <;> rfl
      · rw [decide_eq_false e]
        refine fewer_of (hk' fun z => ?_)
        have := z.2 room (Int.le_refl _) (by omega)
        rw [val_all b h (by omega)] at this
        revert this e
        cases b <;> cases above <;> simp
  | half l r t s =>
    simp only [b_is_right_tree, treeD]
    walk_at "wt"
    simp only [b_is_right_tree_5]
    walk_at "wt"
    refine ite_of (fun c => ?_) (fun c => ?_)
    · have e : h = 0 := by
        cases h with
        | zero => rfl
        | succ h => have := sz_pos h; rw [sz_succ] at c; omega
      subst e
      exact fewer_of (hk' fun z => z.1)
    cases h with
    | zero => exact absurd rfl c
    | succ h =>
      have hz := sz_succ h
      have rest : sameAll l r = false → wpB (b_is_right_tree_4 (sp_is_right_tree n)) [some (treeD (.half l r t s)), some (.int (sz (h + 1))), some (.int room), some (.bl above), some (.str "half"), some (treeD l), some (treeD r), some (.bl t), some (sumsD s), some (.int (sz h)), none, none] M (fun _ M' => fewer k .non M') (fewer k) (fun c _ M' => fewerX x c M') := by
        intro hsa
        have iff := rightOff_half (l := l) (r := r) (t := t) (s := s) (h := h) (room := room) (above := above) h0
        simp only [b_is_right_tree_4]
        walk_at "wt"
        simp only [ne_xor]
        refine ⟨l, h, min room (sz h), above ^^ t, rfl, by omega, by omega, by omega, fun hL => ?_, fun hL => ?_⟩
        rotate_left
        · walk_at "wt"
          exact fewer_of (hk' fun z => hL (iff.mp z).2.1)
        walk_at "wt"
        simp only [b_is_right_tree_3]
        walk_at "wt"
        refine ⟨r, h, max 0 (room - sz h), above ^^ t, rfl, by omega, by omega, by omega, fun hR => ?_, fun hR => ?_⟩
        rotate_left
        · walk_at "wt"
          exact fewer_of (hk' fun z => hR (iff.mp z).2.2.1)
        walk_at "wt"
        simp only [b_is_right_tree_2]
        walk_at "wt"
        refine ⟨l, r, h, rfl, ?_⟩
        have sp := sumsPut_ok hL.1 hR.1
        have last : ∀ due : Sums, due = sumsL (flipL t (putL (lens l h) (lens r h))) → wpB (b_is_right_tree_1 (sp_is_right_tree n)) [some (treeD (.half l r t s)), some (.int (sz (h + 1))), some (.int room), some (.bl above), some (.str "half"), some (treeD l), some (treeD r), some (.bl t), some (sumsD s), some (.int (sz h)), some (.bl (above ^^ t)), some (sumsD due)] M (fun _ M' => fewer k .non M') (fewer k) (fun c _ M' => fewerX x c M') := by
          rintro due rfl
          simp only [b_is_right_tree_1]
          walk_at "wt"
          simp only [vw_sums, sumsF.ok, true_and, and_self, sumsF.dec]
          by_cases e : s = sumsL (flipL t (putL (lens l h) (lens r h)))
          · rw [decide_eq_true e]
            exact fewer_of (hk (iff.mpr ⟨hsa, hL, hR, e⟩))
          · rw [decide_eq_false e]
            exact fewer_of (hk' fun z => e (iff.mp z).2.2.2)
        cases t with
        | true =>
          walk_at "wt"
          refine ⟨sumsPut l r h, h + 1, rfl, ?_⟩
          refine last _ ?_
          rw [sp, sums_flip]
          unfold sumsTurned sumsL
          rw [putL_tot, lens_tot, lens_tot, hz, show sz h + sz h = 2 * sz h by omega]
        | false =>
          walk_at "wt"
          refine last _ ?_
          rw [sp, flipL_false]
      cases l with
      | all a =>
        cases r with
        | all b =>
          by_cases c2 : a = b
          · subst c2
            simp only [treeD]
            walk_at "wt"
            exact fewer_of (hk' (fun z => by have := z.1.1; simp [sameAll] at this))
          · have o := rest (by simp [sameAll, c2])
            simp only [treeD] at o ⊢
            walk_at "wt"
            simpa [c2] using o
        | half a b t s =>
          have o := rest rfl
          simp only [treeD] at o ⊢
          walk_at "wt"
          exact o
      | half a b t s =>
        have o := rest rfl
        simp only [treeD] at o ⊢
        walk_at "wt"
        exact o

def sp_is_right : Spec := fun ds M k x => ∃ (t : Tree) (many : Int), ds = [.tup [.int many, treeD t]] ∧ ((many < 1 ∨ 1000000000000 < many) → k (.bl false) M) ∧ (1 ≤ many → many ≤ 1000000000000 → ∃ h : Nat, SizeOk many h ∧
  (RowR many t h → k (.bl true) M) ∧ (¬ RowR many t h → k (.bl false) M))
theorem rowR_off {many : Int} {t : Tree} {h : Nat} : RowR many t h ↔ RightOff t h many false := by
  unfold RowR RightOff
  simp only [Bool.xor_false]
abbrev n_is_right : List Str := ["row", "many", "tree"]
def b_is_right : B := (.cons (.asgT [1, 2] (.var 0)) (.cons (.ret (.and (.ch2 .le .le (.int 1) (.var 1) (.glb "MOST_SWITCHES" g_MOST_SWITCHES)) (.one (.call "is_right_tree" (sp_is_right_tree 42) (.cons (.var 2) (.cons (.call "size_for" sp_size_for (.cons (.var 1) .nil)) (.cons (.var 1) (.cons (.bl false) .nil)))))))) .nil))
theorem w_is_right : Body n_is_right 1 b_is_right sp_is_right := by
  rintro ds M k x ⟨t, many, rfl, hk0, hk⟩
  refine ⟨rfl, ?_⟩
  simp only [b_is_right, g_MOST_SWITCHES]
  walk_at "wt"
  by_cases c1 : 1 ≤ many
  · by_cases c2 : many ≤ 1000000000000
    · obtain ⟨h, hs, hk1, hk2⟩ := hk c1 c2
      simp only [c1, c2, decide_true, if_true]
      refine ⟨many, rfl, c2, fun h' hs' => ?_⟩
      have e := hs'.one hs
      subst e
      have hle := hs.le c2
      have hs1 := hs.1
      exact ⟨t, h', many, false, rfl, by omega, by omega, by omega, fun z => fewer_of (hk1 (rowR_off.mpr z)), fun z => fewer_of (hk2 fun y => z (rowR_off.mp y))⟩
    · simpa [c1, c2] using fewer_of (hk0 (by omega))
  · simpa [c1] using fewer_of (hk0 (by omega))
def sp_all_off : Spec := fun ds M k x => ∃ many : Int, ds = [.int many] ∧ (1 ≤ many ∧ many ≤ 1000000000000 → k (.tup [.int many, treeD (.all false)]) M) ∧ (¬ (1 ≤ many ∧ many ≤ 1000000000000) → x "NoNumber" M)
abbrev n_all_off : List Str := ["many"]
def b_all_off_1 : B := (.cons (.ret (.tup (.cons (.var 0) (.cons (.tup (.cons (.str "all") (.cons (.bl false) .nil))) .nil)))) .nil)
def b_all_off : B := (.cons (.ite (.not (.ch2 .le .le (.int 1) (.var 0) (.glb "MOST_SWITCHES" g_MOST_SWITCHES))) (.cons (.rais "NoNumber") .nil) .nil) b_all_off_1)
theorem w_all_off : Body n_all_off 1 b_all_off sp_all_off := by
  rintro ds M k x ⟨many, rfl, hk, hx⟩
  refine ⟨rfl, ?_⟩
  simp only [b_all_off, g_MOST_SWITCHES]
  walk_at "wt"
  by_cases c1 : 1 ≤ many
  · by_cases c2 : many ≤ 1000000000000
    · simp only [c1, c2, decide_true, Bool.not_true, Bool.false_eq_true, if_false, if_true, b_all_off_1]
      walk_at "wt"
      exact fewer_of (hk ⟨c1, c2⟩)
    · simpa [c1, c2] using fewerX_of (hx fun z => c2 z.2)
  · simpa [c1] using fewerX_of (hx fun z => c1 z.1)
def sp_done_all : Spec := fun ds M k x => ∃ (t : Tree) (many : Int) (d : D) (l : List Deed), ds = [.tup [.int many, treeD t], d] ∧ vw M d = .lst (l.map deedD) ∧ many ≤ 1000000000000 ∧ (∀ e ∈ l, kOk e.1) ∧
  ((∀ e ∈ l, good many e.2.1 e.2.2) → ∀ h, SizeOk many h → k (.tup [.int many, treeD (doneAll h l t)]) M) ∧ (¬ (∀ e ∈ l, good many e.2.1 e.2.2) → x "NoStretch" M)
abbrev n_done_all : List Str := ["row", "deeds", "many", "tree", "deed", "size"]
def b_done_all_1 : B := (.cons (.ret (.tup (.cons (.var 2) (.cons (.var 3) .nil)))) .nil)
def b_done_all_2 : B := (.cons (.asg 3 (.call "put_on" (sp_put_on 42) (.cons (.var 3) (.cons (.var 5) (.cons (.int 0) (.cons (.var 4) .nil)))))) .nil)
def b_done_all_3 : B := (.cons (.asg 5 (.call "size_for" sp_size_for (.cons (.var 2) .nil))) (.cons (.loop [4] false (.lst (.var 1)) b_done_all_2) b_done_all_1))
def b_done_all_4 : B := (.cons (.exp (.call "need_deed" sp_need_deed (.cons (.var 2) (.cons (.var 4) .nil)))) .nil)
def b_done_all : B := (.cons (.asgT [2, 3] (.var 0)) (.cons (.loop [4] false (.lst (.var 1)) b_done_all_4) b_done_all_3))
theorem w_done_all : Body n_done_all 2 b_done_all sp_done_all := by
  rintro ds M k x ⟨t, many, d, l, rfl, hd, h2, hkk, hk, hx⟩
  refine ⟨rfl, ?_⟩
  simp only [b_done_all]
  walk_at "wt"
  rw [hd]
  walk_at "wt"
  refine floop_go (fun i ρ M' => M' = M ∧ (∀ e ∈ l.take i, good many e.2.1 e.2.2) ∧ ∃ o4 : Option D, ρ = [some (.tup [.int many, treeD t]), some d, some (.int many), some (treeD t), o4, none]) ⟨rfl, (by intro e he; cases he), _, rfl⟩ ?_ ?_
  · rintro i y ρ M' q hy ⟨rfl, hg, o4, rfl⟩ hq
    refine ⟨guard_refl _ _, ?_⟩
    rw [List.getElem?_map] at hy
    cases e : l[i]? with
    | none => rw [e] at hy; cases hy
    | some r =>
      rw [e] at hy
      cases hy
      have e2 : l.take (i + 1) = l.take i ++ [r] := by rw [List.take_succ, e]; rfl
      rw [e2] at hq
      obtain ⟨kind, f, b⟩ := r
      simp only [b_done_all_4]
      walk_at "wt"
      refine ⟨many, f, b, _, rfl, ?_⟩
      by_cases g : good many f b
      · rw [if_pos g]
        refine hq _ _ ⟨rfl, fun e he => ?_, _, rfl⟩
        rcases List.mem_append.mp he with z | z
        · exact hg e z
        · have : e = (kind, f, b) := by simpa using z
          rw [this]
          exact g
      · rw [if_neg g]
        exact fewerX_of (hx fun z => g (z _ (List.mem_of_getElem? e)))
  · rintro ρ M' ⟨rfl, hg, o4, rfl⟩
    refine ⟨guard_refl _ _, ?_⟩
    rw [List.length_map, List.take_length] at hg
    simp only [b_done_all_3]
    walk_at "wt"
    refine ⟨many, rfl, h2, fun h hs => ?_⟩
    have hle := hs.le h2
    walk_at "wt"
    rw [hd]
    walk_at "wt"
    refine floop_go (fun i ρ M1 => M1 = M' ∧ ∃ o4 : Option D, ρ = [some (.tup [.int many, treeD t]), some d, some (.int many), some (treeD (doneAll h (l.take i) t)), o4, some (.int (sz h))]) ⟨rfl, _, rfl⟩ ?_ ?_
    · rintro i y ρ M1 q hy ⟨rfl, o4, rfl⟩ hq
      refine ⟨guard_refl _ _, ?_⟩
      rw [List.getElem?_map] at hy
      cases e : l[i]? with
      | none => rw [e] at hy; cases hy
      | some r =>
        rw [e] at hy
        cases hy
        have e2 : doneAll h (l.take (i + 1)) t = putOn h (doneAll h (l.take i) t) 0 r.1 r.2.1 r.2.2 := by
          unfold doneAll
          rw [List.take_succ, e, Option.toList_some, List.foldl_append]
          rfl
        rw [e2] at hq
        have hr := List.mem_of_getElem? e
        simp only [b_done_all_2]
        walk_at "wt"
        exact ⟨_, h, 0, r.1, r.2.1, r.2.2, rfl, by omega, hkk r hr, (hg r hr).2.1, hq _ _ ⟨rfl, _, rfl⟩⟩
    · rintro ρ M1 ⟨rfl, o4, rfl⟩
      refine ⟨guard_refl _ _, ?_⟩
      simp only [b_done_all_1]
      walk_at "wt"
      rw [List.length_map, List.take_length]
      exact fewer_of (hk hg h hs)
/-! ### rows by their values -/
def dV (e : Deed) (g : Int → Bool) : Int → Bool := fun p => if e.2.1 ≤ p ∧ p < e.2.2 then swk e.1 (g p) else g p
def dVs (l : List Deed) (g : Int → Bool) : Int → Bool := l.foldl (fun g e => dV e g) g
def gd (many : Int) (e : Deed) : Prop := kOk e.1 ∧ good many e.2.1 e.2.2
structure RowV (many : Int) (t : Tree) (h : Nat) (g : Int → Bool) : Prop where
  row : RowR many t h
  vals : ∀ p, 0 ≤ p → p < many → val t h p = g p
theorem RowV.runs {many : Int} {t : Tree} {h : Nat} {g : Int → Bool} {R : List Run} (v : RowV many t h g) (r : IsRuns R many g) : IsRuns R many (val t h) :=
  ⟨r.chain, r.alt, fun p p1 p2 => by rw [r.val p p1 p2, v.vals p p1 p2]⟩
theorem RowV.put {many : Int} {t : Tree} {h : Nat} {g : Int → Bool} {kind : Str} {f b : Int} (hs : SizeOk many h) (v : RowV many t h g) (hg : good many f b) : RowV many (putOn h t 0 kind f b) h (dV (kind, f, b) g) := by
  have := hs.1
  refine ⟨putOn_row hg v.row, fun p p1 p2 => ?_⟩
  rw [putOn_val v.row.1 hg.2.1 p1 (by omega), v.vals p p1 p2, Int.add_zero]
  rfl
theorem RowV.all {many : Int} {h : Nat} : ∀ {l : List Deed} {t : Tree} {g : Int → Bool}, SizeOk many h → RowV many t h g → (∀ e ∈ l, good many e.2.1 e.2.2) → RowV many (doneAll h l t) h (dVs l g)
  | [], _, _, _, v, _ => v
  | e :: l, t, g, hs, v, hg => RowV.all (l := l) (g := dV e g) hs (v.put hs (hg e List.mem_cons_self)) fun d hd => hg d (List.mem_cons_of_mem _ hd)
theorem RowV.down {many : Int} {t : Tree} {h : Nat} {g : Int → Bool} (h1 : 1 ≤ many) (hs : SizeOk many h) (v : RowV many t h g) : RowV many (downT t h) h g := by
  obtain ⟨dr, dv⟩ := downT_right v.row.1
  have := hs.1
  exact ⟨⟨dr, fun p p1 p2 => by rw [dv p (by omega) p2]; exact v.row.2 p p1 p2⟩, fun p p1 p2 => by rw [dv p p1 (by omega)]; exact v.vals p p1 p2⟩
theorem RowV.kept {many : Int} {R : List Run} {h : Nat} {g : Int → Bool} (hs : SizeOk many h) (r : IsRuns R many g) : RowV many (keptT h R (.all false)) h g := by
  obtain ⟨k1, k2⟩ := kept_row hs r.chain r.alt
  exact ⟨k1, fun p p1 p2 => by rw [← k2.val p p1 p2, r.val p p1 p2]⟩
theorem RowV.off {many : Int} {h : Nat} (hs : SizeOk many h) : RowV many (.all false) h fun _ => false := by
  have := hs.1
  exact ⟨⟨trivial, fun p _ p2 => val_all false h p2⟩, fun p _ p2 => val_all false h (by omega)⟩
theorem runs_off {many : Int} (h1 : 1 ≤ many) : IsRuns [(0, many, false)] many fun _ => false :=
  ⟨⟨rfl, by show 0 < many; omega, rfl⟩, ⟨(fun _ hs => nomatch hs), trivial⟩, fun p p1 p2 => by rw [val_cons, if_pos p2]⟩
theorem IsRuns.done {rs R : List Run} {many f b : Int} {kind : Str} {g : Int → Bool} (r : IsRuns rs many g) (d : DoneOk rs R many kind f b) : IsRuns R many (dV (kind, f, b) g) :=
  ⟨d.chain, d.alt, fun p p1 p2 => by rw [d.val p p1 p2, r.val p p1 p2]; rfl⟩
theorem RowV.leaf {many : Int} {t : Tree} {h : Nat} {g : Int → Bool} {R : List Run} (hs : SizeOk many h) (h1 : 1 ≤ many) (hm : many ≤ 1000000000000) (v : RowV many t h g) (r : IsRuns R many g) (hl : R.length ≤ 20000) : (leafR t h 0 false).length ≤ 900000 := by
  have h2 := lens_row hs h1 v.row.2 (v.runs r)
  have h3 := leafR_len (low := 0) (above := false) v.row.1
  have h4 := hs.le hm
  have h5 : h * (lens t h).length ≤ 40 * 20001 := Nat.mul_le_mul h4 (by omega)
  omega
theorem IsRuns.step {many : Int} {R : List Run} {g : Int → Bool} {e : Deed} (r : IsRuns R many g) (hg : good many e.2.1 e.2.2) : ∃ R', IsRuns R' many (dV e g) ∧ R'.length ≤ R.length + 2 := by
  have d := piecesAll_done (kind := e.1) r.chain hg.2.1
  exact ⟨_, r.done d, d.len r.chain hg⟩
theorem IsRuns.steps {many : Int} : ∀ {l : List Deed} {R : List Run} {g : Int → Bool}, IsRuns R many g → (∀ e ∈ l, good many e.2.1 e.2.2) → ∃ R', IsRuns R' many (dVs l g) ∧ R'.length ≤ R.length + 2 * l.length
  | [], R, _, r, _ => ⟨R, r, Nat.le_refl _⟩
  | e :: l, R, g, r, h => by
    obtain ⟨R1, r1, l1⟩ := r.step (h e List.mem_cons_self)
    obtain ⟨R2, r2, l2⟩ := r1.steps fun d hd => h d (List.mem_cons_of_mem _ hd)
    exact ⟨R2, r2, by rw [List.length_cons]; omega⟩
theorem swk_turn (b : Bool) : swk "turn" b = !b := by
  unfold swk
  rw [if_pos rfl]
theorem swk_off (b : Bool) : swk "off" b = false := by
  unfold swk
  rw [if_neg (by decide +kernel)]
  exact decide_eq_false (by decide +kernel)
def Sup (M M' : Mp) : Prop := ∀ y c, M y = some c → M' y = some c
theorem Sup.refl (M : Mp) : Sup M M := fun _ _ h => h
theorem Sup.trans {M M' M'' : Mp} (s : Sup M M') (t : Sup M' M'') : Sup M M'' := fun y c h => t y c (s y c h)
theorem Sup.new {M M' : Mp} {a : Addr} {c : Cell} (s : Sup M M') (h : M' a = none) : Sup M (mset M' a c) := fun y z hy => by
  rw [mset_ne (fun e => by rw [← e, s y z hy] at h; cases h)]
  exact s y z hy
theorem Sup.set {M M' : Mp} {a : Addr} {c : Cell} (s : Sup M M') (h : M a = none) : Sup M (mset M' a c) := fun y z hy => by
  rw [mset_ne (fun e => by rw [← e, hy] at h; cases h)]
  exact s y z hy
theorem Sup.del {M M' : Mp} {a : Addr} (s : Sup M M') (h : M a = none) : Sup M (mdel M' a) := fun y z hy => by
  unfold mdel
  rw [if_neg (fun e => by rw [e, h] at hy; cases hy)]
  exact s y z hy
theorem Sup.none {M M' : Mp} {a : Addr} (s : Sup M M') (h : M' a = none) : M a = none := by
  cases e : M a with
  | none => rfl
  | some c => rw [s a c e] at h; cases h
theorem vw_runs (M : Mp) (R : List Run) : vw M (.lst (R.map runD)) = .lst (R.map runD) := rfl
/-! ### how many of a truth -/
def cntN (g : Int → Bool) (t : Bool) (a : Int) : Nat → Int
  | 0 => 0
  | n + 1 => cntN g t a n + if g (a + n) = t then 1 else 0
def cnt (g : Int → Bool) (t : Bool) (a b : Int) : Int := cntN g t a (b - a).toNat
theorem cnt_emp {g : Int → Bool} {t : Bool} {a b : Int} (h : b ≤ a) : cnt g t a b = 0 := by
  unfold cnt
  rw [show (b - a).toNat = 0 by omega]
  rfl
theorem cnt_snoc {g : Int → Bool} {t : Bool} {a b : Int} (h : a ≤ b) : cnt g t a (b + 1) = cnt g t a b + if g b = t then 1 else 0 := by
  unfold cnt
  rw [show (b + 1 - a).toNat = (b - a).toNat + 1 by omega]
  show cntN g t a (b - a).toNat + (if g (a + ((b - a).toNat : Nat)) = t then 1 else 0) = _
  rw [show a + ((b - a).toNat : Int) = b by omega]
theorem cnt_split {g : Int → Bool} {t : Bool} {a b c : Int} (h1 : a ≤ b) (h2 : b ≤ c) : cnt g t a c = cnt g t a b + cnt g t b c := by
  obtain ⟨n, rfl⟩ : ∃ n : Nat, c = b + n := ⟨(c - b).toNat, by omega⟩
  induction n with
  | zero => rw [show b + ((0 : Nat) : Int) = b by omega, cnt_emp (Int.le_refl b)]; omega
  | succ n ih =>
    rw [show b + ((n + 1 : Nat) : Int) = b + (n : Int) + 1 by omega, cnt_snoc (by omega), cnt_snoc (by omega), ih (by omega)]
    omega
theorem cnt_congr {g g' : Int → Bool} {t : Bool} {a b : Int} (h : ∀ p, a ≤ p → p < b → g p = g' p) : cnt g t a b = cnt g' t a b := by
  by_cases c : b ≤ a
  · rw [cnt_emp c, cnt_emp c]
  · obtain ⟨n, rfl⟩ : ∃ n : Nat, b = a + n := ⟨(b - a).toNat, by omega⟩
    clear c
    induction n with
    | zero => rw [cnt_emp (by omega), cnt_emp (by omega)]
    | succ n ih =>
      rw [show a + ((n + 1 : Nat) : Int) = a + (n : Int) + 1 by omega, cnt_snoc (by omega), cnt_snoc (by omega), ih fun p p1 p2 => h p p1 (by omega), h (a + n) (by omega) (by omega)]
theorem cnt_const {g : Int → Bool} {t u : Bool} {a b : Int} (hab : a ≤ b) (h : ∀ p, a ≤ p → p < b → g p = u) : cnt g t a b = if u = t then b - a else 0 := by
  obtain ⟨n, rfl⟩ : ∃ n : Nat, b = a + n := ⟨(b - a).toNat, by omega⟩
  clear hab
  induction n with
  | zero => rw [cnt_emp (by omega)]; split <;> omega
  | succ n ih =>
    rw [show a + ((n + 1 : Nat) : Int) = a + (n : Int) + 1 by omega, cnt_snoc (by omega), ih fun p p1 p2 => h p p1 (by omega), h (a + n) (by omega) (by omega)]
    split <;> omega
theorem cnt_shift {g : Int → Bool} {t : Bool} {a b : Int} (c : Int) : cnt (fun p => g (p - c)) t a b = cnt g t (a - c) (b - c) := by
  by_cases d : b ≤ a
  · rw [cnt_emp d, cnt_emp (by omega)]
  · obtain ⟨n, rfl⟩ : ∃ n : Nat, b = a + n := ⟨(b - a).toNat, by omega⟩
    clear d
    induction n with
    | zero => rw [cnt_emp (by omega), cnt_emp (by omega)]
    | succ n ih =>
      rw [show a + ((n + 1 : Nat) : Int) = a + (n : Int) + 1 by omega, show a + (n : Int) + 1 - c = a + (n : Int) - c + 1 by omega, cnt_snoc (by omega), cnt_snoc (by omega), ih]
theorem cnt_nn {g : Int → Bool} {t : Bool} {a b : Int} : 0 ≤ cnt g t a b ∧ (a ≤ b → cnt g t a b ≤ b - a) := by
  by_cases d : b ≤ a
  · rw [cnt_emp d]
    exact ⟨Int.le_refl _, fun _ => by omega⟩
  · obtain ⟨n, rfl⟩ : ∃ n : Nat, b = a + n := ⟨(b - a).toNat, by omega⟩
    clear d
    induction n with
    | zero => rw [cnt_emp (by omega)]; exact ⟨Int.le_refl _, fun _ => by omega⟩
    | succ n ih =>
      rw [show a + ((n + 1 : Nat) : Int) = a + (n : Int) + 1 by omega, cnt_snoc (by omega)]
      have := ih.2 (by omega)
      have := ih.1
      split <;> exact ⟨by omega, fun _ => by omega⟩
theorem cnt_not {g : Int → Bool} {t : Bool} {a b : Int} (h : a ≤ b) : cnt g t a b + cnt g (!t) a b = b - a := by
  obtain ⟨n, rfl⟩ : ∃ n : Nat, b = a + n := ⟨(b - a).toNat, by omega⟩
  clear h
  induction n with
  | zero => rw [cnt_emp (by omega), cnt_emp (by omega)]; omega
  | succ n ih =>
    rw [show a + ((n + 1 : Nat) : Int) = a + (n : Int) + 1 by omega, cnt_snoc (by omega), cnt_snoc (by omega)]
    cases g (a + n) <;> cases t <;> simp at ih ⊢ <;> omega
theorem cnt_on : ∀ {L : Lens}, AltL L → onL L = cnt (valL L) true 0 (totL L)
  | [], _ => rfl
  | e :: L, h => by
    have h1 := h.1
    have h2 := (altL_tot h.2.2).1
    have ih := cnt_on h.2.2
    show (if e.2 = true then e.1 else 0) + onL L = cnt (valL (e :: L)) true 0 (e.1 + totL L)
    rw [cnt_split (b := e.1) (by omega) (by omega), cnt_const (u := e.2) (by omega) fun p p1 p2 => by rw [valL_cons, if_pos p2], cnt_congr (g' := fun p => valL L (p - e.1)) fun p p1 p2 => by rw [valL_cons, if_neg (by omega)], cnt_shift, ih, Int.sub_self, show e.1 + totL L - e.1 = totL L by omega]
    split <;> omega
/-- the so-manieth place -/
structure IsNth (g : Int → Bool) (t : Bool) (a b n p : Int) : Prop where
  lo : a ≤ p
  hi : p < b
  is : g p = t
  nr : cnt g t a p = n - 1
theorem IsNth.one {g g' : Int → Bool} {t : Bool} {a b n p q : Int} (h : IsNth g t a b n p) (h' : IsNth g' t a b n q) (e : ∀ p, a ≤ p → p < b → g p = g' p) : p = q := by
  have go : ∀ {g : Int → Bool} {p q : Int}, IsNth g t a b n p → IsNth g t a b n q → ¬ p < q := by
    intro g p q h h' z
    have h1 := cnt_split (g := g) (t := t) (a := a) (b := p + 1) (c := q) (by have := h.lo; omega) (by omega)
    rw [cnt_snoc h.lo, if_pos h.is, h.nr, h'.nr] at h1
    have := (cnt_nn (g := g) (t := t) (a := p + 1) (b := q)).1
    omega
  have h2 : IsNth g t a b n q := ⟨h'.lo, h'.hi, by rw [e q h'.lo h'.hi]; exact h'.is, by
    have := h'.hi
    rw [← h'.nr]
    exact cnt_congr fun p p1 p2 => e p p1 (by omega)⟩
  have := go h h2
  have := go h2 h
  omega
theorem IsNth.le {g : Int → Bool} {t : Bool} {a b n p : Int} (h : IsNth g t a b n p) : n ≤ cnt g t a b ∧ 1 ≤ n := by
  have h1 := cnt_split (g := g) (t := t) (a := a) (b := p + 1) (c := b) (by have := h.lo; omega) (by have := h.hi; omega)
  rw [cnt_snoc h.lo, if_pos h.is, h.nr] at h1
  have := (cnt_nn (g := g) (t := t) (a := p + 1) (b := b)).1
  have h2 := (cnt_nn (g := g) (t := t) (a := a) (b := p)).1
  rw [h.nr] at h2
  omega
/-- a place or None -/
def NthR (g : Int → Bool) (t : Bool) (a b n : Int) (d : D) : Prop := (n ≤ cnt g t a b → ∃ p, IsNth g t a b n p ∧ d = .int p) ∧ (cnt g t a b < n → d = .non)
/-! ### parts of rows -/
def preL (t : Bool) (L : Lens) : Int := if headT L = t then headL L else 0
def sufL (t : Bool) (L : Lens) : Int := if tailT L = t then tailL L else 0
structure Part where
  long : Int
  head : Int
  tail : Int
  most : Int
def partL (t : Bool) (L : Lens) : Part := ⟨totL L, preL t L, sufL t L, maxL t L⟩
def beside (a b : Part) : Part := ⟨a.long + b.long, if a.head = a.long then a.long + b.head else a.head, if b.tail = b.long then b.long + a.tail else b.tail, max (max a.most b.most) (a.tail + b.head)⟩
theorem partL_nil (t : Bool) : partL t [] = ⟨0, 0, 0, 0⟩ := by
  unfold partL preL sufL
  show (⟨0, if false = t then 0 else 0, if false = t then 0 else 0, 0⟩ : Part) = _
  cases t <;> rfl
theorem pre_le {t : Bool} {L : Lens} (h : AltL L) : 0 ≤ preL t L ∧ preL t L ≤ maxL t L ∧ preL t L ≤ totL L := by
  cases L with
  | nil =>
    have e : preL t [] = 0 := by cases t <;> rfl
    rw [e]
    exact ⟨Int.le_refl _, Int.le_refl _, Int.le_refl _⟩
  | cons e L =>
    have h1 := h.1
    have h2 := (altL_tot h.2.2).1
    have h3 := maxL_nn t L
    unfold preL
    rw [maxL_cons]
    show 0 ≤ (if e.2 = t then e.1 else 0) ∧ (if e.2 = t then e.1 else 0) ≤ _ ∧ (if e.2 = t then e.1 else 0) ≤ e.1 + totL L
    split <;> exact ⟨by omega, by omega, by omega⟩
theorem alt_rev_one {A : Lens} {e : Int × Bool} {t : Bool} (h : AltL (A ++ [e])) : preL t (A ++ [e]) = totL (A ++ [e]) ↔ A = [] ∧ e.2 = t := by
  have he : 0 < e.1 := (altL_app.mp h).2.1.1
  rw [totL_app]
  cases A with
  | nil =>
    unfold preL
    show (if e.2 = t then e.1 else 0) = 0 + (e.1 + 0) ↔ _
    constructor
    · intro z
      by_cases c : e.2 = t
      · exact ⟨rfl, c⟩
      · rw [if_neg c] at z; omega
    · rintro ⟨_, c⟩
      rw [if_pos c]
      omega
  | cons a A =>
    have ha : 0 < a.1 := h.1
    have hA := (altL_tot (altL_app.mp h.2.2).1).1
    unfold preL
    show (if a.2 = t then a.1 else 0) = a.1 + totL A + (e.1 + 0) ↔ _
    constructor
    · intro z
      split at z <;> omega
    · rintro ⟨z, _⟩
      cases z
theorem suf_one {d : Int × Bool} {B : Lens} {t : Bool} (h : AltL (d :: B)) : sufL t (d :: B) = totL (d :: B) ↔ B = [] ∧ d.2 = t := by
  have hd : 0 < d.1 := h.1
  have hB := altL_tot h.2.2
  rcases nil_orL B with rfl | ⟨C, c, rfl⟩
  · unfold sufL
    show (if d.2 = t then d.1 else 0) = d.1 + 0 ↔ _
    constructor
    · intro z
      by_cases e : d.2 = t
      · exact ⟨rfl, e⟩
      · rw [if_neg e] at z; omega
    · rintro ⟨_, e⟩
      rw [if_pos e]
      omega
  · have hc := altL_app.mp h.2.2
    have h1 := (altL_tot hc.1).1
    unfold sufL
    rw [show d :: (C ++ [c]) = (d :: C) ++ [c] from rfl, tailL_snoc, tailT_snoc, totL_app]
    show (if c.2 = t then c.1 else 0) = d.1 + totL C + (c.1 + 0) ↔ _
    have hc1 : 0 < c.1 := hc.2.1.1
    constructor
    · intro z
      split at z <;> omega
    · rintro ⟨z, _⟩
      simp at z
theorem suf_le {t : Bool} {L : Lens} (h : AltL L) : 0 ≤ sufL t L ∧ sufL t L ≤ maxL t L := by
  rcases nil_orL L with rfl | ⟨A, e, rfl⟩
  · have e : sufL t [] = 0 := by cases t <;> rfl
    rw [e]
    exact ⟨Int.le_refl _, Int.le_refl _⟩
  · have he := (altL_app.mp h).2.1.1
    have h1 := maxL_nn t A
    unfold sufL
    rw [tailL_snoc, tailT_snoc, maxL_app t A [e] (maxL_nn _ _), maxL_one t e he]
    split <;> exact ⟨by omega, by omega⟩
theorem partL_put {t : Bool} {A B : Lens} (hA : AltL A) (hB : AltL B) : partL t (putL A B) = beside (partL t A) (partL t B) := by
  rcases nil_orL A with rfl | ⟨A, e, rfl⟩
  · rw [partL_nil]
    show partL t B = beside ⟨0, 0, 0, 0⟩ (partL t B)
    obtain ⟨p1, p2, p3⟩ := pre_le (t := t) hB
    obtain ⟨s1, s2⟩ := suf_le (t := t) hB
    have m := maxL_nn t B
    unfold beside partL
    simp only [if_true, Int.zero_add, Int.add_zero]
    congr 1
    · split <;> omega
    · omega
  cases B with
  | nil =>
    rw [partL_nil, putL_nil]
    obtain ⟨p1, p2, p3⟩ := pre_le (t := t) hA
    obtain ⟨s1, s2⟩ := suf_le (t := t) hA
    have m := maxL_nn t (A ++ [e])
    unfold beside partL
    simp only [if_true, Int.zero_add, Int.add_zero]
    congr 1
    · split <;> omega
    · omega
  | cons d B =>
    have he : 0 < e.1 := (altL_app.mp hA).2.1.1
    have hd : 0 < d.1 := hB.1
    have a1 := alt_rev_one (t := t) hA
    have b1 := suf_one (t := t) hB
    obtain ⟨p1, p2, p3⟩ := pre_le (t := t) hA
    obtain ⟨q1, q2, q3⟩ := pre_le (t := t) hB
    obtain ⟨s1, s2⟩ := suf_le (t := t) hA
    obtain ⟨r1, r2⟩ := suf_le (t := t) hB
    have pB : preL t (d :: B) = if d.2 = t then d.1 else 0 := rfl
    have sA : sufL t (A ++ [e]) = if e.2 = t then e.1 else 0 := by unfold sufL; rw [tailL_snoc, tailT_snoc]
    unfold beside partL
    simp only
    rw [putL_tot, putL_max t he hd]
    congr 1
    · -- head
      by_cases c : preL t (A ++ [e]) = totL (A ++ [e])
      · obtain ⟨rfl, c2⟩ := a1.mp c
        rw [if_pos c, pB]
        show preL t (if e.2 = d.2 then (e.1 + d.1, e.2) :: B else e :: d :: B) = e.1 + 0 + _
        by_cases c3 : e.2 = d.2
        · rw [if_pos c3, if_pos (c3.symm.trans c2)]
          show (if e.2 = t then e.1 + d.1 else 0) = _
          rw [if_pos c2]
          omega
        · rw [if_neg c3, if_neg (fun z => c3 (c2.trans z.symm))]
          show (if e.2 = t then e.1 else 0) = _
          rw [if_pos c2]
          omega
      · rw [if_neg c, putL_snoc]
        cases A with
        | nil =>
          have c2 : e.2 ≠ t := fun z => c (a1.mpr ⟨rfl, z⟩)
          have e0 : preL t ([] ++ [e]) = 0 := by show (if e.2 = t then e.1 else 0) = 0; rw [if_neg c2]
          rw [e0]
          by_cases c3 : e.2 = d.2
          · rw [if_pos c3]
            show (if e.2 = t then e.1 + d.1 else 0) = 0
            rw [if_neg c2]
          · rw [if_neg c3]
            show (if e.2 = t then e.1 else 0) = 0
            rw [if_neg c2]
        | cons a A =>
          by_cases c3 : e.2 = d.2
          · rw [if_pos c3]; rfl
          · rw [if_neg c3]; rfl
    · -- tail
      by_cases c : sufL t (d :: B) = totL (d :: B)
      · obtain ⟨rfl, c2⟩ := b1.mp c
        rw [if_pos c, sA, putL_snoc]
        by_cases c3 : e.2 = d.2
        · rw [if_pos c3, if_pos (c3.trans c2)]
          unfold sufL
          rw [tailL_snoc, tailT_snoc, if_pos (c3.trans c2)]
          show e.1 + d.1 = d.1 + 0 + e.1
          omega
        · rw [if_neg c3, if_neg (fun z => c3 (z.trans c2.symm))]
          unfold sufL
          rw [show A ++ [e, d] = (A ++ [e]) ++ [d] by simp, tailL_snoc, tailT_snoc, if_pos c2]
          show d.1 = d.1 + 0 + 0
          omega
      · rw [if_neg c, putL_snoc]
        rcases nil_orL B with rfl | ⟨C, x, rfl⟩
        · have c2 : d.2 ≠ t := fun z => c (b1.mpr ⟨rfl, z⟩)
          have e0 : sufL t [d] = 0 := by show (if d.2 = t then d.1 else 0) = 0; rw [if_neg c2]
          rw [e0]
          by_cases c3 : e.2 = d.2
          · rw [if_pos c3]
            unfold sufL
            rw [tailT_snoc, if_neg (fun z => c2 (c3.symm.trans z))]
          · rw [if_neg c3]
            unfold sufL
            rw [show A ++ [e, d] = (A ++ [e]) ++ [d] by simp, tailT_snoc, if_neg c2]
        · have e1 : sufL t (d :: (C ++ [x])) = if x.2 = t then x.1 else 0 := by
            unfold sufL
            rw [show d :: (C ++ [x]) = (d :: C) ++ [x] from rfl, tailL_snoc, tailT_snoc]
          rw [e1]
          by_cases c3 : e.2 = d.2
          · rw [if_pos c3]
            unfold sufL
            rw [show A ++ (e.1 + d.1, e.2) :: (C ++ [x]) = (A ++ (e.1 + d.1, e.2) :: C) ++ [x] by simp, tailL_snoc, tailT_snoc]
          · rw [if_neg c3]
            unfold sufL
            rw [show A ++ e :: d :: (C ++ [x]) = (A ++ e :: d :: C) ++ [x] by simp, tailL_snoc, tailT_snoc]
    · -- most
      rw [pB] at q2
      rw [sA] at s2
      rw [sA, pB]
      by_cases c3 : e.2 = d.2
      · by_cases c2 : d.2 = t
        · rw [if_pos ⟨c3, c2⟩, if_pos (c3.trans c2), if_pos c2]
        · rw [if_neg (fun z => c2 z.2), if_neg (fun z => c2 (c3.symm.trans z)), if_neg c2]
          have := maxL_nn t (A ++ [e])
          omega
      · rw [if_neg (fun z => c3 z.1)]
        by_cases c2 : d.2 = t
        · rw [if_pos c2] at q2
          rw [if_pos c2, if_neg (fun z => c3 (z.trans c2.symm))]
          omega
        · rw [if_neg c2]
          by_cases c4 : e.2 = t
          · rw [if_pos c4] at s2
            rw [if_pos c4]
            omega
          · rw [if_neg c4]
            have := maxL_nn t (A ++ [e])
            omega
def subL (L : Lens) (f b : Int) : Lens := if f < b then takeL (b - f) (dropL f L) else []
theorem subL_ok {L : Lens} {f b : Int} (hA : AltL L) (h0 : 0 ≤ f) (hb : b ≤ totL L) : AltL (subL L f b) ∧ totL (subL L f b) = max 0 (b - f) ∧ ∀ p, 0 ≤ p → p < b - f → valL (subL L f b) p = valL L (p + f) := by
  unfold subL
  by_cases c : f < b
  · obtain ⟨d1, d2, d3⟩ := dropL_ok (c := f) h0 hA (by omega)
    obtain ⟨t1, t2, _, t4⟩ := takeL_ok (L := dropL f L) (c := b - f) (by omega) d1 (by omega)
    rw [if_pos c]
    exact ⟨t1, by omega, fun p p1 p2 => by rw [t4 p p1 p2, d3 p p1]⟩
  · rw [if_neg c]
    exact ⟨trivial, by show (0 : Int) = _; omega, fun p p1 p2 => by omega⟩
theorem size_ex {many : Int} : ∀ n : Nat, many ≤ sz n → ∃ h, SizeOk many h
  | 0, h => ⟨0, h, .inl rfl⟩
  | n + 1, h => by
    by_cases c : many ≤ sz n
    · exact size_ex n c
    · exact ⟨n + 1, h, .inr (by show sz n < many; omega)⟩
def sp__law_cell_at : Spec := fun ds M k x => ∃ (l : List Int) (i : Int), ds = [.scr (l.map .int), .int i] ∧ 0 ≤ i ∧ ∀ c : Int, k (.int c) M
abbrev n__law_cell_at : List Str := ["script", "k"]
def b__law_cell_at_1 : B := (.cons (.ret (.int 0)) .nil)
def b__law_cell_at : B := (.cons (.ite (.cmp .lt (.var 1) (.blt .len (.cons (.var 0) .nil))) (.cons (.ret (.idx (.var 0) (.var 1))) .nil) .nil) b__law_cell_at_1)
theorem w__law_cell_at : Body n__law_cell_at 2 b__law_cell_at sp__law_cell_at := by
  rintro ds M k x ⟨l, i, rfl, hi, hk⟩
  refine ⟨rfl, ?_⟩
  simp only [b__law_cell_at, b__law_cell_at_1]
  walk_at "wt"
  refine ite_of (fun c => ?_) (fun _ => fewer_of (hk 0))
  obtain ⟨d, hd, e⟩ := atI_some (l := l.map D.int) (i := i) (by omega) c
  obtain ⟨n, _, rfl⟩ := List.mem_map.mp hd
  exact ⟨_, e, fewer_of (hk n)⟩
theorem less_new {M M' : Mp} {a : Addr} {c : Cell} (l : Less M' M) (h : M a = none) : Less M' (mset M a c) := fun b e q => by
  by_cases z : b = a
  · subst z
    rcases l b e q with z | ⟨_, _, _, _, z, _⟩
    · rw [h] at z
      cases z
    · rw [h] at z
      cases z
  · rw [mset_ne z]
    exact l b e q
theorem less_del {M M' : Mp} {a : Addr} (l : Less M' M) (h : M' a = none) : Less M' (mdel M a) := fun b e q => by
  have z : b ≠ a := fun z => by
    rw [z, h] at q
    cases q
  unfold mdel
  rw [if_neg z]
  exact l b e q
/-- a list that was made, given back and forgotten -/
theorem less_back {M M' : Mp} {a : Addr} {c : Cell} (l : Less M' M) (h : M a = none) (h' : M' a = none) : Less M' (mdel (mset M a c) a) := less_del (less_new l h) h'
/-! ### numbers drawn from a cell -/
def sp__law_numbers : Spec := fun ds M k x => ∃ (cell : Int) (n : Nat), ds = [.int cell, .int n] ∧ n ≤ 100 ∧ ∀ l : List Int, l.length = n → (∀ y ∈ l, 0 ≤ y) → k (.lst (l.map .int)) M
abbrev n__law_numbers : List Str := ["cell", "many", "found", "rest", "k", "one"]
def b__law_numbers_1 : B := (.cons (.ret (.frz (.var 2))) .nil)
def b__law_numbers_2 : B := (.cons (.ite (.cmp .ge (.blt .abs (.cons (.var 0) .nil)) (.bin .pow (.int 10) (.int 18))) (.cons (.app 2 (.bin .mod (.var 3) (.int 1009))) (.cons (.asg 3 (.bin .fdiv (.var 3) (.int 1009))) .nil)) (.cons (.asg 5 (.bin .mod (.bin .add (.bin .mod (.var 3) (.int 2147483629)) (.bin .mul (.bin .mul (.int 7919) (.bin .add (.var 4) (.int 1))) (.bin .add (.var 4) (.int 3)))) (.int 2147483629))) (.cons (.asg 5 (.bin .add (.bin .mod (.bin .mul (.var 5) (.var 5)) (.int 2147483587)) (.bin .fdiv (.var 5) (.int 7)))) (.cons (.app 2 (.bin .fdiv (.bin .mod (.bin .mul (.var 5) (.int 48271)) (.int 2147483647)) (.int 16))) .nil)))) .nil)
def b__law_numbers : B := (.cons (.asg 2 (.lst true .nil)) (.cons (.asg 3 (.blt .abs (.cons (.var 0) .nil))) (.cons (.loop [4] false (.r1 (.var 1)) b__law_numbers_2) b__law_numbers_1)))
theorem w__law_numbers : Body n__law_numbers 2 b__law_numbers sp__law_numbers := by
  rintro ds M k x ⟨cell, n, rfl, hn, h⟩
  refine ⟨rfl, ?_⟩
  simp only [b__law_numbers]
  walk_at "wt"
  intro a ha
  refine ⟨⟨by omega, by omega⟩, ?_⟩
  refine floop_go (fun i ρ M' => ∃ (l : List Int) (rest : Int) (o4 o5 : Option D), M' = mset M a (.lst (l.map .int)) ∧ l.length = i ∧ (∀ y ∈ l, 0 ≤ y) ∧ 0 ≤ rest ∧ ρ = [some (.int cell), some (.int (n : Nat)), some (.ref a), some (.int rest), o4, o5]) ⟨[], _, _, _, rfl, rfl, (fun _ h => nomatch h), by omega, rfl⟩ ?_ ?_
  · rintro i y ρ M' q hy ⟨l, rest, o4, o5, rfl, hl, h0, r0, rfl⟩ hq
    refine ⟨trivial, ?_⟩
    obtain ⟨rfl, hi⟩ := get_rangeD hy
    have step : ∀ z : Int, 0 ≤ z → ∀ (rest' : Int) (o4 o5 : Option D), 0 ≤ rest' → isL (mset M a (.lst (l.map .int))) (.ref a) ∧ appD (mset M a (.lst (l.map .int))) (.ref a) [.int z] fun M3 => q [some (.int cell), some (.int (n : Nat)), some (.ref a), some (.int rest'), o4, o5] M3 := by
      intro z hz rest' o4 o5 hr
      rw [isL_ref mset_same]
      refine ⟨trivial, ?_⟩
      rw [app_ref mset_same, mset_mset]
      refine ⟨by rw [List.length_map]; show l.length + 1 ≤ _; omega, ?_⟩
      refine hq _ _ ⟨l ++ [z], rest', _, _, by rw [List.map_append]; rfl, by rw [List.length_append, hl]; rfl, fun y hy => ?_, hr, rfl⟩
      rcases List.mem_append.mp hy with c | c
      · exact h0 y c
      · have e : y = z := by simpa using c
        rw [e]
        exact hz
    simp only [b__law_numbers_2]
    walk_at "wt"
    refine ite_of (fun c => ?_) (fun c => ?_)
    · rw [atV_s (d := .ref a) rfl]
      exact step _ (by omega) _ _ _ (by omega)
    · generalize hz : (rest % 2147483629 + 7919 * (0 + (i : Int) + 1) * (0 + (i : Int) + 3)) % 2147483629 = z
      have z0 : 0 ≤ z ∧ z < 2147483629 := by omega
      refine ⟨.inl ⟨by omega, by omega⟩, .inl ⟨by omega, by omega⟩, ?_⟩
      rw [atV_s (d := .ref a) rfl]
      exact step _ (by omega) _ _ _ r0
  · rintro ρ M' ⟨l, rest, o4, o5, rfl, hl, h0, r0, rfl⟩
    refine ⟨trivial, ?_⟩
    rw [len_rangeD] at hl
    simp only [b__law_numbers_1]
    walk_at "wt"
    rw [mset_same]
    exact fewer_to (less_back (Less.refl M) ha ha) (h l (by omega) h0)
theorem num_at {l : List Int} {i : Int} (h0 : 0 ≤ i) (h1 : i < l.length) (hl : ∀ y ∈ l, 0 ≤ y) : ∃ n : Int, atI (l.map D.int) i = some (.int n) ∧ 0 ≤ n := by
  obtain ⟨d, hd, e⟩ := atI_some (l := l.map D.int) (i := i) (by omega) (by rw [List.length_map]; exact h1)
  obtain ⟨n, hn, rfl⟩ := List.mem_map.mp hd
  exact ⟨n, e, hl n hn⟩
theorem two9 : ∀ n : Nat, n < 9 → 1 ≤ (2 : Int) ^ n ∧ (2 : Int) ^ n ≤ 256 := by decide
theorem two40 : ∀ n : Nat, n < 40 → 1 ≤ (2 : Int) ^ n := by decide
def sp__law_many : Spec := fun ds M k x => ∃ l : List Int, ds = [.lst (l.map .int)] ∧ 3 ≤ l.length ∧ (∀ y ∈ l, 0 ≤ y) ∧ ∀ many : Int, 1 ≤ many → many ≤ 1000000000000 → k (.int many) M
abbrev n__law_many : List Str := ["numbers", "kind"]
def b__law_many_1 : B := (.cons (.ret (.idx (.lst false (.cons (.bin .pow (.int 10) (.int 12)) (.cons (.bin .sub (.bin .sub (.bin .pow (.int 10) (.int 12)) (.int 1)) (.bin .mod (.idx (.var 0) (.int 1)) (.int 1000))) (.cons (.bin .sub (.bin .add (.bin .shl (.int 1) (.int 39)) (.bin .mod (.idx (.var 0) (.int 1)) (.int 3))) (.int 1)) (.cons (.bin .pow (.int 10) (.int 9)) .nil))))) (.bin .mod (.idx (.var 0) (.int 2)) (.int 4)))) .nil)
def b__law_many_2 : B := (.cons (.ite (.cmp .eq (.var 1) (.int 2)) (.cons (.ret (.blt .max2 (.cons (.int 1) (.cons (.bin .add (.bin .sub (.bin .shl (.int 1) (.bin .mod (.idx (.var 0) (.int 1)) (.int 9))) (.int 1)) (.bin .mod (.idx (.var 0) (.int 2)) (.int 3))) .nil)))) .nil) .nil) b__law_many_1)
def b__law_many_3 : B := (.cons (.ite (.cmp .eq (.var 1) (.int 1)) (.cons (.ret (.bin .add (.int 1) (.bin .mod (.idx (.var 0) (.int 1)) (.int 200)))) .nil) .nil) b__law_many_2)
def b__law_many : B := (.cons (.asg 1 (.bin .mod (.idx (.var 0) (.int 0)) (.int 4))) (.cons (.ite (.cmp .eq (.var 1) (.int 0)) (.cons (.ret (.bin .add (.int 1) (.bin .mod (.idx (.var 0) (.int 1)) (.int 12)))) .nil) .nil) b__law_many_3))
theorem w__law_many : Body n__law_many 1 b__law_many sp__law_many := by
  rintro ds M k x ⟨l, rfl, hl, h0, hk⟩
  refine ⟨rfl, ?_⟩
  obtain ⟨x0, e0, p0⟩ := num_at (i := 0) (by omega) (by omega) h0
  obtain ⟨x1, e1, p1⟩ := num_at (i := 1) (by omega) (by omega) h0
  obtain ⟨x2, e2, p2⟩ := num_at (i := 2) (by omega) (by omega) h0
  simp only [b__law_many]
  walk_at "wt"
  refine ⟨_, e0, ?_⟩
  walk_at "wt"
  refine ite_of (fun c => ?_) (fun c => ?_)
  · refine ⟨_, e1, ?_⟩
    walk_at "wt"
    exact fewer_of (hk _ (by omega) (by omega))
  simp only [b__law_many_3]
  walk_at "wt"
  refine ite_of (fun c => ?_) (fun c => ?_)
  · refine ⟨_, e1, ?_⟩
    walk_at "wt"
    exact fewer_of (hk _ (by omega) (by omega))
  simp only [b__law_many_2]
  walk_at "wt"
  refine ite_of (fun c => ?_) (fun c => ?_)
  · refine ⟨_, e1, ?_⟩
    walk_at "wt"
    refine ⟨⟨by omega, by omega, by decide⟩, _, e2, ?_⟩
    walk_at "wt"
    obtain ⟨p3, p4⟩ := two9 (x1 % 9).toNat (by omega)
    generalize (2 : Int) ^ (x1 % 9).toNat = p at p3 p4
    exact fewer_of (hk _ (by omega) (by omega))
  simp only [b__law_many_1]
  walk_at "wt"
  refine ⟨_, e1, ?_⟩
  walk_at "wt"
  refine ⟨by decide, _, e1, ?_⟩
  walk_at "wt"
  refine ⟨_, e2, ?_⟩
  walk_at "wt"
  obtain ⟨d, hd, he⟩ := atI_some (l := [D.int 1000000000000, D.int (1000000000000 - 1 - x1 % 1000), D.int (1 * 549755813888 + x1 % 3 - 1), D.int 1000000000]) (i := x2 % 4) (by omega) (by show x2 % 4 < 4; omega)
  refine ⟨d, he, ?_⟩
  simp only [List.mem_cons, List.not_mem_nil, or_false] at hd
  rcases hd with rfl | rfl | rfl | rfl <;> exact fewer_of (hk _ (by omega) (by omega))
def sp__law_place : Spec := fun ds M k x => ∃ (l : List Int) (many : Int), ds = [.lst (l.map .int), .int many] ∧ 3 ≤ l.length ∧ (∀ y ∈ l, 0 ≤ y) ∧ 1 ≤ many ∧ many ≤ 1000000000000 ∧ ∀ p : Int, 0 ≤ p → p ≤ many → k (.int p) M
abbrev n__law_place : List Str := ["numbers", "many", "kind"]
def b__law_place_1 : B := (.cons (.ret (.bin .mod (.bin .mul (.bin .add (.bin .mul (.idx (.var 0) (.int 1)) (.int 1048573)) (.idx (.var 0) (.int 2))) (.int 32749)) (.bin .add (.var 1) (.int 1)))) .nil)
def b__law_place_2 : B := (.cons (.ite (.cmp .eq (.var 2) (.int 2)) (.cons (.ret (.bin .mod (.bin .mod (.idx (.var 0) (.int 1)) (.int 12)) (.bin .add (.var 1) (.int 1)))) .nil) .nil) b__law_place_1)
def b__law_place_3 : B := (.cons (.ite (.cmp .eq (.var 2) (.int 1)) (.cons (.ret (.blt .min2 (.cons (.var 1) (.cons (.bin .shl (.int 1) (.bin .mod (.idx (.var 0) (.int 1)) (.int 40))) .nil)))) .nil) .nil) b__law_place_2)
def b__law_place : B := (.cons (.asg 2 (.bin .mod (.idx (.var 0) (.int 0)) (.int 5))) (.cons (.ite (.cmp .eq (.var 2) (.int 0)) (.cons (.ret (.idx (.lst false (.cons (.int 0) (.cons (.var 1) (.cons (.bin .fdiv (.var 1) (.int 2)) (.cons (.blt .max2 (.cons (.int 0) (.cons (.bin .sub (.var 1) (.int 1)) .nil))) .nil))))) (.bin .mod (.idx (.var 0) (.int 1)) (.int 4)))) .nil) .nil) b__law_place_3))
theorem w__law_place : Body n__law_place 2 b__law_place sp__law_place := by
  rintro ds M k x ⟨l, many, rfl, hl, h0, m1, m2, hk⟩
  refine ⟨rfl, ?_⟩
  obtain ⟨x0, e0, p0⟩ := num_at (i := 0) (by omega) (by omega) h0
  obtain ⟨x1, e1, p1⟩ := num_at (i := 1) (by omega) (by omega) h0
  obtain ⟨x2, e2, p2⟩ := num_at (i := 2) (by omega) (by omega) h0
  simp only [b__law_place]
  walk_at "wt"
  refine ⟨_, e0, ?_⟩
  walk_at "wt"
  refine ite_of (fun c => ?_) (fun c => ?_)
  · refine ⟨_, e1, ?_⟩
    walk_at "wt"
    obtain ⟨d, hd, he⟩ := atI_some (l := [D.int 0, D.int many, D.int (many / 2), D.int (max 0 (many - 1))]) (i := x1 % 4) (by omega) (by show x1 % 4 < 4; omega)
    refine ⟨d, he, ?_⟩
    simp only [List.mem_cons, List.not_mem_nil, or_false] at hd
    rcases hd with rfl | rfl | rfl | rfl <;> exact fewer_of (hk _ (by omega) (by omega))
  simp only [b__law_place_3]
  walk_at "wt"
  refine ite_of (fun c => ?_) (fun c => ?_)
  · refine ⟨_, e1, ?_⟩
    walk_at "wt"
    refine ⟨⟨by omega, by omega, by decide⟩, ?_⟩
    have p3 := two40 (x1 % 40).toNat (by omega)
    generalize (2 : Int) ^ (x1 % 40).toNat = p at p3
    exact fewer_of (hk _ (by omega) (by omega))
  simp only [b__law_place_2]
  walk_at "wt"
  refine ite_of (fun c => ?_) (fun c => ?_)
  · refine ⟨_, e1, ?_⟩
    walk_at "wt"
    have g0 := Int.emod_nonneg (x1 % 12) (show many + 1 ≠ 0 by omega)
    have g1 := Int.emod_lt_of_pos (x1 % 12) (show 0 < many + 1 by omega)
    exact ⟨by omega, fewer_of (hk _ g0 (by omega))⟩
  simp only [b__law_place_1]
  walk_at "wt"
  refine ⟨_, e1, ?_⟩
  walk_at "wt"
  refine ⟨_, e2, ?_⟩
  walk_at "wt"
  generalize (x1 * 1048573 + x2) * 32749 = z
  have g0 := Int.emod_nonneg z (show many + 1 ≠ 0 by omega)
  have g1 := Int.emod_lt_of_pos z (show 0 < many + 1 by omega)
  exact ⟨by omega, fewer_of (hk _ g0 (by omega))⟩
theorem num_cut {l : List Int} {i j : Int} (h0 : 0 ≤ i) (h1 : i ≤ j) (h2 : j ≤ l.length) (hl : ∀ y ∈ l, 0 ≤ y) : ∃ m : List Int, cutD (l.map D.int) (some i) (some j) = m.map D.int ∧ (m.length : Int) = j - i ∧ ∀ y ∈ m, 0 ≤ y := by
  refine ⟨(l.drop i.toNat).take (j.toNat - i.toNat), ?_, ?_, fun y hy => hl y (List.mem_of_mem_drop (List.mem_of_mem_take hy))⟩
  · rw [cutD_mid h0 (by omega), ← List.map_drop, ← List.map_take]
  · rw [List.length_take, List.length_drop]
    omega
def sp__law_stretch : Spec := fun ds M k x => ∃ (l : List Int) (many : Int), ds = [.lst (l.map .int), .int many] ∧ 6 ≤ l.length ∧ (∀ y ∈ l, 0 ≤ y) ∧ 1 ≤ many ∧ many ≤ 1000000000000 ∧ ∀ f b : Int, good many f b → k (.tup [.int f, .int b]) M
abbrev n__law_stretch : List Str := ["numbers", "many", "one", "other"]
def b__law_stretch_1 : B := (.cons (.ret (.tup (.cons (.blt .min2 (.cons (.var 2) (.cons (.var 3) .nil))) (.cons (.blt .max2 (.cons (.var 2) (.cons (.var 3) .nil))) .nil)))) .nil)
def b__law_stretch : B := (.cons (.asg 2 (.call "_law_place" sp__law_place (.cons (.slc false (.var 0) (.cons (.int 0) .nil) (.cons (.int 3) .nil)) (.cons (.var 1) .nil)))) (.cons (.asg 3 (.call "_law_place" sp__law_place (.cons (.slc false (.var 0) (.cons (.int 3) .nil) (.cons (.int 6) .nil)) (.cons (.var 1) .nil)))) (.cons (.ite (.cmp .eq (.var 2) (.var 3)) (.cons (.asgT [2, 3] (.idx (.lst false (.cons (.tup (.cons (.blt .max2 (.cons (.int 0) (.cons (.bin .sub (.var 2) (.int 1)) .nil))) (.cons (.blt .max2 (.cons (.int 1) (.cons (.var 2) .nil))) .nil))) (.cons (.tup (.cons (.blt .min2 (.cons (.var 2) (.cons (.bin .sub (.var 1) (.int 1)) .nil))) (.cons (.bin .add (.blt .min2 (.cons (.var 2) (.cons (.bin .sub (.var 1) (.int 1)) .nil))) (.int 1)) .nil))) .nil))) (.bin .mod (.idx (.var 0) (.int 0)) (.int 2)))) .nil) .nil) b__law_stretch_1)))
theorem w__law_stretch : Body n__law_stretch 2 b__law_stretch sp__law_stretch := by
  rintro ds M k x ⟨l, many, rfl, hl, h0, m1, m2, hk⟩
  refine ⟨rfl, ?_⟩
  obtain ⟨x0, e0, p0⟩ := num_at (i := 0) (by omega) (by omega) h0
  obtain ⟨u, hu, lu, u0⟩ := num_cut (i := 0) (j := 3) (by decide) (by decide) (by omega) h0
  obtain ⟨v, hv, lv, v0⟩ := num_cut (i := 3) (j := 6) (by decide) (by decide) (by omega) h0
  simp only [b__law_stretch]
  walk_at "wt"
  rw [hu]
  refine ⟨u, many, rfl, by omega, u0, m1, m2, fun one o0 o1 => ?_⟩
  walk_at "wt"
  rw [hv]
  refine ⟨v, many, rfl, by omega, v0, m1, m2, fun other q0 q1 => ?_⟩
  walk_at "wt"
  refine ite_of (fun c => ?_) (fun c => ?_)
  · walk_at "wt"
    refine ⟨_, e0, ?_⟩
    walk_at "wt"
    obtain ⟨d, hd, he⟩ := atI_some (l := [D.tup [.int (max 0 (one - 1)), .int (max 1 one)], D.tup [.int (min one (many - 1)), .int (min one (many - 1) + 1)]]) (i := x0 % 2) (by omega) (by show x0 % 2 < 2; omega)
    obtain ⟨f, b, rfl, g⟩ : ∃ f b : Int, d = .tup [.int f, .int b] ∧ good many f b := by
      simp only [List.mem_cons, List.not_mem_nil, or_false] at hd
      rcases hd with rfl | rfl
      · exact ⟨_, _, rfl, by omega, by omega, by omega⟩
      · exact ⟨_, _, rfl, by omega, by omega, by omega⟩
    refine ⟨_, he, ?_⟩
    walk_at "wt"
    simp only [b__law_stretch_1]
    walk_at "wt"
    obtain ⟨g1, g2, g3⟩ := g
    exact fewer_of (hk _ _ ⟨by omega, by omega, by omega⟩)
  · simp only [b__law_stretch_1]
    walk_at "wt"
    exact fewer_of (hk _ _ ⟨by omega, by omega, by omega⟩)
def sp__law_deed : Spec := fun ds M k x => ∃ (l : List Int) (many : Int), ds = [.lst (l.map .int), .int many] ∧ 7 ≤ l.length ∧ (∀ y ∈ l, 0 ≤ y) ∧ 1 ≤ many ∧ many ≤ 1000000000000 ∧ ∀ (kind : Str) (f b : Int), kOk kind → good many f b → k (deedD (kind, f, b)) M
abbrev n__law_deed : List Str := ["numbers", "many", "first", "beyond"]
def b__law_deed : B := (.cons (.asgT [2, 3] (.call "_law_stretch" sp__law_stretch (.cons (.slc false (.var 0) (.cons (.int 1) .nil) (.cons (.int 7) .nil)) (.cons (.var 1) .nil)))) (.cons (.ret (.tup (.cons (.idx (.lst false (.cons (.str "turn") (.cons (.str "turn") (.cons (.str "on") (.cons (.str "off") .nil))))) (.bin .mod (.idx (.var 0) (.int 0)) (.int 4))) (.cons (.var 2) (.cons (.var 3) .nil))))) .nil))
theorem w__law_deed : Body n__law_deed 2 b__law_deed sp__law_deed := by
  rintro ds M k x ⟨l, many, rfl, hl, h0, m1, m2, hk⟩
  refine ⟨rfl, ?_⟩
  obtain ⟨x0, e0, p0⟩ := num_at (i := 0) (by omega) (by omega) h0
  obtain ⟨u, hu, lu, u0⟩ := num_cut (i := 1) (j := 7) (by decide) (by decide) (by omega) h0
  simp only [b__law_deed]
  walk_at "wt"
  rw [hu]
  refine ⟨u, many, rfl, by omega, u0, m1, m2, fun f b g => ?_⟩
  walk_at "wt"
  refine ⟨_, e0, ?_⟩
  walk_at "wt"
  obtain ⟨d, hd, he⟩ := atI_some (l := [D.str "turn", D.str "turn", D.str "on", D.str "off"]) (i := x0 % 4) (by omega) (by show x0 % 4 < 4; omega)
  refine ⟨_, he, ?_⟩
  walk_at "wt"
  simp only [List.mem_cons, List.not_mem_nil, or_false] at hd
  rcases hd with rfl | rfl | rfl | rfl
  · exact fewer_of (hk _ _ _ (.inl rfl) g)
  · exact fewer_of (hk _ _ _ (.inl rfl) g)
  · exact fewer_of (hk _ _ _ (.inr (.inl rfl)) g)
  · exact fewer_of (hk _ _ _ (.inr (.inr rfl)) g)
/-! ### runs between marks -/
def runsAt (g : Int → Bool) : List Int → List Run
  | a :: b :: l => (a, b, g a) :: runsAt g (b :: l)
  | _ => []
theorem runsAt_cons (g : Int → Bool) (a b : Int) (l : List Int) : runsAt g (a :: b :: l) = (a, b, g a) :: runsAt g (b :: l) := rfl
theorem runsAt_map (g : Int → Bool) : ∀ m : List Int, (List.range (m.length - 1)).map (fun k => (m.getD k 0, m.getD (k + 1) 0, g (m.getD k 0))) = runsAt g m
  | [] => rfl
  | [_] => rfl
  | a :: b :: l => by
    rw [runsAt_cons, ← runsAt_map g (b :: l)]
    show List.map _ (List.range (l.length + 1)) = _
    rw [List.range_succ_eq_map, List.map_cons, List.map_map]
    rfl
theorem runsAt_len (g : Int → Bool) : ∀ m : List Int, (runsAt g m).length = m.length - 1
  | [] => rfl
  | [_] => rfl
  | a :: b :: l => by
    rw [runsAt_cons, List.length_cons, runsAt_len g (b :: l)]
    rfl
theorem getD_ok {l : List Int} {k : Nat} (h : k < l.length) : l[k]? = some (l.getD k 0) := by
  rw [List.getD_eq_getElem?_getD, List.getElem?_eq_getElem h]
  rfl
theorem edge_pieces {lo hi f b : Int} {t u : Bool} (h1 : lo < hi) (h2 : f < b) : runsAt (fun x => if f ≤ x ∧ x < b then u else t) ([lo] ++ ([f, b].filter fun p => decide (lo < p) && decide (p < hi)) ++ [hi]) = pieces f b u (lo, hi, t) := by
  have ext : ∀ x y x' y' : Int, ∀ s s' : Bool, x = x' → y = y' → s = s' → ((x, y, s) : Run) = (x', y', s') := fun _ _ _ _ _ _ h1 h2 h3 => by rw [h1, h2, h3]
  by_cases cf : lo < f ∧ f < hi
  · by_cases cb : lo < b ∧ b < hi
    · have e1 : ([f, b].filter fun p => decide (lo < p) && decide (p < hi)) = [f, b] := by simp [cf, cb]
      have e2 : pieces f b u (lo, hi, t) = [(lo, min hi f, t), (max lo f, min hi b, u), (max lo b, hi, t)] := by
        unfold pieces
        rw [List.filter_cons, if_pos (by simp; omega), List.filter_cons, if_pos (by simp; omega), List.filter_cons, if_pos (by simp; omega)]
        rfl
      rw [e1, e2]
      show [(lo, f, (if f ≤ lo ∧ lo < b then u else t)), (f, b, (if f ≤ f ∧ f < b then u else t)), (b, hi, (if f ≤ b ∧ b < b then u else t))] = _
      rw [if_neg (show ¬ (f ≤ lo ∧ lo < b) by omega), if_pos (show f ≤ f ∧ f < b by omega), if_neg (show ¬ (f ≤ b ∧ b < b) by omega), ext lo f lo (min hi f) t t rfl (by omega) rfl, ext f b (max lo f) (min hi b) u u (by omega) (by omega) rfl, ext b hi (max lo b) hi t t (by omega) rfl rfl]
    · have e1 : ([f, b].filter fun p => decide (lo < p) && decide (p < hi)) = [f] := by
        rw [List.filter_cons, if_pos (by simp [cf]), List.filter_cons, if_neg (by simpa using cb)]
        rfl
      have e2 : pieces f b u (lo, hi, t) = [(lo, min hi f, t), (max lo f, min hi b, u)] := by
        unfold pieces
        rw [List.filter_cons, if_pos (by simp; omega), List.filter_cons, if_pos (by simp; omega), List.filter_cons, if_neg (by simp; omega)]
        rfl
      rw [e1, e2]
      show [(lo, f, (if f ≤ lo ∧ lo < b then u else t)), (f, hi, (if f ≤ f ∧ f < b then u else t))] = _
      rw [if_neg (show ¬ (f ≤ lo ∧ lo < b) by omega), if_pos (show f ≤ f ∧ f < b by omega), ext lo f lo (min hi f) t t rfl (by omega) rfl, ext f hi (max lo f) (min hi b) u u (by omega) (by omega) rfl]
  · by_cases cb : lo < b ∧ b < hi
    · have e1 : ([f, b].filter fun p => decide (lo < p) && decide (p < hi)) = [b] := by
        rw [List.filter_cons, if_neg (by simpa using cf), List.filter_cons, if_pos (by simp [cb])]
        rfl
      have e2 : pieces f b u (lo, hi, t) = [(max lo f, min hi b, u), (max lo b, hi, t)] := by
        unfold pieces
        rw [List.filter_cons, if_neg (by simp; omega), List.filter_cons, if_pos (by simp; omega), List.filter_cons, if_pos (by simp; omega)]
        rfl
      rw [e1, e2]
      show [(lo, b, (if f ≤ lo ∧ lo < b then u else t)), (b, hi, (if f ≤ b ∧ b < b then u else t))] = _
      rw [if_pos (show f ≤ lo ∧ lo < b by omega), if_neg (show ¬ (f ≤ b ∧ b < b) by omega), ext lo b (max lo f) (min hi b) u u (by omega) (by omega) rfl, ext b hi (max lo b) hi t t (by omega) rfl rfl]
    · have e1 : ([f, b].filter fun p => decide (lo < p) && decide (p < hi)) = [] := by
        rw [List.filter_cons, if_neg (by simpa using cf), List.filter_cons, if_neg (by simpa using cb)]
        rfl
      rw [e1]
      show [(lo, hi, (if f ≤ lo ∧ lo < b then u else t))] = _
      by_cases c1 : f ≤ lo ∧ lo < b
      · have e2 : pieces f b u (lo, hi, t) = [(max lo f, min hi b, u)] := by
          unfold pieces
          rw [List.filter_cons, if_neg (by simp; omega), List.filter_cons, if_pos (by simp; omega), List.filter_cons, if_neg (by simp; omega)]
          rfl
        rw [e2, if_pos c1, ext lo hi (max lo f) (min hi b) u u (by omega) (by omega) rfl]
      · rw [if_neg c1]
        by_cases c2 : hi ≤ f
        · have e2 : pieces f b u (lo, hi, t) = [(lo, min hi f, t)] := by
            unfold pieces
            rw [List.filter_cons, if_pos (by simp; omega), List.filter_cons, if_neg (by simp; omega), List.filter_cons, if_neg (by simp; omega)]
            rfl
          rw [e2, ext lo hi lo (min hi f) t t rfl (by omega) rfl]
        · have e2 : pieces f b u (lo, hi, t) = [(max lo b, hi, t)] := by
            unfold pieces
            rw [List.filter_cons, if_neg (by simp; omega), List.filter_cons, if_neg (by simp; omega), List.filter_cons, if_pos (by simp; omega)]
            rfl
          rw [e2, ext lo hi (max lo b) hi t t (by omega) rfl rfl]
def sp__law_done : Spec := fun ds M k x => ∃ (rs : List Run) (many f b : Int) (kind : Str), ds = [.lst (rs.map runD), .tup [.str kind, .int f, .int b]] ∧ rs.length ≤ 200000 ∧ Chain 0 many rs ∧ kOk kind ∧ good many f b ∧
  ∀ R, DoneOk rs R many kind f b → R.length ≤ rs.length + 2 → k (.lst (R.map runD)) M
theorem chain_get : ∀ {rs : List Run} {a c : Int} {i : Nat} {r : Run}, Chain a c rs → rs[i]? = some r → r.1 < r.2.1
  | s :: rs, a, c, 0, r, h, e => by
    cases e
    have := h.1
    have := h.2.1
    omega
  | s :: rs, a, c, i + 1, r, h, e => chain_get h.2.2 (by simpa using e)
abbrev n__law_done : List Str := ["runs", "deed", "found", "first", "beyond", "truth", "edges", "k", "now", "place"]
def b__law_done_1 : B := (.cons (.ret (.frz (.var 2))) .nil)
def b__law_done_2 : B := (.cons (.ite (.and (.cmp .ne (.var 2) (.lst false .nil)) (.one (.cmp .eq (.idx (.idx (.var 2) (.un .neg (.int 1))) (.int 2)) (.var 8)))) (.cons (.setI 2 (.un .neg (.int 1)) (.tup (.cons (.idx (.idx (.var 2) (.un .neg (.int 1))) (.int 0)) (.cons (.idx (.var 6) (.bin .add (.var 7) (.int 1))) (.cons (.var 8) .nil))))) .nil) (.cons (.app 2 (.tup (.cons (.idx (.var 6) (.var 7)) (.cons (.idx (.var 6) (.bin .add (.var 7) (.int 1))) (.cons (.var 8) .nil))))) .nil)) .nil)
def b__law_done_3 : B := (.cons (.asg 8 (.var 5)) (.cons (.ite (.ch2 .le .lt (.idx (.var 1) (.int 1)) (.idx (.var 6) (.var 7)) (.idx (.var 1) (.int 2))) (.cons (.asg 8 (.dsp [.inr "turn", .inr "on", .inr "off"] (.cons (.not (.var 5)) (.cons (.bl true) (.cons (.bl false) .nil))) (.idx (.var 1) (.int 0)))) .nil) .nil) b__law_done_2))
def b__law_done_4 : B := (.cons (.asg 6 (.cat false (.cat false (.lst false (.cons (.var 3) .nil)) (.comp false [("place", 9)] [9] false (.lst (.lst false (.cons (.idx (.var 1) (.int 1)) (.cons (.idx (.var 1) (.int 2)) .nil)))) (.cons (.ch2 .lt .lt (.var 3) (.var 9) (.var 4)) .nil) (.var 9))) (.lst false (.cons (.var 4) .nil)))) (.cons (.loop [7] false (.r1 (.bin .sub (.blt .len (.cons (.var 6) .nil)) (.int 1))) b__law_done_3) .nil))
def b__law_done : B := (.cons (.asg 2 (.lst true .nil)) (.cons (.loop [3, 4, 5] true (.lst (.var 0)) b__law_done_4) b__law_done_1))
theorem w__law_done : Body n__law_done 2 b__law_done sp__law_done := by
  rintro ds M k x ⟨rs, many, f, b, kind, rfl, hl, hc, hk, g, h⟩
  refine ⟨rfl, ?_⟩
  simp only [b__law_done]
  walk_at "wt"
  intro a ha
  refine floop_go (fun i ρ M' => M' = mset M a (.lst ((joinR (piecesAll kind f b (rs.take i))).map runD)) ∧ ∃ o3 o4 o5 o6 o7 o8 o9 : Option D, ρ = [some (.lst (rs.map runD)), some (.tup [.str kind, .int f, .int b]), some (.ref a), o3, o4, o5, o6, o7, o8, o9]) ⟨rfl, _, _, _, _, _, _, _, rfl⟩ ?_ ?_
  · rintro i y ρ M' q hy ⟨rfl, o3, o4, o5, o6, o7, o8, o9, rfl⟩ hq
    refine ⟨trivial, ?_⟩
    rw [List.getElem?_map] at hy
    cases e : rs[i]? with
    | none => rw [e] at hy; cases hy
    | some r =>
      rw [e] at hy
      cases hy
      have hi : i < rs.length := (List.getElem?_eq_some_iff.mp e).1
      have e2 : piecesAll kind f b (rs.take (i + 1)) = piecesAll kind f b (rs.take i) ++ pieces f b (swk kind r.2.2) r := by
        unfold piecesAll
        rw [List.take_succ, e, Option.toList_some, List.flatMap_append]
        simp
      have hlen : (joinR (piecesAll kind f b (rs.take i))).length ≤ 600000 := by
        have := piecesAll_len kind f b (rs.take i)
        have h2 : (rs.take i).length ≤ rs.length := by rw [List.length_take]; omega
        have h3 := join_len0 (piecesAll kind f b (rs.take i))
        omega
      have e3 : joinR (piecesAll kind f b (rs.take (i + 1))) = (pieces f b (swk kind r.2.2) r).foldl joinStep (joinR (piecesAll kind f b (rs.take i))) := by
        rw [e2]
        unfold joinR
        rw [List.foldl_append]
      rw [e3] at hq
      have hlt := chain_get hc e
      generalize joinR (piecesAll kind f b (rs.take i)) = acc at hq hlen
      obtain ⟨lo, hi, t⟩ := r
      rw [← edge_pieces hlt g.2.1] at hq
      simp only [runD]
      walk_at "wt"
      simp only [b__law_done_4]
      walk_at "wt"
      refine turns_fil (e := D.int) (p := fun p => decide (lo < p) && decide (p < hi)) (f := D.int) trivial [f, b] (fun p _ q' hq' => ?_) ?_
      · walk_at "wt"
        by_cases c1 : lo < p
        · by_cases c2 : p < hi
          · simpa [c1, c2] using hq'
          · simpa [c1, c2] using hq'
        · simpa [c1] using hq'
      have fl := List.length_filter_le (fun p => decide (lo < p) && decide (p < hi)) [f, b]
      have f2 : ([f, b] : List Int).length = 2 := rfl
      obtain ⟨E, hE⟩ : ∃ E, E = [lo] ++ ([f, b].filter fun p => decide (lo < p) && decide (p < hi)) ++ [hi] := ⟨_, rfl⟩
      have eE : D.int lo :: (([f, b].filter fun p => decide (lo < p) && decide (p < hi)).map D.int ++ [D.int hi]) = E.map D.int := by rw [hE]; simp
      have lE : E.length = ([f, b].filter fun p => decide (lo < p) && decide (p < hi)).length + 2 := by rw [hE]; simp
      rw [← hE] at hq
      rw [eE, List.length_append, List.length_map]
      clear eE hE
      generalize ([f, b].filter fun p => decide (lo < p) && decide (p < hi)).length = nf at fl lE
      refine ⟨by omega, by omega, ⟨by simp; omega, by simp; omega⟩, ?_⟩
      obtain ⟨gg, hgg⟩ : ∃ gg : Int → Bool, gg = fun x => if f ≤ x ∧ x < b then swk kind t else t := ⟨_, rfl⟩
      have hq : ∀ (ρ' : Env) (M' : Mp), (M' = mset M a (.lst (((runsAt gg E).foldl joinStep acc).map runD)) ∧ ∃ o3 o4 o5 o6 o7 o8 o9 : Option D, ρ' = [some (.lst (rs.map runD)), some (.tup [.str kind, .int f, .int b]), some (.ref a), o3, o4, o5, o6, o7, o8, o9]) → q ρ' M' := by
        rw [hgg]
        exact hq
      have gv : ∀ x, gg x = if f ≤ x ∧ x < b then swk kind t else t := fun x => by rw [hgg]
      clear hgg
      have rl := runsAt_len gg E
      have rlen : (rangeD 0 (((nf + [D.int hi].length + 1 : Nat) : Int) - 1)).length = E.length - 1 := by rw [len_rangeD, lE]; simp
      refine floop_go (fun j ρ M' => M' = mset M a (.lst ((((runsAt gg E).take j).foldl joinStep acc).map runD)) ∧ ∃ o7 o8 o9 : Option D, ρ = [some (.lst (rs.map runD)), some (.tup [.str kind, .int f, .int b]), some (.ref a), some (.int lo), some (.int hi), some (.bl t), some (.lst (E.map .int)), o7, o8, o9]) ⟨rfl, _, _, _, rfl⟩ ?_ ?_
      · rintro j y ρ M' q' hy ⟨rfl, o7, o8, o9, rfl⟩ hq'
        refine ⟨trivial, ?_⟩
        have hj := (List.getElem?_eq_some_iff.mp hy).1
        rw [rlen] at hj
        obtain ⟨rfl, _⟩ := get_rangeD hy
        have ej : (runsAt gg E)[j]? = some (E.getD j 0, E.getD (j + 1) 0, gg (E.getD j 0)) := by
          rw [← runsAt_map, List.getElem?_map, List.getElem?_range hj]
          rfl
        rw [List.take_succ, ej, Option.toList_some, List.foldl_append] at hq'
        have hlen2 : (((runsAt gg E).take j).foldl joinStep acc).length ≤ 700000 := by
          have h1 := fold_len ((runsAt gg E).take j) acc
          rw [List.length_take] at h1
          omega
        generalize ((runsAt gg E).take j).foldl joinStep acc = acc2 at hq' hlen2
        have g1 : E[j]? = some (E.getD j 0) := getD_ok (by omega)
        have g2 : E[j + 1]? = some (E.getD (j + 1) 0) := getD_ok (by omega)
        have gvj := gv (E.getD j 0)
        generalize E.getD j 0 = x1 at hq' g1 gvj
        generalize E.getD (j + 1) 0 = x2 at hq' g2
        have a1 : atI (E.map D.int) (0 + (j : Nat)) = some (.int x1) := atI_map (by omega) (by rw [show (0 + (j : Int)).toNat = j by omega]; exact g1)
        have a2 : atI (E.map D.int) (0 + (j : Nat) + 1) = some (.int x2) := atI_map (by omega) (by rw [show (0 + (j : Int) + 1).toNat = j + 1 by omega]; exact g2)
        have fin : ∀ (now : Bool) (o9 : Option D), gg x1 = now → wpB b__law_done_2 [some (.lst (rs.map runD)), some (.tup [.str kind, .int f, .int b]), some (.ref a), some (.int lo), some (.int hi), some (.bl t), some (.lst (E.map .int)), some (.int (0 + (j : Nat))), some (.bl now), o9] (mset M a (.lst (acc2.map runD))) q' (fewer k) (fun c _ M' => fewerX x c M') := by
          intro now o9 hnow
          have hq' : ∀ (ρ' : Env) (M' : Mp), (M' = mset M a (.lst ((joinStep acc2 (x1, x2, now)).map runD)) ∧ ∃ o7 o8 o9 : Option D, ρ' = [some (.lst (rs.map runD)), some (.tup [.str kind, .int f, .int b]), some (.ref a), some (.int lo), some (.int hi), some (.bl t), some (.lst (E.map .int)), o7, o8, o9]) → q' ρ' M' := by
            rw [← hnow]
            exact hq'
          simp only [b__law_done_2]
          walk_at "wt"
          rw [vw_lst mset_same]
          rcases nil_or acc2 with rfl | ⟨A, z, rfl⟩
          · simp only [List.map_nil, eqok_nil, eqv_nil0, Bool.not_true, Bool.false_eq_true, if_false, true_and]
            rw [atV_s (d := .ref a) rfl, isL_ref mset_same]
            walk_at "wt"
            refine ⟨_, a1, _, a2, ?_⟩
            rw [app_ref mset_same, mset_mset]
            exact ⟨by simp, hq' _ _ ⟨rfl, _, _, _, rfl⟩⟩
          · rw [join_snoc] at hq'
            have ne : (D.lst (List.map runD (A ++ [z]))).eqv (D.lst []) = false := by
              rw [eqv_emp]
              cases A <;> rfl
            simp only [runs_ok, ne, Bool.not_false, if_true, true_and]
            rw [ixP_ref mset_same, List.map_append]
            refine ⟨runD z, atI_last _ _, ?_⟩
            simp only [runD]
            walk_at "wt"
            refine ite_of (fun c => ?_) (fun c => ?_)
            · rw [if_pos (show z.2.2 = now by simpa using c)] at hq'
              rw [ixP_ref mset_same]
              refine ⟨runD z, atI_last _ _, ?_⟩
              simp only [runD]
              walk_at "wt"
              refine ⟨_, a2, ?_⟩
              rw [atV_s (d := .ref a) rfl]
              walk_at "wt"
              rw [set_ref mset_same]
              refine ⟨_, ixN_last (List.map runD A) (runD z), ?_⟩
              rw [show (List.map runD A ++ [D.tup [D.int z.1, D.int z.2.1, D.bl z.2.2]]).set (List.map runD A).length (D.tup [D.int z.1, D.int x2, D.bl now]) = List.map runD (A ++ [(z.1, x2, now)]) from (set_last (List.map runD A) _ _).trans (by rw [List.map_append]; rfl), mset_mset]
              exact hq' _ _ ⟨rfl, _, _, _, rfl⟩
            · rw [if_neg (show ¬ z.2.2 = now by simpa using c)] at hq'
              rw [atV_s (d := .ref a) rfl, isL_ref mset_same]
              walk_at "wt"
              refine ⟨_, a1, _, a2, ?_⟩
              rw [app_ref mset_same, mset_mset]
              refine ⟨?_, ?_⟩
              · rw [List.length_append, List.length_map] at *
                simp only [List.length_cons, List.length_nil] at *
                omega
              · have z2 := hq' _ _ ⟨rfl, some (D.int (0 + (j : Nat))), some (D.bl now), o9, rfl⟩
                rw [List.map_append, List.map_append] at z2
                exact z2
        simp only [b__law_done_3]
        walk_at "wt"
        refine ⟨_, a1, ?_⟩
        walk_at "wt"
        refine ite_of (fun c => ite_of (fun c2 => ?_) (fun c2 => ?_)) (fun c => ?_)
        · exact ⟨.bl (swk kind t), by rcases hk with rfl | rfl | rfl <;> cases t <;> kernel_rfl, fin _ _ (by rw [gvj, if_pos ⟨c, c2⟩])⟩
        · exact fin _ _ (by rw [gvj, if_neg (by omega)])
        · exact fin _ _ (by rw [gvj, if_neg (by omega)])
      · rintro ρ M' ⟨rfl, o7, o8, o9, rfl⟩
        refine ⟨trivial, ?_⟩
        rw [rlen, List.take_of_length_le (by omega)]
        exact hq _ _ ⟨rfl, _, _, _, _, _, _, _, rfl⟩
  · rintro ρ M' ⟨rfl, o3, o4, o5, o6, o7, o8, o9, rfl⟩
    refine ⟨trivial, ?_⟩
    simp only [b__law_done_1]
    walk_at "wt"
    rw [mset_same, List.length_map, List.take_length]
    have ok := piecesAll_done (kind := kind) hc g.2.1
    exact fewer_to (less_back (Less.refl M) ha ha) (h _ ok (ok.len hc g))
/-! ### bits of whole numbers -/
def tb (x : Int) (n : Nat) : Bool := decide (x / 2 ^ n % 2 = 1)
theorem tb_zero (x : Int) : tb x 0 = decide (x % 2 = 1) := by
  unfold tb
  rw [show (2 : Int) ^ 0 = 1 from rfl, Int.ediv_one]
theorem tb_succ (x : Int) (n : Nat) : tb x (n + 1) = tb (x / 2) n := by
  unfold tb
  rw [Int.pow_succ, Int.mul_comm, Int.ediv_ediv_of_nonneg (by decide)]
theorem tb_not (n : Nat) : ∀ x : Int, tb (-x - 1) n = !tb x n := by
  induction n with
  | zero =>
    intro x
    rw [tb_zero, tb_zero]
    by_cases h : x % 2 = 1
    · rw [decide_eq_true h, decide_eq_false (by omega)]; rfl
    · rw [decide_eq_false h, decide_eq_true (by omega)]; rfl
  | succ n ih =>
    intro x
    rw [tb_succ, tb_succ, ← ih, show (-x - 1) / 2 = -(x / 2) - 1 by omega]
theorem tb_ext : ∀ (n : Nat) {x y : Int}, 0 ≤ x → x < 2 ^ n → 0 ≤ y → y < 2 ^ n → (∀ k, k < n → tb x k = tb y k) → x = y
  | 0, x, y, h1, h2, h3, h4, _ => by
    have h2 : x < 1 := h2
    have h4 : y < 1 := h4
    omega
  | n + 1, x, y, h1, h2, h3, h4, h => by
    rw [Int.pow_succ] at h2 h4
    have ih := tb_ext n (x := x / 2) (y := y / 2) (by omega) (by omega) (by omega) (by omega) fun k hk => by
      rw [← tb_succ, ← tb_succ]; exact h (k + 1) (by omega)
    have h0 := h 0 (by omega)
    rw [tb_zero, tb_zero] at h0
    have h0 := decide_eq_decide.mp h0
    omega
theorem tb_mask (b f : Nat) (h : f ≤ b) : ∀ n, tb (2 ^ b - 2 ^ f) n = decide (f ≤ n ∧ n < b) := by
  intro n
  induction n generalizing b f with
  | zero =>
    rw [tb_zero]
    cases f with
    | zero =>
      cases b with
      | zero => rfl
      | succ b =>
        rw [Int.pow_succ]
        simp only [Int.pow_zero]
        rw [decide_eq_decide]
        omega
    | succ f =>
      cases b with
      | zero => omega
      | succ b =>
        rw [Int.pow_succ, Int.pow_succ, decide_eq_decide]
        omega
  | succ n ih =>
    rw [tb_succ]
    cases b with
    | zero =>
      have : f = 0 := by omega
      subst this
      simp [tb]
    | succ b =>
      cases f with
      | zero =>
        have e : ((2 : Int) ^ (b + 1) - 2 ^ 0) / 2 = 2 ^ b - 2 ^ 0 := by
          rw [Int.pow_succ]
          simp only [Int.pow_zero]
          omega
        rw [e, ih b 0 (by omega), decide_eq_decide]
        omega
      | succ f =>
        have e : ((2 : Int) ^ (b + 1) - 2 ^ (f + 1)) / 2 = 2 ^ b - 2 ^ f := by
          rw [Int.pow_succ, Int.pow_succ]
          omega
        rw [e, ih b f (by omega), decide_eq_decide]
        omega
theorem tb_and (n : Nat) : ∀ x y : Int, tb (Builtin.bitAnd x y) n = (tb x n && tb y n) := by
  induction n with
  | zero =>
    intro x y
    rw [tb_zero, tb_zero, tb_zero, PySem.W.kbt_halves, ← Bool.decide_and, decide_eq_decide]
    split <;> omega
  | succ n ih =>
    intro x y
    rw [tb_succ, tb_succ, tb_succ, ← ih, PySem.W.kbt_halves]
    congr 1
    split <;> omega
theorem bor_halves (x y : Int) : Builtin.bitOr x y = 2 * Builtin.bitOr (x / 2) (y / 2) + (if x % 2 = 1 ∨ y % 2 = 1 then 1 else 0) := by
  have h := PySem.W.kbt_halves x y
  rw [PyProof.Rows.bitOr_and, PyProof.Rows.bitOr_and, h]
  by_cases c : x % 2 = 1 <;> by_cases d : y % 2 = 1
  · rw [if_pos ⟨c, d⟩, if_pos (.inl c)]; omega
  · rw [if_neg (fun z => d z.2), if_pos (.inl c)]; omega
  · rw [if_neg (fun z => c z.1), if_pos (.inr d)]; omega
  · rw [if_neg (fun z => d z.2), if_neg (fun z => z.elim c d)]; omega
theorem bxor_halves (x y : Int) : Builtin.bitXor x y = 2 * Builtin.bitXor (x / 2) (y / 2) + (if (x % 2 = 1) ↔ (y % 2 = 1) then 0 else 1) := by
  have h := PySem.W.kbt_halves x y
  rw [PyProof.Rows.bitXor_and, PyProof.Rows.bitXor_and, h]
  by_cases c : x % 2 = 1 <;> by_cases d : y % 2 = 1
  · rw [if_pos ⟨c, d⟩, if_pos ⟨fun _ => d, fun _ => c⟩]; omega
  · rw [if_neg (fun z => d z.2), if_neg (fun z => d (z.mp c))]; omega
  · rw [if_neg (fun z => c z.1), if_neg (fun z => c (z.mpr d))]; omega
  · rw [if_neg (fun z => d z.2), if_pos ⟨fun q => absurd q c, fun q => absurd q d⟩]; omega
theorem tb_or (n : Nat) : ∀ x y : Int, tb (Builtin.bitOr x y) n = (tb x n || tb y n) := by
  induction n with
  | zero =>
    intro x y
    rw [tb_zero, tb_zero, tb_zero, bor_halves, ← Bool.decide_or, decide_eq_decide]
    split <;> omega
  | succ n ih =>
    intro x y
    rw [tb_succ, tb_succ, tb_succ, ← ih, bor_halves]
    congr 1
    split <;> omega
theorem tb_xor (n : Nat) : ∀ x y : Int, tb (Builtin.bitXor x y) n = (tb x n ^^ tb y n) := by
  induction n with
  | zero =>
    intro x y
    rw [tb_zero, tb_zero, tb_zero, bxor_halves]
    by_cases c : x % 2 = 1 <;> by_cases d : y % 2 = 1
    · rw [if_pos ⟨fun _ => d, fun _ => c⟩, decide_eq_true c, decide_eq_true d, decide_eq_false (by omega)]; rfl
    · rw [if_neg (fun z => d (z.mp c)), decide_eq_true c, decide_eq_false d, decide_eq_true (by omega)]; rfl
    · rw [if_neg (fun z => c (z.mpr d)), decide_eq_false c, decide_eq_true d, decide_eq_true (by omega)]; rfl
    · rw [if_pos ⟨fun q => absurd q c, fun q => absurd q d⟩, decide_eq_false c, decide_eq_false d, decide_eq_false (by omega)]; rfl
  | succ n ih =>
    intro x y
    rw [tb_succ, tb_succ, tb_succ, ← ih, bxor_halves]
    congr 1
    split <;> omega
theorem bor_rng : ∀ (n : Nat) {x y : Int}, 0 ≤ x → x < 2 ^ n → 0 ≤ y → y < 2 ^ n → 0 ≤ Builtin.bitOr x y ∧ Builtin.bitOr x y < 2 ^ n
  | 0, x, y, h1, h2, h3, h4 => by
    have h2 : x < 1 := h2
    have h4 : y < 1 := h4
    have e : x = 0 := by omega
    have e2 : y = 0 := by omega
    subst e e2
    decide
  | n + 1, x, y, h1, h2, h3, h4 => by
    rw [Int.pow_succ] at *
    have ih := bor_rng n (x := x / 2) (y := y / 2) (by omega) (by omega) (by omega) (by omega)
    rw [bor_halves]
    split <;> omega
theorem bxor_rng : ∀ (n : Nat) {x y : Int}, 0 ≤ x → x < 2 ^ n → 0 ≤ y → y < 2 ^ n → 0 ≤ Builtin.bitXor x y ∧ Builtin.bitXor x y < 2 ^ n
  | 0, x, y, h1, h2, h3, h4 => by
    have h2 : x < 1 := h2
    have h4 : y < 1 := h4
    have e : x = 0 := by omega
    have e2 : y = 0 := by omega
    subst e e2
    decide
  | n + 1, x, y, h1, h2, h3, h4 => by
    rw [Int.pow_succ] at *
    have ih := bxor_rng n (x := x / 2) (y := y / 2) (by omega) (by omega) (by omega) (by omega)
    rw [bxor_halves]
    split <;> omega
/-! ### rows behind so many deeds -/
def Same (m : Int) (f g : Int → Bool) : Prop := ∀ p, 0 ≤ p → p < m → f p = g p
theorem Same.rfl {m : Int} {f : Int → Bool} : Same m f f := fun _ _ _ => Eq.refl _
theorem Same.symm {m : Int} {f g : Int → Bool} (h : Same m f g) : Same m g f := fun p a b => (h p a b).symm
theorem Same.trans {m : Int} {f g k : Int → Bool} (h : Same m f g) (h' : Same m g k) : Same m f k := fun p a b => (h p a b).trans (h' p a b)
theorem Same.dV {m : Int} {f g : Int → Bool} (e : Deed) (h : Same m f g) : Same m (T.dV e f) (T.dV e g) := fun p a b => by
  unfold T.dV
  rw [h p a b]
theorem Same.dVs {m : Int} : ∀ (l : List Deed) {f g : Int → Bool}, Same m f g → Same m (T.dVs l f) (T.dVs l g)
  | [], _, _, h => h
  | e :: l, _, _, h => Same.dVs l (h.dV e)
theorem dVs_append (l l' : List Deed) (g : Int → Bool) : dVs (l ++ l') g = dVs l' (dVs l g) := List.foldl_append
/-- so many deeds, or fewer, make g' of g -/
def Fw (many : Int) (n : Nat) (g g' : Int → Bool) : Prop := ∃ l : List Deed, l.length ≤ n ∧ (∀ e ∈ l, gd many e) ∧ Same many (dVs l g) g'
/-- just so many -/
def Fst (many : Int) (n : Nat) (g g' : Int → Bool) : Prop := Fw many n g g' ∧ ∀ m, m < n → ¬ Fw many m g g'
theorem Fw.mono {many : Int} {n m : Nat} {g g' : Int → Bool} (h : Fw many n g g') (hm : n ≤ m) : Fw many m g g' :=
  let ⟨l, h1, h2, h3⟩ := h
  ⟨l, Nat.le_trans h1 hm, h2, h3⟩
theorem Fw.same {many : Int} {n : Nat} {g g' f f' : Int → Bool} (h : Fw many n g g') (e : Same many g f) (e' : Same many g' f') : Fw many n f f' :=
  let ⟨l, h1, h2, h3⟩ := h
  ⟨l, h1, h2, (e.symm.dVs l).trans (h3.trans e')⟩
theorem Fw.tri {many : Int} {n m : Nat} {g g' f : Int → Bool} (h : Fw many n g f) (h' : Fw many m f g') : Fw many (n + m) g g' :=
  let ⟨l, h1, h2, h3⟩ := h
  let ⟨l', k1, k2, k3⟩ := h'
  ⟨l ++ l', by rw [List.length_append]; omega, fun e he => (List.mem_append.mp he).elim (h2 e) (k2 e), by rw [dVs_append]; exact (h3.dVs l').trans k3⟩
theorem Fst.same {many : Int} {n : Nat} {g g' f f' : Int → Bool} (h : Fst many n g g') (e : Same many g f) (e' : Same many g' f') : Fst many n f f' :=
  ⟨h.1.same e e', fun m hm z => h.2 m hm (z.same e.symm e'.symm)⟩
theorem Fst.le {many : Int} {n m : Nat} {g g' : Int → Bool} (h : Fst many n g g') (h' : Fw many m g g') : n ≤ m :=
  Nat.le_of_not_lt fun z => h.2 m z h'
theorem Fst.one {many : Int} {n m : Nat} {g g' : Int → Bool} (h : Fst many n g g') (h' : Fst many m g g') : n = m := Nat.le_antisymm (h.le h'.1) (h'.le h.1)
/-! ### a search by breadth -/
section
variable {α : Type} [DecidableEq α] (sc : α → List α) (a : α)
def Rc : Nat → α → Prop
  | 0, b => b = a
  | n + 1, b => Rc n b ∨ ∃ c, Rc n c ∧ b ∈ sc c
variable {sc a}
theorem Rc.mono {b : α} : ∀ {n m : Nat}, n ≤ m → Rc sc a n b → Rc sc a m b := by
  intro n m h r
  induction h with
  | refl => exact r
  | step _ ih => exact .inl ih
variable (sc a)
structure Bfs (known level : List α) (n : Nat) : Prop where
  kn : ∀ b, b ∈ known ↔ Rc sc a n b
  lv : ∀ b ∈ level, b ∈ known
  rest : ∀ b ∈ known, b ∉ level → ∀ c ∈ sc b, c ∈ known
variable {sc a}
theorem Bfs.start : Bfs sc a [a] [a] 0 := ⟨fun b => by rw [List.mem_singleton]; exact Iff.rfl, fun _ h => h, fun b h h' => absurd h h'⟩
theorem Bfs.step {known level known' wider : List α} {n : Nat} (h : Bfs sc a known level n) (h1 : ∀ b, b ∈ known' ↔ b ∈ known ∨ b ∈ level.flatMap sc) (h2 : ∀ b, b ∈ wider ↔ b ∈ level.flatMap sc ∧ b ∉ known) : Bfs sc a known' wider (n + 1) := by
  refine ⟨fun b => ?_, fun b hb => (h1 b).mpr (.inr ((h2 b).mp hb).1), fun b hb hw c hc => ?_⟩
  · rw [h1]
    constructor
    · rintro (z | z)
      · exact .inl ((h.kn b).mp z)
      · obtain ⟨c, c1, c2⟩ := List.mem_flatMap.mp z
        exact .inr ⟨c, (h.kn c).mp (h.lv c c1), c2⟩
    · rintro (z | ⟨c, c1, c2⟩)
      · exact .inl ((h.kn b).mpr z)
      · by_cases q : c ∈ level
        · exact .inr (List.mem_flatMap.mpr ⟨c, q, c2⟩)
        · exact .inl (h.rest c ((h.kn c).mpr c1) q b c2)
  · have hk : b ∈ known := by
      by_cases q : b ∈ known
      · exact q
      · rcases (h1 b).mp hb with z | z
        · exact z
        · exact absurd ((h2 b).mpr ⟨z, q⟩) hw
    by_cases q : b ∈ level
    · exact (h1 c).mpr (.inr (List.mem_flatMap.mpr ⟨b, q, hc⟩))
    · exact (h1 c).mpr (.inl (h.rest b hk q c hc))
/-- what is met is put behind, if it is new -/
def addN (s : List α × List α) (x : α) : List α × List α := if x ∈ s.1 then s else (s.1 ++ [x], s.2 ++ [x])
def addAll (s : List α × List α) (l : List α) : List α × List α := l.foldl addN s
theorem addAll_append (s : List α × List α) (l l' : List α) : addAll s (l ++ l') = addAll (addAll s l) l' := List.foldl_append
theorem addAll_snoc (s : List α × List α) (l : List α) (x : α) : addAll s (l ++ [x]) = addN (addAll s l) x := by rw [addAll_append]; rfl
theorem addAll_mem : ∀ (l : List α) (s : List α × List α) (b : α), b ∈ (addAll s l).1 ↔ b ∈ s.1 ∨ b ∈ l
  | [], s, b => by simp [addAll]
  | x :: l, s, b => by
    show b ∈ (addAll (addN s x) l).1 ↔ _
    rw [addAll_mem l]
    unfold addN
    split
    · rename_i h
      rw [List.mem_cons]
      constructor
      · rintro (z | z)
        · exact .inl z
        · exact .inr (.inr z)
      · rintro (z | z | z)
        · exact .inl z
        · subst z; exact .inl h
        · exact .inr z
    · simp only [List.mem_append, List.mem_cons, List.not_mem_nil, or_false, or_assoc]
theorem addAll_new : ∀ (l : List α) (s : List α × List α) (b : α), b ∈ (addAll s l).2 ↔ b ∈ s.2 ∨ (b ∈ l ∧ b ∉ s.1)
  | [], s, b => by simp [addAll]
  | x :: l, s, b => by
    show b ∈ (addAll (addN s x) l).2 ↔ _
    rw [addAll_new l]
    unfold addN
    split
    · rename_i h
      rw [List.mem_cons]
      constructor
      · rintro (z | ⟨z, z'⟩)
        · exact .inl z
        · exact .inr ⟨.inr z, z'⟩
      · rintro (z | ⟨z | z, z'⟩)
        · exact .inl z
        · subst z; exact absurd h z'
        · exact .inr ⟨z, z'⟩
    · rename_i h
      simp only [List.mem_append, List.mem_cons, List.not_mem_nil, or_false]
      constructor
      · rintro ((z | z) | ⟨z, z'⟩)
        · exact .inl z
        · subst z; exact .inr ⟨.inl rfl, h⟩
        · exact .inr ⟨.inr z, fun q => z' (.inl q)⟩
      · rintro (z | ⟨z | z, z'⟩)
        · exact .inl (.inl z)
        · exact .inl (.inr z)
        · by_cases q : b = x
          · exact .inl (.inr q)
          · exact .inr ⟨z, fun w => w.elim z' q⟩
theorem addAll_nodup : ∀ (l : List α) (s : List α × List α), s.1.Nodup → (addAll s l).1.Nodup
  | [], _, h => h
  | x :: l, s, h => by
    refine addAll_nodup l (addN s x) ?_
    unfold addN
    split
    · exact h
    · rename_i q
      rw [List.nodup_append]
      refine ⟨h, by simp, fun y hy z hz e => ?_⟩
      rw [List.mem_singleton] at hz
      subst hz e
      exact q hy
theorem addAll_len : ∀ (l : List α) (s : List α × List α), (addAll s l).2.length + s.1.length = s.2.length + (addAll s l).1.length
  | [], s => rfl
  | x :: l, s => by
    have ih := addAll_len l (addN s x)
    have e : addAll s (x :: l) = addAll (addN s x) l := rfl
    rw [e]
    unfold addN at ih ⊢
    split at ih
    · rename_i h
      rw [if_pos h]
      exact ih
    · rename_i h
      rw [if_neg h]
      simp only [List.length_append, List.length_cons, List.length_nil] at ih
      omega
theorem Bfs.wide {known level : List α} {n : Nat} (h : Bfs sc a known level n) : Bfs sc a (addAll (known, []) (level.flatMap sc)).1 (addAll (known, []) (level.flatMap sc)).2 (n + 1) :=
  h.step (fun b => addAll_mem _ _ b) fun b => by rw [addAll_new]; simp
end
/-- so many different whole numbers below n -/
theorem nodup_le : ∀ (n : Nat) (l : List Int), l.Nodup → (∀ x ∈ l, 0 ≤ x ∧ x < n) → l.length ≤ n
  | 0, [], _, _ => Nat.le_refl _
  | 0, x :: l, _, h => by
    have := h x List.mem_cons_self
    omega
  | n + 1, l, nd, h => by
    have ih := nodup_le n (l.erase (n : Int)) (nd.erase _) fun x hx => by
      obtain ⟨h1, h2⟩ := (nd.mem_erase_iff).mp hx
      have := h x h2
      omega
    have : l.length ≤ (l.erase (n : Int)).length + 1 := by
      by_cases q : (n : Int) ∈ l
      · rw [List.length_erase_of_mem q]; omega
      · rw [List.erase_of_not_mem q]; omega
    omega
/-! ### little rows as whole numbers -/
def tv (x : Int) : Int → Bool := fun p => tb x p.toNat
def inR (many x : Int) : Prop := 0 ≤ x ∧ x < 2 ^ many.toNat
theorem inR.ext {many x y : Int} (hx : inR many x) (hy : inR many y) (h : Same many (tv x) (tv y)) : x = y :=
  tb_ext many.toNat hx.1 hx.2 hy.1 hy.2 fun k hk => by
    have := h (k : Int) (by omega) (by omega)
    unfold tv at this
    rwa [Int.toNat_natCast] at this
def maskI (f b : Int) : Int := 2 ^ b.toNat - 2 ^ f.toNat
theorem pow_pos (n : Nat) : (0 : Int) < 2 ^ n := Int.pow_pos (by decide)
theorem pow_le {n m : Nat} (h : n ≤ m) : (2 : Int) ^ n ≤ 2 ^ m := by
  induction h with
  | refl => exact Int.le_refl _
  | @step m _ ih => exact Int.le_trans ih (by rw [Int.pow_succ]; have := pow_pos m; omega)
theorem maskI_rng {many f b : Int} (h : good many f b) : inR many (maskI f b) := by
  obtain ⟨h1, h2, h3⟩ := h
  have a1 := pow_le (show f.toNat ≤ b.toNat by omega)
  have a2 := pow_le (show b.toNat ≤ many.toNat by omega)
  have a3 := pow_pos f.toNat
  unfold inR maskI
  omega
theorem maskI_tv {many f b : Int} (h : good many f b) (p : Int) (p0 : 0 ≤ p) : tv (maskI f b) p = decide (f ≤ p ∧ p < b) := by
  obtain ⟨h1, h2, h3⟩ := h
  unfold tv maskI
  rw [tb_mask _ _ (by omega), decide_eq_decide]
  omega
/-- a deed done to a row as a whole number -/
def opI (e : Deed) (x : Int) : Int := if e.1 = "turn" then Builtin.bitXor x (maskI e.2.1 e.2.2) else if e.1 = "on" then Builtin.bitOr x (maskI e.2.1 e.2.2) else Builtin.bitXor (Builtin.bitOr x (maskI e.2.1 e.2.2)) (maskI e.2.1 e.2.2)
theorem opI_ok {many x : Int} {e : Deed} (hx : inR many x) (he : gd many e) : inR many (opI e x) ∧ Same many (tv (opI e x)) (dV e (tv x)) := by
  obtain ⟨k, f, b⟩ := e
  obtain ⟨hk, hg⟩ := he
  have hm := maskI_rng hg
  have h1 := bor_rng _ hx.1 hx.2 hm.1 hm.2
  have n1 : ¬ (("on" : Str) = "turn") := by decide +kernel
  have n2 : ¬ (("off" : Str) = "turn") := by decide +kernel
  have n3 : ¬ (("off" : Str) = "on") := by decide +kernel
  refine ⟨?_, fun p p0 p1 => ?_⟩
  · unfold opI
    split
    · exact bxor_rng _ hx.1 hx.2 hm.1 hm.2
    · split
      · exact h1
      · exact bxor_rng _ h1.1 h1.2 hm.1 hm.2
  · have ht := maskI_tv hg p p0
    unfold opI dV swk
    dsimp only at hk ⊢
    have e1 : ∀ u v, tv (Builtin.bitXor u v) p = (tv u p ^^ tv v p) := fun u v => tb_xor _ u v
    have e2 : ∀ u v, tv (Builtin.bitOr u v) p = (tv u p || tv v p) := fun u v => tb_or _ u v
    rcases hk with rfl | rfl | rfl
    · rw [if_pos rfl, e1, ht, if_pos rfl]
      by_cases q : f ≤ p ∧ p < b
      · rw [if_pos q, decide_eq_true q]; cases tv x p <;> rfl
      · rw [if_neg q, decide_eq_false q]; cases tv x p <;> rfl
    · rw [if_neg n1, if_pos rfl, e2, ht, if_neg n1]
      by_cases q : f ≤ p ∧ p < b
      · rw [if_pos q, decide_eq_true q]; cases tv x p <;> simp
      · rw [if_neg q, decide_eq_false q]; cases tv x p <;> rfl
    · rw [if_neg n2, if_neg n3, e1, e2, ht, if_neg n2]
      by_cases q : f ≤ p ∧ p < b
      · rw [if_pos q, decide_eq_true q, decide_eq_false n3]; cases tv x p <;> rfl
      · rw [if_neg q, decide_eq_false q]; cases tv x p <;> rfl
def masksL (many : Int) : List Int := (List.range many.toNat).flatMap fun (f : Nat) => (List.range (many.toNat - f)).map fun (i : Nat) => maskI (f : Int) ((f : Int) + 1 + (i : Int))
theorem masks_mem {many m : Int} : m ∈ masksL many ↔ ∃ f b, good many f b ∧ m = maskI f b := by
  unfold masksL
  rw [List.mem_flatMap]
  constructor
  · rintro ⟨f, hf, hm⟩
    obtain ⟨i, hi, rfl⟩ := List.mem_map.mp hm
    rw [List.mem_range] at hf hi
    exact ⟨f, _, ⟨by omega, by omega, by omega⟩, rfl⟩
  · rintro ⟨f, b, ⟨h1, h2, h3⟩, rfl⟩
    refine ⟨f.toNat, List.mem_range.mpr (by omega), List.mem_map.mpr ⟨(b - f - 1).toNat, List.mem_range.mpr (by omega), ?_⟩⟩
    congr 1 <;> omega
def trio (x m : Int) : List Int := [Builtin.bitXor x m, Builtin.bitOr x m, Builtin.bitXor (Builtin.bitOr x m) m]
def scI (many x : Int) : List Int := (masksL many).flatMap (trio x)
theorem scI_mem {many x y : Int} : y ∈ scI many x ↔ ∃ e, gd many e ∧ y = opI e x := by
  have n1 : ¬ (("on" : Str) = "turn") := by decide +kernel
  have n2 : ¬ (("off" : Str) = "turn") := by decide +kernel
  have n3 : ¬ (("off" : Str) = "on") := by decide +kernel
  unfold scI
  rw [List.mem_flatMap]
  constructor
  · rintro ⟨m, hm, hy⟩
    obtain ⟨f, b, hg, rfl⟩ := masks_mem.mp hm
    simp only [trio, List.mem_cons, List.not_mem_nil, or_false] at hy
    rcases hy with rfl | rfl | rfl
    · exact ⟨("turn", f, b), ⟨.inl rfl, hg⟩, by unfold opI; rw [if_pos rfl]⟩
    · exact ⟨("on", f, b), ⟨.inr (.inl rfl), hg⟩, by unfold opI; rw [if_neg n1, if_pos rfl]⟩
    · exact ⟨("off", f, b), ⟨.inr (.inr rfl), hg⟩, by unfold opI; rw [if_neg n2, if_neg n3]⟩
  · rintro ⟨⟨k, f, b⟩, ⟨hk, hg⟩, rfl⟩
    refine ⟨maskI f b, masks_mem.mpr ⟨f, b, hg, rfl⟩, ?_⟩
    simp only [trio, List.mem_cons, List.not_mem_nil, or_false]
    dsimp only at hk
    unfold opI
    rcases hk with rfl | rfl | rfl
    · rw [if_pos rfl]; exact .inl rfl
    · rw [if_neg n1, if_pos rfl]; exact .inr (.inl rfl)
    · rw [if_neg n2, if_neg n3]; exact .inr (.inr rfl)
theorem rc_fw {many a : Int} (ha : inR many a) : ∀ {n : Nat} {b : Int}, Rc (scI many) a n b → inR many b ∧ Fw many n (tv a) (tv b)
  | 0, b, h => by
    have h : b = a := h
    subst h
    exact ⟨ha, [], Nat.le_refl _, (fun _ h => nomatch h), .rfl⟩
  | n + 1, b, h => by
    rcases h with h | ⟨c, h1, h2⟩
    · obtain ⟨i1, i2⟩ := rc_fw ha h
      exact ⟨i1, i2.mono (Nat.le_succ _)⟩
    · obtain ⟨i1, l, i2, i3, i4⟩ := rc_fw ha h1
      obtain ⟨e, he, rfl⟩ := scI_mem.mp h2
      obtain ⟨o1, o2⟩ := opI_ok i1 he
      refine ⟨o1, l ++ [e], by rw [List.length_append]; show _ + 1 ≤ _; omega, fun d hd => ?_, ?_⟩
      · rcases List.mem_append.mp hd with z | z
        · exact i3 d z
        · rw [List.mem_singleton] at z
          subst z
          exact he
      · rw [dVs_append]
        exact (i4.dV e).trans o2.symm
theorem fw_rc {many a b : Int} (ha : inR many a) (hb : inR many b) {n : Nat} (h : Fw many n (tv a) (tv b)) : Rc (scI many) a n b := by
  obtain ⟨l, h1, h2, h3⟩ := h
  have key : ∀ (l : List Deed) (x : Int) (m : Nat), inR many x → Rc (scI many) a m x → (∀ e ∈ l, gd many e) → ∃ y, Rc (scI many) a (m + l.length) y ∧ inR many y ∧ Same many (tv y) (dVs l (tv x)) := by
    intro l
    induction l with
    | nil => intro x m hx r _; exact ⟨x, r, hx, .rfl⟩
    | cons e l ih =>
      intro x m hx r hl
      obtain ⟨o1, o2⟩ := opI_ok hx (hl e List.mem_cons_self)
      obtain ⟨y, y1, y2, y3⟩ := ih (opI e x) (m + 1) o1 (.inr ⟨x, r, scI_mem.mpr ⟨e, hl e List.mem_cons_self, rfl⟩⟩) fun d hd => hl d (List.mem_cons_of_mem _ hd)
      refine ⟨y, ?_, y2, y3.trans (o2.dVs l)⟩
      rw [List.length_cons, show m + (l.length + 1) = m + 1 + l.length by omega]
      exact y1
  obtain ⟨y, y1, y2, y3⟩ := key l a 0 ha rfl h2
  have e : y = b := y2.ext hb (y3.trans h3)
  subst e
  rw [Nat.zero_add] at y1
  exact y1.mono h1
/-- every row comes of every other one, by so many deeds as there are switches -/
theorem fw_all {g g' : Int → Bool} : ∀ n : Nat, Fw n n g g'
  | 0 => ⟨[], Nat.le_refl _, (fun _ h => nomatch h), fun p p0 p1 => by omega⟩
  | n + 1 => by
    obtain ⟨l, h1, h2, h3⟩ := fw_all (g := g) (g' := g') n
    have hl : ∀ e ∈ l, gd ((n + 1 : Nat) : Int) e := fun e he => by
      obtain ⟨a, b1, b2, b3⟩ := h2 e he
      exact ⟨a, b1, b2, by omega⟩
    by_cases c : dVs l g n = g' n
    · refine ⟨l, by omega, hl, fun p p0 p1 => ?_⟩
      by_cases q : p < n
      · exact h3 p p0 q
      · have : p = n := by omega
        subst this
        exact c
    · refine ⟨l ++ [(("turn" : Str), (n : Int), (n : Int) + 1)], by rw [List.length_append]; show _ + 1 ≤ _; omega, fun e he => ?_, fun p p0 p1 => ?_⟩
      · rcases List.mem_append.mp he with z | z
        · exact hl e z
        · rw [List.mem_singleton] at z
          subst z
          exact ⟨.inl rfl, by show (0 : Int) ≤ n; omega, by show (n : Int) < n + 1; omega, by show (n : Int) + 1 ≤ _; omega⟩
      · rw [dVs_append]
        show dV _ (dVs l g) p = _
        unfold dV swk
        dsimp only
        by_cases q : p < n
        · rw [if_neg (by omega)]
          exact h3 p p0 q
        · have : p = n := by omega
          subst this
          rw [if_pos (by omega), if_pos rfl]
          cases h1 : dVs l g n <;> cases h2 : g' n <;> simp_all
/-- the search's end -/
theorem fst_of {many a b : Int} (ha : inR many a) (hb : inR many b) {n : Nat} (h : Rc (scI many) a n b) (h' : ∀ m, m < n → ¬ Rc (scI many) a m b) : Fst many n (tv a) (tv b) :=
  ⟨(rc_fw ha h).2, fun m hm z => h' m hm (fw_rc ha hb z)⟩
/-! ### what was met: a dict of whole numbers, and what is new -/
def kd (l : List Int) : List (Key × D) := l.map fun n => (.inl n, .bl true)
theorem getA_kd (n : Int) : ∀ l : List Int, (getA (.inl n : Key) (kd l)).isSome = decide (n ∈ l)
  | [] => by simp [kd, getA]
  | m :: l => by
    have ih := getA_kd n l
    unfold kd at ih ⊢
    rw [List.map_cons]
    unfold getA
    by_cases e : m = n
    · rw [if_pos (by rw [e])]
      simp [e]
    · rw [if_neg (fun z => e (Sum.inl.inj z)), ih]
      have : ¬ n = m := fun z => e z.symm
      simp [this]
theorem putM_kd {n : Int} {l : List Int} (h : n ∉ l) : putM (.inl n : Key) (.bl true) (kd l) = kd (l ++ [n]) := by
  have e : ((kd l).any fun kv => decide (kv.1 = (.inl n : Key))) = false := by
    rw [List.any_eq_false]
    intro kv hkv
    unfold kd at hkv
    obtain ⟨m, hm, rfl⟩ := List.mem_map.mp hkv
    simp only [decide_eq_true_eq]
    exact fun z => h (Sum.inl.inj z ▸ hm)
  unfold putM
  rw [if_neg (by rw [e]; decide)]
  unfold kd
  rw [List.map_append]
  rfl
theorem meet_step {x y w : Nat} {ρ : Env} {M' : Mp} {K V : List Int} {v : Int} {kn wd : Addr} {q : NK} {r : DK} {xx : XS} (hx : nth ρ x = some (.int v)) (hy : nth ρ y = some (.ref kn)) (hw : nth ρ w = some (.ref wd)) (h1 : M' kn = some (.dct (kd K))) (h2 : M' wd = some (.lst (V.map .int))) (ne : kn ≠ wd)
    (lk : K.length < 1000000) (lw : V.length < 1000000) (hq : ∀ M2, M2 kn = some (.dct (kd (addN (K, V) v).1)) → M2 wd = some (.lst ((addN (K, V) v).2.map .int)) → (∀ b, b ≠ kn → b ≠ wd → M2 b = M' b) → q ρ M2) :
    wpB (.cons (.ite (.dhas true (.var x) (.var y)) (.cons (.setK (.var y) (.var x) (.bl true)) (.cons (.app w (.var x)) .nil)) .nil) .nil) ρ M' q r xx := by
  simp only [wpB, wpS, wpE, hx, hy]
  simp only [dctD, h1, keyD]
  refine ⟨.inl v, rfl, ?_⟩
  rw [getA_kd]
  simp only [if_true, asBl]
  unfold addN at hq
  dsimp only at hq
  by_cases c : v ∈ K
  · rw [if_pos c] at hq
    rw [decide_eq_true c]
    exact hq M' h1 h2 fun _ _ _ => rfl
  · rw [if_neg c] at hq
    rw [decide_eq_false c]
    simp only [Bool.not_false, if_true, setKD, h1, keyD]
    refine ⟨.inl v, rfl, ?_, ?_⟩
    · unfold kd
      rw [List.length_map]
      exact lk
    rw [putM_kd c]
    have h3 : mset M' kn (.dct (kd (K ++ [v]))) wd = some (.lst (V.map .int)) := by rw [mset_ne (Ne.symm ne)]; exact h2
    rw [atV_s hw, isL_ref h3]
    refine ⟨trivial, ?_⟩
    simp only [appD, h3]
    refine ⟨by rw [List.length_map]; exact lw, ?_⟩
    refine hq _ (by rw [mset_ne ne, mset_same]) ?_ (fun b b1 b2 => by rw [mset_ne b2, mset_ne b1])
    rw [mset_same, List.map_append]
    rfl
/-- the search's state in memory -/
structure Mets (kn wd : Addr) (Mb : Mp) (s : List Int × List Int) (M' : Mp) : Prop where
  met : M' kn = some (.dct (kd s.1))
  new : M' wd = some (.lst (s.2.map .int))
  rest : ∀ b, b ≠ kn → b ≠ wd → M' b = Mb b
theorem Mets.step {x y w : Nat} {ρ : Env} {M' Mb : Mp} {s : List Int × List Int} {v : Int} {kn wd : Addr} {q : NK} {r : DK} {xx : XS} (h : Mets kn wd Mb s M') (hx : nth ρ x = some (.int v)) (hy : nth ρ y = some (.ref kn)) (hw : nth ρ w = some (.ref wd)) (ne : kn ≠ wd)
    (lk : s.1.length < 1000000) (lw : s.2.length < 1000000) (hq : ∀ M2, Mets kn wd Mb (addN s v) M2 → q ρ M2) :
    wpB (.cons (.ite (.dhas true (.var x) (.var y)) (.cons (.setK (.var y) (.var x) (.bl true)) (.cons (.app w (.var x)) .nil)) .nil) .nil) ρ M' q r xx :=
  meet_step hx hy hw h.met h.new ne lk lw fun M2 e1 e2 e3 => hq M2 ⟨e1, e2, fun b b1 b2 => by rw [e3 b b1 b2, h.rest b b1 b2]⟩
/-- the bounds of a search among little numbers -/
structure Low (n : Nat) (K : List Int) : Prop where
  nd : K.Nodup
  lo : ∀ x ∈ K, 0 ≤ x ∧ x < n
theorem Low.len {n : Nat} {K : List Int} (h : Low n K) : K.length ≤ n := nodup_le n K h.nd h.lo
theorem Low.all {n : Nat} {s : List Int × List Int} {l : List Int} (h : Low n s.1) (hl : ∀ x ∈ l, 0 ≤ x ∧ x < n) : Low n (addAll s l).1 :=
  ⟨addAll_nodup l s h.nd, fun x hx => ((addAll_mem l s x).mp hx).elim (h.lo x) (hl x)⟩
theorem Low.two {n : Nat} {K l : List Int} (h : Low n K) (hl : ∀ x ∈ l, 0 ≤ x ∧ x < n) : (addAll (K, []) l).1.length ≤ n ∧ (addAll (K, []) l).2.length ≤ n := by
  have h1 := (h.all (s := (K, [])) hl).len
  have h2 := addAll_len l (K, [])
  simp only [List.length_nil] at h2
  omega
/-! ### two rows, walked -/
def opW (w : Str) (a b : Bool) : Bool := if w = "odd" then (a ^^ b) else if w = "both" then (a && b) else (a || b)
def wOk (s : Str) : Prop := s = "both" ∨ s = "either" ∨ s = "odd"
theorem ok_odd : (D.str "odd").eqok = true := eqok_st (by decide +kernel)
theorem ok_both : (D.str "both").eqok = true := eqok_st (by decide +kernel)
theorem wOk.ok {s : Str} (h : wOk s) : (D.str s).eqok = true := by
  rcases h with rfl | rfl | rfl
  · exact ok_both
  · exact eqok_st (by decide +kernel)
  · exact ok_odd
theorem opW_comm (w : Str) (a b : Bool) : opW w a b = opW w b a := by
  unfold opW
  split
  · cases a <;> cases b <;> rfl
  · split <;> cases a <;> cases b <;> rfl
def sp_need_alike : Spec := fun ds M k x => ∃ (m n : Int) (d e : D), ds = [.tup [.int m, d], .tup [.int n, e]] ∧ (m = n → k .non M) ∧ (m ≠ n → x "NoRow" M)
abbrev n_need_alike : List Str := ["one", "other"]
def b_need_alike : B := (.cons (.ite (.cmp .ne (.idx (.var 0) (.int 0)) (.idx (.var 1) (.int 0))) (.cons (.rais "NoRow") .nil) .nil) .nil)
theorem w_need_alike : Body n_need_alike 2 b_need_alike sp_need_alike := by
  rintro ds M k x ⟨m, n, d, e, rfl, hk, hx⟩
  refine ⟨rfl, ?_⟩
  simp only [b_need_alike]
  walk_at "wt"
  by_cases c : m = n
  · simpa [c] using fewer_of (hk c)
  · simpa [c] using fewerX_of (hx c)
def sp_with_all : Spec := fun ds M k x => ∃ (w : Str) (b : Bool) (t : Tree) (h : Nat), ds = [.str w, .bl b, treeD t, .int (sz h)] ∧ wOk w ∧ Right t h ∧ ∀ u, Right u h → (∀ p, 0 ≤ p → p < sz h → val u h p = opW w b (val t h p)) → k (treeD u) M
abbrev n_with_all : List Str := ["word", "truth", "tree", "size"]
def b_with_all_1 : B := (.cons (.ret (.tup (.cons (.str "all") (.cons (.var 1) .nil)))) .nil)
def b_with_all_2 : B := (.cons (.ite (.cmp .eq (.cmp .eq (.var 0) (.str "both")) (.var 1)) (.cons (.ret (.var 2)) .nil) .nil) b_with_all_1)
def b_with_all : B := (.cons (.ite (.cmp .eq (.var 0) (.str "odd")) (.cons (.ret (.ite (.var 1) (.call "turned" sp_turned (.cons (.var 2) (.cons (.var 3) .nil))) (.var 2))) .nil) .nil) b_with_all_2)
theorem w_with_all : Body n_with_all 4 b_with_all sp_with_all := by
  rintro ds M k x ⟨w, b, t, h, rfl, hw, R, hk⟩
  refine ⟨rfl, ?_⟩
  simp only [b_with_all]
  walk_at "wt"
  refine ⟨⟨hw.ok, ok_odd⟩, ?_⟩
  refine ite_of (fun c => ?_) (fun c => ?_)
  · subst c
    cases b with
    | true =>
      walk_at "wt"
      refine ⟨t, h, rfl, fewer_of (hk _ (turnedT_right R) fun p p1 p2 => ?_)⟩
      rw [turnedT_val R.fit p1 p2]
      unfold opW
      rw [if_pos rfl]
      cases val t h p <;> rfl
    | false =>
      walk_at "wt"
      refine fewer_of (hk _ R fun p p1 p2 => ?_)
      unfold opW
      rw [if_pos rfl]
      cases val t h p <;> rfl
  · simp only [b_with_all_2]
    walk_at "wt"
    refine ⟨⟨hw.ok, ok_both⟩, ?_⟩
    have all : ∀ v : Bool, (∀ a, opW w b a = v) → wpB b_with_all_1 [some (.str w), some (.bl v), some (treeD t), some (.int (sz h))] M (fun _ M' => fewer k .non M') (fewer k) (fun c _ M' => fewerX x c M') := by
      intro v hv
      simp only [b_with_all_1]
      walk_at "wt"
      exact fewer_of (hk (.all v) trivial fun p p1 p2 => by rw [val_all v h p2, hv])
    by_cases c2 : w = "both"
    · cases b with
      | true =>
        rw [if_pos (by simp [c2])]
        refine fewer_of (hk _ R fun p p1 p2 => ?_)
        unfold opW
        rw [if_neg c, if_pos c2]
        rfl
      | false =>
        rw [if_neg (by simp [c2])]
        exact all false fun a => by unfold opW; rw [if_neg c, if_pos c2]; rfl
    · cases b with
      | false =>
        rw [if_pos (by simp [c2])]
        refine fewer_of (hk _ R fun p p1 p2 => ?_)
        unfold opW
        rw [if_neg c, if_neg c2]
        rfl
      | true =>
        rw [if_neg (by simp [c2])]
        exact all true fun a => by unfold opW; rw [if_neg c, if_neg c2]; rfl
def sp_trees_together (n : Nat) : Spec := fun ds M k x => ∃ (w : Str) (t u : Tree) (h : Nat), ds = [.str w, treeD t, treeD u, .int (sz h)] ∧ h < n ∧ wOk w ∧ Right t h ∧ Right u h ∧ ∀ v, Right v h → (∀ p, 0 ≤ p → p < sz h → val v h p = opW w (val t h p) (val u h p)) → k (treeD v) M
theorem zero_trees_together : ∀ ds M k x, ¬ sp_trees_together 0 ds M k x := fun _ _ _ _ ⟨_, _, _, _, _, h, _⟩ => absurd h (by omega)
abbrev n_trees_together : List Str := ["word", "one", "other", "size", "half", "left", "right", "left_other", "right_other", "first"]
def b_trees_together_1 (sp : Spec) : B := (.cons (.asg 4 (.bin .fdiv (.var 3) (.int 2))) (.cons (.asgT [5, 6] (.call "opened" sp_opened (.cons (.var 1) (.cons (.var 3) .nil)))) (.cons (.asgT [7, 8] (.call "opened" sp_opened (.cons (.var 2) (.cons (.var 3) .nil)))) (.cons (.asg 9 (.call "trees_together" sp (.cons (.var 0) (.cons (.var 5) (.cons (.var 7) (.cons (.var 4) .nil)))))) (.cons (.ret (.call "half_of" sp_half_of (.cons (.var 9) (.cons (.call "trees_together" sp (.cons (.var 0) (.cons (.var 6) (.cons (.var 8) (.cons (.var 4) .nil))))) (.cons (.var 3) .nil))))) .nil)))))
def b_trees_together_2 (sp : Spec) : B := (.cons (.ite (.cmp .eq (.idx (.var 2) (.int 0)) (.str "all")) (.cons (.ret (.call "with_all" sp_with_all (.cons (.var 0) (.cons (.idx (.var 2) (.int 1)) (.cons (.var 1) (.cons (.var 3) .nil)))))) .nil) .nil) (b_trees_together_1 sp))
def b_trees_together (sp : Spec) : B := (.cons (.ite (.cmp .eq (.idx (.var 1) (.int 0)) (.str "all")) (.cons (.ret (.call "with_all" sp_with_all (.cons (.var 0) (.cons (.idx (.var 1) (.int 1)) (.cons (.var 2) (.cons (.var 3) .nil)))))) .nil) .nil) (b_trees_together_2 sp))
theorem w_trees_together (n : Nat) : Body n_trees_together 4 (b_trees_together (sp_trees_together n)) (sp_trees_together (n + 1)) := by
  rintro ds M k x ⟨w, t, u, h, rfl, hn, hw, R, S, hk⟩
  refine ⟨rfl, ?_⟩
  cases t with
  | all a =>
    simp only [b_trees_together, treeD]
    walk_at "wt"
    exact ⟨w, a, u, h, rfl, hw, S, fun v v1 v2 => fewer_of (hk v v1 fun p p1 p2 => by rw [v2 p p1 p2, val_all a h p2])⟩
  | half l r t s =>
    simp only [b_trees_together, treeD]
    walk_at "wt"
    simp only [b_trees_together_2]
    cases u with
    | all a =>
      simp only [treeD]
      walk_at "wt"
      refine ⟨w, a, .half l r t s, h, rfl, hw, R, fun v v1 v2 => fewer_of (hk v v1 fun p p1 p2 => by rw [v2 p p1 p2, val_all a h p2, opW_comm])⟩
    | half l' r' t' s' =>
      simp only [treeD]
      walk_at "wt"
      simp only [b_trees_together_1]
      walk_at "wt"
      cases h with
      | zero => exact R.elim
      | succ h =>
        have hsz := sz_succ h
        obtain ⟨o1, o2⟩ := opened_right R
        obtain ⟨q1, q2⟩ := opened_right S
        have e1 := fun p p1 p2 => opened_val (p := p) R.fit p1 p2
        have e2 := fun p p1 p2 => opened_val (p := p) S.fit p1 p2
        walk_at "wt"
        refine ⟨.half l r t s, h, rfl, ?_⟩
        walk_at "wt"
        refine ⟨.half l' r' t' s', h, rfl, ?_⟩
        generalize (opened (.half l r t s) h).1 = a at o1 e1
        generalize (opened (.half l r t s) h).2 = b at o2 e1
        generalize (opened (.half l' r' t' s') h).1 = c at q1 e2
        generalize (opened (.half l' r' t' s') h).2 = d at q2 e2
        walk_at "wt"
        refine ⟨w, a, c, h, rfl, by omega, hw, o1, q1, fun x x1 x2 => ?_⟩
        walk_at "wt"
        refine ⟨w, b, d, h, rfl, by omega, hw, o2, q2, fun y y1 y2 => ?_⟩
        refine ⟨x, y, h, rfl, fewer_of (hk _ (halfOf_right x1 y1) fun p p1 p2 => ?_)⟩
        rw [halfOf_val p1 p2, e1 p p1 p2, e2 p p1 p2]
        by_cases z : p < sz h
        · rw [if_pos z, if_pos z, if_pos z, x2 p p1 z]
        · rw [if_neg z, if_neg z, if_neg z, y2 _ (by omega) (by omega)]
/-- kept rows of unlike many -/
def Unlike (ds : List D) : Prop := ∃ (m n : Int) (d e : D), ds = [.tup [.int m, d], .tup [.int n, e]] ∧ m ≠ n
def sp_put_together1 : Spec := fun ds M k x => ∃ (w : Str) (t u : Tree) (many : Int) (h : Nat) (g g' : Int → Bool), ds = [.str w, .tup [.int many, treeD t], .tup [.int many, treeD u]] ∧ 1 ≤ many ∧ many ≤ 1000000000000 ∧ wOk w ∧ SizeOk many h ∧ RowV many t h g ∧ RowV many u h g' ∧
  ∀ v, RowV many v h (fun p => opW w (g p) (g' p)) → k (.tup [.int many, treeD v]) M
abbrev n_put_together : List Str := ["word", "one", "other"]
def b_put_together : B := (.cons (.exp (.call "need_alike" sp_need_alike (.cons (.var 1) (.cons (.var 2) .nil)))) (.cons (.ret (.tup (.cons (.idx (.var 1) (.int 0)) (.cons (.call "trees_together" (sp_trees_together 42) (.cons (.var 0) (.cons (.idx (.var 1) (.int 1)) (.cons (.idx (.var 2) (.int 1)) (.cons (.call "size_for" sp_size_for (.cons (.idx (.var 1) (.int 0)) .nil)) .nil))))) .nil)))) .nil))
theorem w1_put_together : Body n_put_together 3 b_put_together sp_put_together1 := by
  rintro ds M k x ⟨w, t, u, many, h, g, g', rfl, m1, m2, hw, hs, V, U, hk⟩
  refine ⟨rfl, ?_⟩
  simp only [b_put_together]
  walk_at "wt"
  refine ⟨many, many, _, _, rfl, fun _ => ?_, fun z => absurd rfl z⟩
  walk_at "wt"
  refine ⟨many, rfl, m2, fun h' hs' => ?_⟩
  have e := hs'.one hs
  subst e
  have hle := hs.le m2
  have hs1 := hs.1
  refine ⟨w, t, u, h', rfl, by omega, hw, V.row.1, U.row.1, fun v v1 v2 => ?_⟩
  walk_at "wt"
  refine fewer_of (hk v ⟨⟨v1, fun p p1 p2 => ?_⟩, fun p p1 p2 => ?_⟩)
  · rw [v2 p (by omega) p2, V.row.2 p p1 p2, U.row.2 p p1 p2]
    unfold opW
    split
    · rfl
    · split <;> rfl
  · rw [v2 p p1 (by omega), V.vals p p1 p2, U.vals p p1 p2]
def sp_put_together : Spec := fun ds M k x => sp_put_together1 ds M k x ∨ ∃ w d e, ds = [.str w, d, e] ∧ Unlike [d, e] ∧ x "NoRow" M
theorem w_put_together : Body n_put_together 3 b_put_together sp_put_together := by
  rintro ds M k x (h | ⟨w, d, e, rfl, ⟨m, n, d', e', z, hne⟩, hx⟩)
  · exact w1_put_together _ _ _ _ h
  · cases z
    refine ⟨rfl, ?_⟩
    simp only [b_put_together]
    walk_at "wt"
    exact ⟨m, n, _, _, rfl, fun z => absurd z hne, fun _ => fewerX_of hx⟩
theorem first_on_run : ∀ {R : List Run} {a b : Int}, Chain a b R → match R.filter fun r => r.2.2 with
    | [] => cnt (valR R) true a b = 0
    | r :: _ => IsNth (valR R) true a b 1 r.1
  | [], a, b, h => by
    have h : a = b := h
    exact cnt_emp (by omega)
  | r :: R, a, b, h => by
    obtain ⟨c1, c2, c3⟩ := h
    have hle := Chain.le c3
    have ih := first_on_run c3
    rw [List.filter_cons]
    by_cases c : r.2.2 = true
    · rw [if_pos c]
      exact ⟨by omega, by omega, by rw [val_cons, if_pos (by omega)]; exact c, by rw [cnt_emp (by omega)]; omega⟩
    · rw [if_neg c]
      have c0 : ∀ p, a ≤ p → p ≤ r.2.1 → cnt (valR (r :: R)) true a p = 0 := fun p p1 p2 => by
        rw [cnt_const (u := r.2.2) p1 fun q q1 q2 => by rw [val_cons, if_pos (by omega)], if_neg c]
      have same : ∀ p, r.2.1 ≤ p → valR (r :: R) p = valR R p := fun p hp => by rw [val_cons, if_neg (by omega)]
      cases hz : R.filter fun r => r.2.2 with
      | nil =>
        rw [hz] at ih
        show cnt (valR (r :: R)) true a b = 0
        rw [cnt_split (b := r.2.1) (by omega) hle, c0 _ (by omega) (Int.le_refl _), cnt_congr fun p p1 p2 => same p p1, ih]
        rfl
      | cons s S =>
        rw [hz] at ih
        obtain ⟨i1, i2, i3, i4⟩ := ih
        refine ⟨by omega, i2, by rw [same _ i1]; exact i3, ?_⟩
        rw [cnt_split (b := r.2.1) (by omega) i1, c0 _ (by omega) (Int.le_refl _), cnt_congr fun p p1 p2 => same p p1, i4]
        omega
def turnsL (R : List Run) : List D := (R.filter fun r => r.2.2).map fun r => .tup [.str "turn", .int r.1, .int r.2.1]
def sp_turns_between1 : Spec := fun ds M k x => ∃ (t u : Tree) (many : Int) (h : Nat) (g g' : Int → Bool) (R : List Run), ds = [.tup [.int many, treeD t], .tup [.int many, treeD u]] ∧ 1 ≤ many ∧ many ≤ 1000000000000 ∧ SizeOk many h ∧ RowV many t h g ∧ RowV many u h g' ∧ IsRuns R many (fun p => g p ^^ g' p) ∧ R.length ≤ 20000 ∧
  k (.lst (turnsL R)) M
def sp_turns_between : Spec := fun ds M k x => sp_turns_between1 ds M k x ∨ (Unlike ds ∧ x "NoRow" M)
abbrev n_turns_between : List Str := ["one", "other", "runs", "first", "beyond", "truth"]
def b_turns_between : B := (.cons (.asg 2 (.frz (.call "runs_told" sp_runs_told (.cons (.call "put_together" sp_put_together (.cons (.str "odd") (.cons (.var 0) (.cons (.var 1) .nil)))) .nil)))) (.cons (.ret (.comp false [("first", 3), ("beyond", 4), ("truth", 5)] [3, 4, 5] true (.lst (.var 2)) (.cons (.var 5) .nil) (.tup (.cons (.str "turn") (.cons (.var 3) (.cons (.var 4) .nil)))))) .nil))
theorem w1_turns_between : Body n_turns_between 2 b_turns_between sp_turns_between1 := by
  rintro ds M k x ⟨t, u, many, h, g, g', R, rfl, m1, m2, hs, V, U, hR, hl, hk⟩
  refine ⟨rfl, ?_⟩
  simp only [b_turns_between]
  walk_at "wt"
  refine .inl ⟨"odd", t, u, many, h, g, g', rfl, m1, m2, .inr (.inr rfl), hs, V, U, fun v v1 => ?_⟩
  have e0 : (fun p => opW "odd" (g p) (g' p)) = fun p => g p ^^ g' p := by
    funext p
    unfold opW
    rw [if_pos rfl]
  rw [e0] at v1
  refine ⟨v, many, h, rfl, m1, m2, hs, v1.row.1.fit, v1.leaf hs m1 m2 hR hl, fun R2 hR2 a ha => ?_⟩
  have e : R2 = R := hR2.one hR fun p p1 p2 => v1.vals p p1 p2
  subst e
  walk_at "wt"
  rw [mset_same]
  walk_at "wt"
  rw [mdel_mset ha, List.length_map]
  refine ⟨by omega, ?_⟩
  refine turns_fil (e := runD) (p := fun r => r.2.2) (f := fun r => .tup [.str "turn", .int r.1, .int r.2.1]) trivial _ (fun r _ q hq => ?_) ?_
  · obtain ⟨f, b, z⟩ := r
    simp only [runD]
    walk_at "wt"
    cases z <;> exact hq
  walk_at "wt"
  exact fewer_of hk

theorem w_turns_between : Body n_turns_between 2 b_turns_between sp_turns_between := by
  rintro ds M k x (h | ⟨⟨m, n, d, e, rfl, hne⟩, hx⟩)
  · exact w1_turns_between _ _ _ _ h
  · refine ⟨rfl, ?_⟩
    simp only [b_turns_between]
    walk_at "wt"
    exact .inr ⟨"odd", _, _, rfl, ⟨m, n, _, _, rfl, hne⟩, fewerX_of hx⟩
def sp_first_apart1 : Spec := fun ds M k x => ∃ (t u : Tree) (many : Int) (h : Nat) (g g' : Int → Bool) (R : List Run), ds = [.tup [.int many, treeD t], .tup [.int many, treeD u]] ∧ 1 ≤ many ∧ many ≤ 1000000000000 ∧ SizeOk many h ∧ RowV many t h g ∧ RowV many u h g' ∧ IsRuns R many (fun p => g p ^^ g' p) ∧ R.length ≤ 20000 ∧
  ∀ d, NthR (fun p => g p ^^ g' p) true 0 many 1 d → k d M
abbrev n_first_apart : List Str := ["one", "other", "deed"]
def b_first_apart_1 : B := (.cons (.ret .non) .nil)
def b_first_apart_2 : B := (.cons (.ret (.idx (.var 2) (.int 1))) .nil)
def b_first_apart : B := (.cons (.loop [2] false (.lst (.call "turns_between" sp_turns_between (.cons (.var 0) (.cons (.var 1) .nil)))) b_first_apart_2) b_first_apart_1)
theorem w1_first_apart : Body n_first_apart 2 b_first_apart sp_first_apart1 := by
  rintro ds M k x ⟨t, u, many, h, g, g', R, rfl, m1, m2, hs, V, U, hR, hl, hk⟩
  refine ⟨rfl, ?_⟩
  simp only [b_first_apart]
  walk_at "wt"
  refine .inl ⟨t, u, many, h, g, g', R, rfl, m1, m2, hs, V, U, hR, hl, ?_⟩
  have fo := first_on_run hR.chain
  have cg : ∀ b, b ≤ many → cnt (valR R) true 0 b = cnt (fun p => g p ^^ g' p) true 0 b := fun b hb => cnt_congr fun p p1 p2 => hR.val p p1 (by omega)
  unfold turnsL
  cases hz : R.filter fun r => r.2.2 with
  | nil =>
    rw [hz] at fo
    have fo : cnt (valR R) true 0 many = 0 := fo
    rw [cg many (Int.le_refl _)] at fo
    walk_at "wt"
    refine ⟨trivial, ?_⟩
    simp only [b_first_apart_1]
    walk_at "wt"
    exact fewer_of (hk .non ⟨fun z => by omega, fun _ => rfl⟩)
  | cons r S =>
    rw [hz] at fo
    have fo : IsNth (valR R) true 0 many 1 r.1 := fo
    have i1 := fo.lo
    have i2 := fo.hi
    have n2 : IsNth (fun p => g p ^^ g' p) true 0 many 1 r.1 := ⟨fo.lo, fo.hi, by rw [← hR.val _ fo.lo fo.hi]; exact fo.is, by rw [← cg _ (by omega)]; exact fo.nr⟩
    walk_at "wt"
    refine ⟨trivial, ?_⟩
    walk_at "wt"
    simp only [b_first_apart_2]
    walk_at "wt"
    refine fewer_of (hk _ ⟨fun _ => ⟨_, n2, rfl⟩, fun z => ?_⟩)
    have := n2.le.1
    omega
def sp_first_apart : Spec := fun ds M k x => sp_first_apart1 ds M k x ∨ (Unlike ds ∧ x "NoRow" M)
theorem w_first_apart : Body n_first_apart 2 b_first_apart sp_first_apart := by
  rintro ds M k x (h | ⟨⟨m, n, d, e, rfl, hne⟩, hx⟩)
  · exact w1_first_apart _ _ _ _ h
  · refine ⟨rfl, ?_⟩
    simp only [b_first_apart]
    walk_at "wt"
    exact .inr ⟨⟨m, n, _, _, rfl, hne⟩, fewerX_of hx⟩
def sp_bits_of : Spec := fun ds M k x => ∃ (t : Tree) (many : Int) (h : Nat) (g : Int → Bool) (R : List Run), ds = [.tup [.int many, treeD t]] ∧ 1 ≤ many ∧ many ≤ 8 ∧ SizeOk many h ∧ RowV many t h g ∧ IsRuns R many g ∧ R.length ≤ 20000 ∧ ∀ v, inR many v → Same many (tv v) g → k (.int v) M
abbrev n_bits_of : List Str := ["row", "found", "first", "beyond", "truth"]
def b_bits_of_1 : B := (.cons (.ret (.var 1)) .nil)
def b_bits_of_2 : B := (.cons (.ite (.var 4) (.cons (.asg 1 (.bin .bor (.var 1) (.bin .sub (.bin .shl (.int 1) (.var 3)) (.bin .shl (.int 1) (.var 2))))) .nil) .nil) .nil)
def b_bits_of : B := (.cons (.asg 1 (.int 0)) (.cons (.loop [2, 3, 4] true (.lst (.call "runs_told" sp_runs_told (.cons (.var 0) .nil))) b_bits_of_2) b_bits_of_1))
theorem w_bits_of : Body n_bits_of 1 b_bits_of sp_bits_of := by
  rintro ds M k x ⟨t, many, h, g, R, rfl, m1, m8, hs, V, hR, hl, hk⟩
  refine ⟨rfl, ?_⟩
  have m2 : many ≤ 1000000000000 := by omega
  simp only [b_bits_of]
  walk_at "wt"
  refine ⟨t, many, h, rfl, m1, m2, hs, V.row.1.fit, V.leaf hs m1 m2 hR hl, fun R2 hR2 a ha => ?_⟩
  have e : R2 = R := hR2.one hR fun p p1 p2 => V.vals p p1 p2
  subst e
  dsimp only
  rw [vw_lst mset_same]
  simp only [asL]
  refine floop_go (fun i ρ M' => M' = mset M a (.lst (R2.map runD)) ∧ ∃ (c v : Int) (o2 o3 o4 : Option D), 0 ≤ c ∧ c ≤ many ∧ Chain c many (R2.drop i) ∧ (∀ p, c ≤ p → p < many → valR (R2.drop i) p = g p) ∧ inR many v ∧ (∀ p, 0 ≤ p → p < many → tv v p = (decide (p < c) && g p)) ∧ ρ = [some (.tup [.int many, treeD t]), some (.int v), o2, o3, o4]) ⟨rfl, 0, 0, _, _, _, Int.le_refl _, by omega, hR.chain, fun p p0 p1 => hR.val p p0 p1, ⟨Int.le_refl _, pow_pos _⟩, fun p p0 p1 => ?_, rfl⟩ ?_ ?_
  · rw [decide_eq_false (by omega)]
    unfold tv tb
    simp
  · rintro i y ρ M' q hy ⟨rfl, c, v, o2, o3, o4, c0, c1, hch, hv, iv, tvv, rfl⟩ hq
    refine ⟨rfl, ?_⟩
    rw [List.getElem?_map] at hy
    cases e : R2[i]? with
    | none => rw [e] at hy; cases hy
    | some r =>
      rw [e] at hy
      cases hy
      have hi := (List.getElem?_eq_some_iff.mp e).1
      have ed : R2.drop i = r :: R2.drop (i + 1) := by
        rw [List.drop_eq_getElem_cons hi]
        congr 1
        exact (List.getElem?_eq_some_iff.mp e).2
      rw [ed] at hch hv
      obtain ⟨f, b, w⟩ := r
      obtain ⟨d1, d2, d3⟩ := hch
      have d1 : f = c := d1
      have d2 : c < b := d2
      have d3 : Chain b many (R2.drop (i + 1)) := d3
      have hle := Chain.le d3
      subst d1
      have gw : ∀ p, f ≤ p → p < b → g p = w := fun p p0 p1 => by rw [← hv p p0 (by omega), val_cons, if_pos p1]
      have hv2 : ∀ p, b ≤ p → p < many → valR (R2.drop (i + 1)) p = g p := fun p p0 p1 => by rw [← hv p (by omega) p1, val_cons, if_neg (by show ¬ p < b; omega)]
      have hg : good many f b := ⟨c0, d2, hle⟩
      have hm := maskI_rng hg
      simp only [runD]
      walk_at "wt"
      simp only [b_bits_of_2]
      walk_at "wt"
      cases w with
      | true =>
        walk_at "wt"
        refine ⟨⟨by omega, by omega⟩, ⟨by omega, by omega⟩, ?_⟩
        rw [Int.one_mul, Int.one_mul]
        refine hq _ _ ⟨rfl, b, Builtin.bitOr v (maskI f b), _, _, _, by omega, hle, d3, hv2, bor_rng _ iv.1 iv.2 hm.1 hm.2, fun p p0 p1 => ?_, rfl⟩
        have e2 : tv (Builtin.bitOr v (maskI f b)) p = (tv v p || tv (maskI f b) p) := tb_or _ _ _
        rw [e2, tvv p p0 p1, maskI_tv hg p p0]
        by_cases z : p < f
        · rw [decide_eq_true z, decide_eq_true (show p < b by omega), decide_eq_false (by omega)]
          simp
        · rw [decide_eq_false z]
          by_cases z2 : p < b
          · rw [decide_eq_true z2, decide_eq_true (by omega), gw p (by omega) z2]
            rfl
          · rw [decide_eq_false z2, decide_eq_false (by omega)]
            rfl
      | false =>
        walk_at "wt"
        refine hq _ _ ⟨rfl, b, v, _, _, _, by omega, hle, d3, hv2, iv, fun p p0 p1 => ?_, rfl⟩
        rw [tvv p p0 p1]
        by_cases z : p < f
        · rw [decide_eq_true z, decide_eq_true (show p < b by omega)]
        · rw [decide_eq_false z]
          by_cases z2 : p < b
          · rw [decide_eq_true z2, gw p (by omega) z2]
            rfl
          · rw [decide_eq_false z2]
  · rintro ρ M' ⟨rfl, c, v, o2, o3, o4, c0, c1, hch, hv, iv, tvv, rfl⟩
    refine ⟨rfl, ?_⟩
    rw [List.length_map, List.drop_length] at hch
    have hch : c = many := hch
    subst hch
    simp only [b_bits_of_1]
    walk_at "wt"
    refine fewer_to (less_new (Less.refl M) ha) (hk v iv fun p p0 p1 => ?_)
    rw [tvv p p0 p1, decide_eq_true p1]
    rfl
def sp_behind_all : Spec := fun ds M k x => ∃ (v : Int) (m : D) (ms : List Int), ds = [.int v, m] ∧ vw M m = .lst (ms.map .int) ∧ ms.length ≤ 1000 ∧ k (.lst ((ms.flatMap (trio v)).map .int)) M
abbrev n_behind_all : List Str := ["bits", "masks", "found", "mask"]
def b_behind_all_1 : B := (.cons (.ret (.frz (.var 2))) .nil)
def b_behind_all_2 : B := (.cons (.ext 2 (.lst false (.cons (.bin .bxor (.var 0) (.var 3)) (.cons (.bin .bor (.var 0) (.var 3)) (.cons (.bin .bxor (.bin .bor (.var 0) (.var 3)) (.var 3)) .nil))))) .nil)
def b_behind_all : B := (.cons (.asg 2 (.lst true .nil)) (.cons (.loop [3] false (.lst (.var 1)) b_behind_all_2) b_behind_all_1))
theorem w_behind_all : Body n_behind_all 2 b_behind_all sp_behind_all := by
  rintro ds M k x ⟨v, m, ms, rfl, hm, lm, hk⟩
  refine ⟨rfl, ?_⟩
  simp only [b_behind_all]
  walk_at "wt"
  intro a ha
  have hm2 : ∀ l, vw (mset M a (.lst l)) m = .lst (ms.map .int) ∧ guardD (mset M a (.lst [])) m (mset M a (.lst l)) := by
    intro l
    rcases vw_cases hm with rfl | ⟨b, l', rfl, e, hb⟩ | ⟨l', rfl, e⟩
    · exact ⟨rfl, trivial⟩
    · cases e
      have nb : b ≠ a := fun z => by rw [z, ha] at hb; cases hb
      refine ⟨by simp only [vw, mset_ne nb, hb], ?_⟩
      show mset M a _ b = mset M a _ b
      rw [mset_ne nb, mset_ne nb]
    · cases e
      exact ⟨rfl, trivial⟩
  rw [(hm2 []).1]
  walk_at "wt"
  have tl : ∀ l : List Int, (l.flatMap (trio v)).length = 3 * l.length := by
    intro l
    induction l with
    | nil => rfl
    | cons a l ih =>
      rw [List.flatMap_cons, List.length_append, ih, List.length_cons]
      show 3 + _ = _
      omega
  refine floop_go (fun i ρ M' => M' = mset M a (.lst (((ms.take i).flatMap (trio v)).map .int)) ∧ ∃ o3 : Option D, ρ = [some (.int v), some m, some (.ref a), o3]) ⟨rfl, _, rfl⟩ ?_ ?_
  · rintro i y ρ M' q hy ⟨rfl, o3, rfl⟩ hq
    refine ⟨(hm2 _).2, ?_⟩
    rw [List.getElem?_map] at hy
    cases e : ms[i]? with
    | none => rw [e] at hy; cases hy
    | some n =>
      rw [e] at hy
      cases hy
      have e2 : (ms.take (i + 1)).flatMap (trio v) = (ms.take i).flatMap (trio v) ++ trio v n := by
        rw [List.take_succ, e, Option.toList_some, List.flatMap_append]
        simp
      rw [e2] at hq
      have tk := tl (ms.take i)
      rw [List.length_take] at tk
      simp only [b_behind_all_2]
      walk_at "wt"
      rw [atV_s (d := .ref a) rfl, isL_ref mset_same]
      refine ⟨trivial, ?_⟩
      rw [app_ref mset_same, mset_mset, List.length_map]
      simp only [List.length_cons, List.length_nil]
      refine ⟨by omega, ?_⟩
      refine hq _ _ ⟨?_, _, rfl⟩
      rw [List.map_append]
      rfl
  · rintro ρ M' ⟨rfl, o3, rfl⟩
    refine ⟨(hm2 _).2, ?_⟩
    simp only [b_behind_all_1]
    walk_at "wt"
    rw [mset_same]
    walk_at "wt"
    rw [mdel_mset ha, List.length_map, List.take_length]
    exact fewer_of hk
def g_MOST_LITTLE : D := .int 8
def masksP (n i : Nat) : List Int := (List.range i).flatMap fun (f : Nat) => (List.range (n - f)).map fun (i : Nat) => maskI (f : Int) ((f : Int) + 1 + (i : Int))
theorem masksP_len (n : Nat) : ∀ i, (masksP n i).length ≤ i * n
  | 0 => by simp [masksP]
  | i + 1 => by
    unfold masksP
    rw [List.range_succ, List.flatMap_append, List.length_append]
    have := masksP_len n i
    unfold masksP at this
    simp only [List.flatMap_cons, List.flatMap_nil, List.append_nil, List.length_map, List.length_range]
    rw [Nat.add_mul]
    omega
theorem masksP_succ (n i : Nat) : masksP n (i + 1) = masksP n i ++ (List.range (n - i)).map fun (j : Nat) => maskI (i : Int) ((i : Int) + 1 + (j : Int)) := by
  unfold masksP
  rw [List.range_succ, List.flatMap_append]
  simp
theorem scI_low {many v : Int} (hv : inR many v) {y : Int} (hy : y ∈ scI many v) : inR many y := by
  obtain ⟨e, he, rfl⟩ := scI_mem.mp hy
  exact (opI_ok hv he).1
theorem inR_low {many v : Int} (h : 1 ≤ many ∧ many ≤ 8) (hv : inR many v) : 0 ≤ v ∧ v < (256 : Nat) := by
  have := pow_le (show many.toNat ≤ 8 by omega)
  have := hv.1
  have := hv.2
  omega
/-- the search's state between two rounds -/
structure Srch (many a : Int) (n : Nat) (goal : Int) (K L : List Int) : Prop where
  bfs : Bfs (scI many) a K L n
  low : Low 256 K
  not : ∀ m, m < n → ¬ Rc (scI many) a m goal
  big : n ≤ many.toNat
theorem Srch.start {many a goal : Int} (h : 1 ≤ many ∧ many ≤ 8) (ha : inR many a) : Srch many a 0 goal [a] [a] :=
  ⟨.start, ⟨by simp, fun x hx => by rw [List.mem_singleton] at hx; subst hx; exact inR_low h ha⟩, fun m hm => absurd hm (by omega), Nat.zero_le _⟩
theorem Srch.lvl {many a goal : Int} {n : Nat} {K L : List Int} (s : Srch many a n goal K L) (h : 1 ≤ many ∧ many ≤ 8) (ha : inR many a) : ∀ y ∈ L.flatMap (scI many), 0 ≤ y ∧ y < (256 : Nat) := fun y hy => by
  obtain ⟨v, hv, hy⟩ := List.mem_flatMap.mp hy
  exact inR_low h (scI_low (rc_fw ha ((s.bfs.kn v).mp (s.bfs.lv v hv))).1 hy)
theorem Srch.go {many a goal : Int} {n : Nat} {K L : List Int} (s : Srch many a n goal K L) (h : 1 ≤ many ∧ many ≤ 8) (ha : inR many a) (hg : inR many goal) (no : goal ∉ K) :
    n < many.toNat ∧ Srch many a (n + 1) goal (addAll (K, []) (L.flatMap (scI many))).1 (addAll (K, []) (L.flatMap (scI many))).2 := by
  have nn : ¬ Rc (scI many) a n goal := fun z => no ((s.bfs.kn goal).mpr z)
  have lt : n < many.toNat := by
    refine Nat.lt_of_not_le fun z => nn (fw_rc ha hg ?_)
    have := fw_all (g := tv a) (g' := tv goal) many.toNat
    rw [Int.toNat_of_nonneg (by omega)] at this
    exact this.mono z
  refine ⟨lt, s.bfs.wide, s.low.all (s := (K, [])) (s.lvl h ha), fun m hm => ?_, lt⟩
  by_cases c : m = n
  · subst c; exact nn
  · exact s.not m (by omega)
theorem Srch.fin {many a goal : Int} {n : Nat} {K L : List Int} (s : Srch many a n goal K L) (ha : inR many a) (hg : inR many goal) (yes : goal ∈ K) : Fst many n (tv a) (tv goal) :=
  fst_of ha hg ((s.bfs.kn goal).mp yes) s.not
def sp_fewest_deeds : Spec := fun ds M k x =>
  (∃ (t u : Tree) (many : Int) (h : Nat) (g g' : Int → Bool) (R R' : List Run), ds = [.tup [.int many, treeD t], .tup [.int many, treeD u]] ∧ 1 ≤ many ∧ many ≤ 8 ∧ SizeOk many h ∧ RowV many t h g ∧ RowV many u h g' ∧ IsRuns R many g ∧ R.length ≤ 20000 ∧ IsRuns R' many g' ∧ R'.length ≤ 20000 ∧
    ∀ n : Nat, Fst many n g g' → k (.int n) M) ∨
  (Unlike ds ∧ x "NoRow" M) ∨ (∃ (many : Int) (d e : D), ds = [.tup [.int many, d], .tup [.int many, e]] ∧ 8 < many ∧ x "NoNumber" M)
abbrev n_fewest_deeds : List Str := ["one", "other", "many", "masks", "first", "goal", "known", "level", "deeds", "wider", "bits", "behind", "beyond"]
def b_fewest_deeds_1 : B := (.cons (.ret (.var 8)) .nil)
def b_fewest_deeds_2 : B := (.cons (.asg 7 (.frz (.var 9))) .nil)
def b_fewest_deeds_3 : B := (.cons (.ite (.dhas true (.var 11) (.var 6)) (.cons (.setK (.var 6) (.var 11) (.bl true)) (.cons (.app 9 (.var 11)) .nil)) .nil) .nil)
def b_fewest_deeds_4 : B := (.cons (.loop [11] false (.lst (.call "behind_all" sp_behind_all (.cons (.var 10) (.cons (.var 3) .nil)))) b_fewest_deeds_3) .nil)
def b_fewest_deeds_5 : B := (.cons (.aug 8 .add (.int 1)) (.cons (.asg 9 (.lst true .nil)) (.cons (.loop [10] false (.lst (.var 7)) b_fewest_deeds_4) b_fewest_deeds_2)))
def b_fewest_deeds_6 : B := (.cons (.asg 5 (.call "bits_of" sp_bits_of (.cons (.var 1) .nil))) (.cons (.asg 6 (.dl1 (.call "bits_of" sp_bits_of (.cons (.var 0) .nil)) (.bl true))) (.cons (.asg 7 (.dkeys false (.var 6))) (.cons (.asg 8 (.int 0)) (.cons (.whl (.dhas true (.var 5) (.var 6)) b_fewest_deeds_5) b_fewest_deeds_1)))))
def b_fewest_deeds_7 : B := (.cons (.ext 3 (.comp false [("beyond", 12)] [12] false (.r2 (.bin .add (.var 4) (.int 1)) (.bin .add (.var 2) (.int 1))) .nil (.bin .sub (.bin .shl (.int 1) (.var 12)) (.bin .shl (.int 1) (.var 4))))) .nil)
def b_fewest_deeds_8 : B := (.cons (.asg 3 (.lst true .nil)) (.cons (.loop [4] false (.r1 (.var 2)) b_fewest_deeds_7) b_fewest_deeds_6))
def b_fewest_deeds : B := (.cons (.exp (.call "need_alike" sp_need_alike (.cons (.var 0) (.cons (.var 1) .nil)))) (.cons (.asg 2 (.idx (.var 0) (.int 0))) (.cons (.ite (.cmp .gt (.var 2) (.glb "MOST_LITTLE" g_MOST_LITTLE)) (.cons (.rais "NoNumber") .nil) .nil) b_fewest_deeds_8)))
theorem w_fewest_deeds : Body n_fewest_deeds 2 b_fewest_deeds sp_fewest_deeds := by
  rintro ds M k x (⟨t, u, many, h, g, g', R, R', rfl, m1, m8, hs, V, U, hR, hl, hR', hl', hk⟩ | ⟨⟨m, n, d, e, rfl, hne⟩, hx⟩ | ⟨many, d, e, rfl, hm, hx⟩)
  · refine ⟨rfl, ?_⟩
    have m2 : many ≤ 1000000000000 := by omega
    simp only [b_fewest_deeds]
    walk_at "wt"
    refine ⟨many, many, _, _, rfl, fun _ => ?_, fun z => absurd rfl z⟩
    walk_at "wt"
    simp only [g_MOST_LITTLE]
    walk_at "wt"
    refine ite_of (fun z => absurd z (by omega)) (fun _ => ?_)
    simp only [b_fewest_deeds_8]
    walk_at "wt"
    intro m hm
    refine ⟨⟨by omega, by omega⟩, ?_⟩
    refine floop_go (fun i ρ M' => M' = mset M m (.lst ((masksP many.toNat i).map .int)) ∧ ∃ o4 : Option D, ρ = [some (.tup [.int many, treeD t]), some (.tup [.int many, treeD u]), some (.int many), some (.ref m), o4, none, none, none, none, none, none, none, none]) ⟨rfl, _, rfl⟩ ?_ ?_
    · rintro i y ρ M' q hy ⟨rfl, o4, rfl⟩ hq
      obtain ⟨rfl, hi⟩ := get_rangeD hy
      refine ⟨trivial, ?_⟩
      have lP := masksP_len many.toNat i
      have lP2 : i * many.toNat ≤ 8 * 8 := Nat.mul_le_mul (by omega) (by omega)
      simp only [b_fewest_deeds_7]
      walk_at "wt"
      rw [atV_s (d := .ref m) rfl, isL_ref mset_same]
      refine ⟨trivial, ⟨⟨by omega, by omega⟩, by omega, by omega⟩, ?_⟩
      rw [len_rangeD]
      refine ⟨by omega, ?_⟩
      unfold rangeD
      refine turns_map (e := fun n : Nat => D.int (0 + (i : Int) + 1 + (n : Nat))) (f := fun n : Nat => D.int (maskI (i : Int) ((i : Int) + 1 + (n : Int)))) trivial _ (fun j hj q hq => ?_) ?_
      · rw [List.mem_range] at hj
        walk_at "wt"
        refine ⟨⟨by omega, by omega⟩, ⟨by omega, by omega⟩, ?_⟩
        rw [Int.one_mul, Int.one_mul, Int.zero_add]
        exact hq
      walk_at "wt"
      rw [app_ref mset_same, mset_mset, List.length_map, List.length_map, List.length_range]
      refine ⟨by omega, ?_⟩
      refine hq _ _ ⟨?_, _, rfl⟩
      rw [masksP_succ, List.map_append, List.map_map, show (many + 1 - (0 + (i : Int) + 1)).toNat = many.toNat - i by omega]
      rfl
    · rintro ρ M' ⟨rfl, o4, rfl⟩
      refine ⟨trivial, ?_⟩
      rw [len_rangeD, show (many - 0).toNat = many.toNat by omega, show masksP many.toNat many.toNat = masksL many from rfl]
      have lM : (masksL many).length ≤ 64 := by
        have h1 := masksP_len many.toNat many.toNat
        have h2 : many.toNat * many.toNat ≤ 8 * 8 := Nat.mul_le_mul (by omega) (by omega)
        have h1 : (masksL many).length ≤ many.toNat * many.toNat := h1
        omega
      simp only [b_fewest_deeds_6]
      walk_at "wt"
      refine ⟨u, many, h, g', R', rfl, m1, m8, hs, U, hR', hl', fun goal hg sg => ?_⟩
      refine ⟨t, many, h, g, R, rfl, m1, m8, hs, V, hR, hl, fun a ha sa => ?_⟩
      refine ⟨.inl a, rfl, fun kn hkn => ?_⟩
      have nmk : m ≠ kn := fun z => by rw [← z, mset_same] at hkn; cases hkn
      have hMk : M kn = none := by rwa [mset_ne (Ne.symm nmk)] at hkn
      obtain ⟨Mb, hMb⟩ : ∃ Mb, Mb = mset M m (.lst ((masksL many).map .int)) := ⟨_, rfl⟩
      rw [← hMb]
      have bm : Mb m = some (.lst ((masksL many).map .int)) := by rw [hMb, mset_same]
      have bk : Mb kn = none := by rw [hMb, mset_ne (Ne.symm nmk)]; exact hMk
      simp only [dctD, mset_same]
      walk_at "wt"
      refine ⟨many.toNat + 2, wloop_go (fun i ρ M' => ∃ (n : Nat) (K L : List Int) (o9 o10 o11 o12 : Option D), i = many.toNat - n ∧ Srch many a n goal K L ∧ M' kn = some (.dct (kd K)) ∧ (∀ b, b ≠ kn → M' b = Mb b) ∧ ρ = [some (.tup [.int many, treeD t]), some (.tup [.int many, treeD u]), some (.int many), some (.ref m), o4, some (.int goal), some (.ref kn), some (.lst (L.map .int)), some (.int n), o9, o10, o11, o12]) ?_ (many.toNat + 2) many.toNat _ _ (by omega) ⟨0, [a], [a], _, _, _, _, rfl, .start ⟨m1, m8⟩ ha, by rw [mset_same]; rfl, fun b hb => by rw [mset_ne hb], rfl⟩⟩
      rintro i ρ M' q ⟨n, K, L, o9, o10, o11, o12, rfl, hS, hK, hB, rfl⟩ hq
      walk_at "wt"
      simp only [dctD, hK, keyD]
      refine ⟨.inl goal, rfl, ?_⟩
      rw [getA_kd]
      try simp only [if_true, asBl]
      by_cases c : goal ∈ K
      · rw [decide_eq_true c]
        simp only [Bool.not_true, Bool.false_eq_true, if_false, b_fewest_deeds_1]
        walk_at "wt"
        refine fewer_to (fun b e hb => .inl ?_) (hk n ((hS.fin ha hg c).same sa sg))
        have b1 : b ≠ kn := fun z => by rw [z, hMk] at hb; cases hb
        have b2 : b ≠ m := fun z => by rw [z, hm] at hb; cases hb
        rw [hB b b1, hMb, mset_ne b2]
        exact hb
      · rw [decide_eq_false c]
        obtain ⟨lt, hS2⟩ := hS.go ⟨m1, m8⟩ ha hg c
        have lv := hS.lvl ⟨m1, m8⟩ ha
        have l256 := hS.low.two lv
        simp only [Bool.not_false, if_true, b_fewest_deeds_5]
        walk_at "wt"
        rw [atV_s (d := .int n) rfl]
        walk_at "wt"
        intro w hw
        have nkw : kn ≠ w := fun z => by rw [← z, hK] at hw; cases hw
        have nmw : m ≠ w := fun z => by rw [← z, hB m nmk, bm] at hw; cases hw
        have bw : Mb w = none := by rw [← hB w (Ne.symm nkw)]; exact hw
        refine floop_go (fun j ρ M2 => Mets kn w Mb (addAll (K, []) ((L.take j).flatMap (scI many))) M2 ∧ ∃ o10 o11 o12 : Option D, ρ = [some (.tup [.int many, treeD t]), some (.tup [.int many, treeD u]), some (.int many), some (.ref m), o4, some (.int goal), some (.ref kn), some (.lst (L.map .int)), some (.int ((n : Int) + 1)), some (.ref w), o10, o11, o12]) ⟨⟨by rw [mset_ne nkw]; exact hK, by rw [mset_same]; rfl, fun b b1 b2 => by rw [mset_ne b2, hB b b1]⟩, _, _, _, rfl⟩ ?_ ?_
        · rintro j y ρ M2 q2 hy ⟨hM2, o10, o11, o12, rfl⟩ hq2
          refine ⟨trivial, ?_⟩
          rw [List.getElem?_map] at hy
          cases e : L[j]? with
          | none => rw [e] at hy; cases hy
          | some v =>
            rw [e] at hy
            cases hy
            have e2 : (L.take (j + 1)).flatMap (scI many) = (L.take j).flatMap (scI many) ++ scI many v := by
              rw [List.take_succ, e, Option.toList_some, List.flatMap_append]
              simp
            rw [e2, addAll_append] at hq2
            have sub : ∀ y ∈ (L.take j).flatMap (scI many) ++ scI many v, 0 ≤ y ∧ y < (256 : Nat) := fun y hy => by
              rw [← e2] at hy
              obtain ⟨v', h1, h2⟩ := List.mem_flatMap.mp hy
              exact lv y (List.mem_flatMap.mpr ⟨v', List.mem_of_mem_take h1, h2⟩)
            simp only [b_fewest_deeds_4]
            walk_at "wt"
            refine ⟨v, .ref m, masksL many, rfl, ?_, by omega, ?_⟩
            · simp only [vw, hM2.rest m nmk nmw, bm]
            rw [show (masksL many).flatMap (trio v) = scI many v from rfl]
            walk_at "wt"
            refine floop_go (fun l ρ M3 => Mets kn w Mb (addAll (addAll (K, []) ((L.take j).flatMap (scI many))) ((scI many v).take l)) M3 ∧ ∃ o11 o12 : Option D, ρ = [some (.tup [.int many, treeD t]), some (.tup [.int many, treeD u]), some (.int many), some (.ref m), o4, some (.int goal), some (.ref kn), some (.lst (L.map .int)), some (.int ((n : Int) + 1)), some (.ref w), some (.int v), o11, o12]) ⟨hM2, _, _, rfl⟩ ?_ ?_
            · rintro l y ρ M3 q3 hy ⟨hM3, o11, o12, rfl⟩ hq3
              refine ⟨trivial, ?_⟩
              rw [List.getElem?_map] at hy
              cases e3 : (scI many v)[l]? with
              | none => rw [e3] at hy; cases hy
              | some z =>
                rw [e3] at hy
                cases hy
                rw [List.take_succ, e3, Option.toList_some, addAll_snoc] at hq3
                have e4 : addAll (addAll (K, []) ((L.take j).flatMap (scI many))) ((scI many v).take l) = addAll (K, []) ((L.take j).flatMap (scI many) ++ (scI many v).take l) := (addAll_append _ _ _).symm
                have l2 := hS.low.two (l := (L.take j).flatMap (scI many) ++ (scI many v).take l) fun y hy => sub y ((List.mem_append.mp hy).elim (fun h => List.mem_append_left _ h) fun h => List.mem_append_right _ (List.mem_of_mem_take h))
                rw [← e4] at l2
                simp only [target, put, b_fewest_deeds_3]
                refine hM3.step (r := fewer k) (xx := fun c _ M' => fewerX x c M') (x := 11) (y := 6) (w := 9) (v := z) rfl rfl rfl nkw (by omega) (by omega) fun M4 hM4 => hq3 _ _ ⟨hM4, _, _, rfl⟩
            · rintro ρ M3 ⟨hM3, o11, o12, rfl⟩
              refine ⟨trivial, ?_⟩
              rw [List.length_map, List.take_length] at hM3
              exact hq2 _ _ ⟨hM3, _, _, _, rfl⟩
        · rintro ρ M2 ⟨hM2, o10, o11, o12, rfl⟩
          refine ⟨trivial, ?_⟩
          rw [List.length_map, List.take_length] at hM2
          simp only [b_fewest_deeds_2]
          walk_at "wt"
          rw [hM2.new]
          refine hq (many.toNat - (n + 1)) _ _ (by omega) ⟨n + 1, _, _, _, _, _, _, rfl, hS2, ?_, fun b hb => ?_, rfl⟩
          · unfold mdel
            rw [if_neg nkw]
            exact hM2.met
          · unfold mdel
            by_cases z : b = w
            · rw [if_pos z, z, bw]
            · rw [if_neg z]
              exact hM2.rest b hb z
  · refine ⟨rfl, ?_⟩
    simp only [b_fewest_deeds]
    walk_at "wt"
    exact ⟨m, n, _, _, rfl, fun z => absurd z hne, fun _ => fewerX_of hx⟩
  · refine ⟨rfl, ?_⟩
    simp only [b_fewest_deeds]
    walk_at "wt"
    refine ⟨many, many, _, _, rfl, fun _ => ?_, fun z => absurd rfl z⟩
    walk_at "wt"
    simp only [g_MOST_LITTLE]
    walk_at "wt"
    refine ite_of (fun _ => fewerX_of hx) (fun z => absurd hm (by omega))
/-! ### runs of two rows put together -/
def glue (r : Run) : List Run → List Run
  | [] => [r]
  | t :: T => if t.2.2 = r.2.2 then (r.1, t.2.1, r.2.2) :: T else r :: t :: T
theorem glue_ok {a m b : Int} {v : Bool} {T : List Run} (h : a < m) (hc : Chain m b T) (al : Alt T) : Chain a b (glue (a, m, v) T) ∧ Alt (glue (a, m, v) T) ∧ (∀ p, a ≤ p → p < b → valR (glue (a, m, v) T) p = if p < m then v else valR T p) ∧ (glue (a, m, v) T).length ≤ T.length + 1 := by
  cases T with
  | nil =>
    have e : m = b := hc
    subst e
    exact ⟨⟨rfl, h, rfl⟩, ⟨(fun _ hs => nomatch hs), trivial⟩, fun p p0 p1 => by unfold glue; rw [val_cons], Nat.le_refl _⟩
  | cons t T =>
    obtain ⟨c1, c2, c3⟩ := hc
    by_cases c : t.2.2 = v
    · have eg : glue (a, m, v) (t :: T) = (a, t.2.1, v) :: T := if_pos c
      rw [eg]
      refine ⟨⟨rfl, by show a < t.2.1; omega, c3⟩, ⟨fun s hs => by rw [← c]; exact al.1 s hs, al.2⟩, fun p p0 p1 => ?_, Nat.le_succ _⟩
      rw [val_cons, val_cons]
      dsimp only
      by_cases z : p < m
      · rw [if_pos z, if_pos (by omega)]
      · rw [if_neg z]
        by_cases z2 : p < t.2.1
        · rw [if_pos z2, if_pos z2, c]
        · rw [if_neg z2, if_neg z2]
    · have eg : glue (a, m, v) (t :: T) = (a, m, v) :: t :: T := if_neg c
      rw [eg]
      refine ⟨⟨rfl, h, c1, c2, c3⟩, ⟨fun s hs => by cases hs; exact fun z => c z.symm, al⟩, fun p p0 p1 => by rw [val_cons], Nat.le_refl _⟩
theorem both_runs (op : Bool → Bool → Bool) : ∀ (n : Nat) (R S : List Run) (a b : Int), R.length + S.length ≤ n → Chain a b R → Chain a b S → ∃ T, Chain a b T ∧ Alt T ∧ (∀ p, a ≤ p → p < b → valR T p = op (valR R p) (valR S p)) ∧ T.length ≤ R.length + S.length
  | n, [], S, a, b, hn, hR, hS => by
    have e : a = b := hR
    subst e
    exact ⟨[], rfl, trivial, fun p p0 p1 => by omega, Nat.zero_le _⟩
  | n, r :: R, [], a, b, hn, hR, hS => by
    have e : a = b := hS
    subst e
    exact ⟨[], rfl, trivial, fun p p0 p1 => by omega, Nat.zero_le _⟩
  | 0, r :: R, s :: S, a, b, hn, hR, hS => by simp at hn
  | n + 1, r :: R, s :: S, a, b, hn, ⟨r1, r2, r3⟩, ⟨s1, s2, s3⟩ => by
    simp only [List.length_cons] at hn
    have hr := Chain.le r3
    have hs := Chain.le s3
    have fin : ∀ (m : Int) (R1 S1 : List Run), a < m → m ≤ r.2.1 → m ≤ s.2.1 → R1.length + S1.length ≤ n → R1.length + S1.length + 1 ≤ (r :: R).length + (s :: S).length → Chain m b R1 → Chain m b S1 → (∀ p, m ≤ p → valR (r :: R) p = valR R1 p) → (∀ p, m ≤ p → valR (s :: S) p = valR S1 p) →
        ∃ T, Chain a b T ∧ Alt T ∧ (∀ p, a ≤ p → p < b → valR T p = op (valR (r :: R) p) (valR (s :: S) p)) ∧ T.length ≤ (r :: R).length + (s :: S).length := by
      intro m R1 S1 h1 h2 h3 h4 h5 c1 c2 v1 v2
      obtain ⟨T, t1, t2, t3, t4⟩ := both_runs op n R1 S1 m b h4 c1 c2
      obtain ⟨g1, g2, g3, g4⟩ := glue_ok (v := op r.2.2 s.2.2) h1 t1 t2
      refine ⟨_, g1, g2, fun p p0 p1 => ?_, by omega⟩
      rw [g3 p p0 p1]
      by_cases z : p < m
      · rw [if_pos z, val_cons, if_pos (by omega), val_cons, if_pos (by omega)]
      · rw [if_neg z, t3 p (by omega) p1, v1 p (by omega), v2 p (by omega)]
    by_cases c : r.2.1 < s.2.1
    · refine fin r.2.1 R ((r.2.1, s.2.1, s.2.2) :: S) r2 (Int.le_refl _) (by omega) (by simp only [List.length_cons]; omega) (by simp only [List.length_cons]; omega) r3 ⟨rfl, c, s3⟩ (fun p hp => by rw [val_cons, if_neg (by omega)]) fun p hp => by rw [val_cons, val_cons]
    · by_cases c2 : s.2.1 < r.2.1
      · refine fin s.2.1 ((s.2.1, r.2.1, r.2.2) :: R) S s2 (by omega) (Int.le_refl _) (by simp only [List.length_cons]; omega) (by simp only [List.length_cons]; omega) ⟨rfl, c2, r3⟩ s3 (fun p hp => by rw [val_cons, val_cons]) fun p hp => by rw [val_cons, if_neg (by omega)]
      · have e : s.2.1 = r.2.1 := by omega
        refine fin r.2.1 R S r2 (Int.le_refl _) (by omega) (by omega) (by simp only [List.length_cons]; omega) r3 (e ▸ s3) (fun p hp => by rw [val_cons, if_neg (by omega)]) fun p hp => by rw [val_cons, if_neg (by omega)]
theorem IsRuns.both {many : Int} {R S : List Run} {g g' : Int → Bool} (r : IsRuns R many g) (s : IsRuns S many g') (op : Bool → Bool → Bool) : ∃ T, IsRuns T many (fun p => op (g p) (g' p)) ∧ T.length ≤ R.length + S.length := by
  obtain ⟨T, t1, t2, t3, t4⟩ := both_runs op _ R S 0 many (Nat.le_refl _) r.chain s.chain
  exact ⟨T, ⟨t1, t2, fun p p0 p1 => by rw [t3 p p0 p1, r.val p p0 p1, s.val p p0 p1]⟩, t4⟩
/-! ### the turns that make one row of another -/
theorem chain_in : ∀ {l : List Run} {a b : Int}, Chain a b l → ∀ r ∈ l, a ≤ r.1 ∧ r.1 < r.2.1 ∧ r.2.1 ≤ b
  | [], _, _, _, _, h => nomatch h
  | s :: l, a, b, hc, r, hr => by
    obtain ⟨c1, c2, c3⟩ := hc
    have hle := Chain.le c3
    rcases List.mem_cons.mp hr with rfl | hr
    · omega
    · have := chain_in c3 r hr
      omega
def onDeeds (R : List Run) : List Deed := (R.filter fun r => r.2.2).map fun r => (("turn" : Str), r.1, r.2.1)
theorem turnsL_on (R : List Run) : turnsL R = (onDeeds R).map deedD := by
  unfold turnsL onDeeds
  rw [List.map_map]
  rfl
theorem onDeeds_len (R : List Run) : (onDeeds R).length = (R.filter fun r => r.2.2).length := by
  unfold onDeeds
  rw [List.length_map]
theorem onDeeds_gd {R : List Run} {many : Int} (h : Chain 0 many R) : ∀ e ∈ onDeeds R, gd many e := fun e he => by
  unfold onDeeds at he
  obtain ⟨r, hr, rfl⟩ := List.mem_map.mp he
  have := chain_in h r (List.mem_filter.mp hr).1
  exact ⟨.inl rfl, by show 0 ≤ r.1; omega, by show r.1 < r.2.1; omega, by show r.2.1 ≤ many; omega⟩
theorem swkt (b : Bool) : swk "turn" b = !b := by
  unfold swk
  rw [if_pos rfl]
/-- which places turns turn -/
def flips (l : List Deed) (p : Int) : Bool := l.foldl (fun b e => b ^^ decide (e.2.1 ≤ p ∧ p < e.2.2)) false
theorem flips_go (p : Int) : ∀ (l : List Deed) (g : Int → Bool) (b : Bool), (∀ e ∈ l, e.1 = "turn") → dVs l g p = (g p ^^ (l.foldl (fun b e => b ^^ decide (e.2.1 ≤ p ∧ p < e.2.2)) b ^^ b))
  | [], g, b, _ => by
    show g p = _
    simp
  | e :: l, g, b, h => by
    show dVs l (dV e g) p = _
    rw [flips_go p l (dV e g) (b ^^ decide (e.2.1 ≤ p ∧ p < e.2.2)) fun d hd => h d (List.mem_cons_of_mem _ hd), List.foldl_cons]
    generalize List.foldl _ (b ^^ decide (e.2.1 ≤ p ∧ p < e.2.2)) l = x
    unfold dV
    rw [h e List.mem_cons_self, swkt]
    by_cases c : e.2.1 ≤ p ∧ p < e.2.2
    · rw [if_pos c, decide_eq_true c]
      cases g p <;> cases x <;> cases b <;> rfl
    · rw [if_neg c, decide_eq_false c]
      cases g p <;> cases x <;> cases b <;> rfl
theorem flips_do {l : List Deed} (g : Int → Bool) (p : Int) (h : ∀ e ∈ l, e.1 = "turn") : dVs l g p = (g p ^^ flips l p) := by
  have := flips_go p l g false h
  rw [Bool.xor_false] at this
  exact this
theorem onDeeds_turn (R : List Run) : ∀ e ∈ onDeeds R, e.1 = "turn" := fun e he => by
  unfold onDeeds at he
  obtain ⟨r, hr, rfl⟩ := List.mem_map.mp he
  rfl
theorem flips_cons (e : Deed) (l : List Deed) (p : Int) (h : e.1 = "turn") (hl : ∀ d ∈ l, d.1 = "turn") : flips (e :: l) p = (decide (e.2.1 ≤ p ∧ p < e.2.2) ^^ flips l p) := by
  have a := flips_do (l := e :: l) (fun _ => false) p fun d hd => (List.mem_cons.mp hd).elim (fun z => z ▸ h) (hl d)
  have b := flips_do (l := l) (dV e fun _ => false) p hl
  have c : dVs (e :: l) (fun _ => false) p = dVs l (dV e fun _ => false) p := rfl
  rw [c, b] at a
  unfold dV at a
  rw [h, swkt] at a
  by_cases z : e.2.1 ≤ p ∧ p < e.2.2
  · rw [if_pos z] at a
    rw [decide_eq_true z]
    revert a
    cases flips l p <;> cases flips (e :: l) p <;> simp
  · rw [if_neg z] at a
    rw [decide_eq_false z]
    revert a
    cases flips l p <;> cases flips (e :: l) p <;> simp
theorem onDeeds_flips : ∀ {R : List Run} {a b : Int}, Chain a b R → ∀ p, flips (onDeeds R) p = (decide (a ≤ p ∧ p < b) && valR R p)
  | [], a, b, h, p => by
    have h : a = b := h
    rw [decide_eq_false (by omega)]
    rfl
  | r :: R, a, b, h, p => by
    obtain ⟨c1, c2, c3⟩ := h
    have hle := Chain.le c3
    have ih := onDeeds_flips c3 p
    rw [val_cons]
    by_cases c : r.2.2 = true
    · have e : onDeeds (r :: R) = (("turn" : Str), r.1, r.2.1) :: onDeeds R := by
        unfold onDeeds
        rw [List.filter_cons, if_pos c, List.map_cons]
      rw [e, flips_cons _ _ _ rfl (onDeeds_turn R), ih, c]
      dsimp only
      by_cases z : p < r.2.1
      · rw [if_pos z, decide_eq_false (show ¬ (r.2.1 ≤ p ∧ p < b) by omega)]
        by_cases z2 : a ≤ p
        · rw [decide_eq_true (by omega), decide_eq_true (by omega)]; rfl
        · rw [decide_eq_false (by omega), decide_eq_false (by omega)]; rfl
      · rw [if_neg z, decide_eq_false (show ¬ (r.1 ≤ p ∧ p < r.2.1) by omega)]
        by_cases z2 : p < b
        · rw [decide_eq_true (by omega), decide_eq_true (by omega)]; simp
        · rw [decide_eq_false (by omega), decide_eq_false (by omega)]; rfl
    · have e : onDeeds (r :: R) = onDeeds R := by
        unfold onDeeds
        rw [List.filter_cons, if_neg c]
      rw [e, ih]
      have cf : r.2.2 = false := by simpa using c
      rw [cf]
      by_cases z : p < r.2.1
      · rw [if_pos z, decide_eq_false (show ¬ (r.2.1 ≤ p ∧ p < b) by omega)]
        simp
      · rw [if_neg z]
        by_cases z2 : p < b
        · rw [decide_eq_true (by omega), decide_eq_true (by omega)]
        · rw [decide_eq_false (by omega), decide_eq_false (by omega)]
theorem turns_make {R : List Run} {many : Int} {g g' : Int → Bool} (h : IsRuns R many fun p => g p ^^ g' p) : Same many (dVs (onDeeds R) g) g' := fun p p0 p1 => by
  rw [flips_do g p (onDeeds_turn R), onDeeds_flips h.chain p, decide_eq_true ⟨p0, p1⟩, Bool.true_and, h.val p p0 p1]
  cases g p <;> cases g' p <;> rfl
/-- one turn less doesn't do -/
theorem turns_less {R : List Run} {many : Int} {g g' : Int → Bool} (h : IsRuns R many fun p => g p ^^ g' p) (hne : onDeeds R ≠ []) : ∃ p, 0 ≤ p ∧ p < many ∧ dVs ((onDeeds R).drop 1) g p ≠ g' p := by
  have hm := turns_make h
  have gds := onDeeds_gd h.chain
  have tn := onDeeds_turn R
  cases e : onDeeds R with
  | nil => exact absurd e hne
  | cons d l =>
    rw [e] at hm gds tn
    obtain ⟨_, g1, g2, g3⟩ := gds d List.mem_cons_self
    refine ⟨d.2.1, g1, by omega, fun z => ?_⟩
    have h1 := hm d.2.1 g1 (by omega)
    have tl : ∀ q ∈ l, q.1 = "turn" := fun q hq => tn q (List.mem_cons_of_mem _ hq)
    rw [flips_do g _ tn, flips_cons d l _ (tn d List.mem_cons_self) tl, decide_eq_true (by omega)] at h1
    have z : dVs l g d.2.1 = g' d.2.1 := z
    rw [flips_do g _ tl, ← h1] at z
    revert z
    cases g d.2.1 <;> cases flips l d.2.1 <;> simp
theorem IsRuns.ne {R S : List Run} {many : Int} {g g' : Int → Bool} (r : IsRuns R many g) (s : IsRuns S many g') {p : Int} (p0 : 0 ≤ p) (p1 : p < many) (h : g p ≠ g' p) : R ≠ S := fun e => by
  subst e
  exact h (by rw [← r.val p p0 p1, s.val p p0 p1])
/-! ### how many are on in two rows together -/
theorem cntN_two {f1 f2 f3 f4 : Int → Bool} (h : ∀ p, (if f1 p = true then (1 : Int) else 0) + (if f2 p = true then 1 else 0) = (if f3 p = true then 1 else 0) + if f4 p = true then 1 else 0) : ∀ (n : Nat), cnt f1 true 0 n + cnt f2 true 0 n = cnt f3 true 0 n + cnt f4 true 0 n
  | 0 => by rw [cnt_emp (by omega), cnt_emp (by omega), cnt_emp (by omega), cnt_emp (by omega)]
  | n + 1 => by
    have ih := cntN_two h n
    have e : ((n + 1 : Nat) : Int) = (n : Int) + 1 := rfl
    rw [e, cnt_snoc (by omega), cnt_snoc (by omega), cnt_snoc (by omega), cnt_snoc (by omega)]
    have := h n
    omega
theorem cnt_words (g g' : Int → Bool) {many : Int} (h : 0 ≤ many) :
    cnt (fun p => opW "both" (g p) (g' p)) true 0 many + cnt (fun p => opW "either" (g p) (g' p)) true 0 many = cnt g true 0 many + cnt g' true 0 many ∧
    cnt (fun p => opW "odd" (g p) (g' p)) true 0 many = cnt (fun p => opW "either" (g p) (g' p)) true 0 many - cnt (fun p => opW "both" (g p) (g' p)) true 0 many := by
  have n1 : ¬ (("both" : Str) = "odd") := by decide +kernel
  have n2 : ¬ (("either" : Str) = "odd") := by decide +kernel
  have n3 : ¬ (("either" : Str) = "both") := by decide +kernel
  obtain ⟨n, rfl⟩ : ∃ n : Nat, many = n := ⟨many.toNat, by omega⟩
  have eb : (fun p => opW "both" (g p) (g' p)) = fun p => g p && g' p := by funext p; unfold opW; rw [if_neg n1, if_pos rfl]
  have ee : (fun p => opW "either" (g p) (g' p)) = fun p => g p || g' p := by funext p; unfold opW; rw [if_neg n2, if_neg n3]
  have eo : (fun p => opW "odd" (g p) (g' p)) = fun p => g p ^^ g' p := by funext p; unfold opW; rw [if_pos rfl]
  rw [eb, ee, eo]
  have h1 := cntN_two (f1 := fun p => g p && g' p) (f2 := fun p => g p || g' p) (f3 := g) (f4 := g') (fun p => by cases g p <;> cases g' p <;> simp) n
  have h2 := cntN_two (f1 := fun p => g p ^^ g' p) (f2 := fun p => g p && g' p) (f3 := fun p => g p || g' p) (f4 := fun _ => false) (fun p => by cases g p <;> cases g' p <;> simp) n
  rw [cnt_const (g := fun _ => false) (u := false) (by omega) (fun _ _ _ => rfl), if_neg (by decide)] at h2
  omega
/-! ### the fewest deeds: laws -/
theorem Fw.rfl {many : Int} {n : Nat} {g : Int → Bool} : Fw many n g g := ⟨[], Nat.zero_le _, (fun _ h => nomatch h), .rfl⟩
theorem Fw.one {many : Int} {g : Int → Bool} {e : Deed} (h : gd many e) : Fw many 1 g (dV e g) := ⟨[e], Nat.le_refl _, fun d hd => by rw [List.mem_singleton] at hd; exact hd ▸ h, .rfl⟩
theorem Fw.turns {many : Int} {R : List Run} {g g' : Int → Bool} (h : IsRuns R many fun p => g p ^^ g' p) : Fw many (onDeeds R).length g g' := ⟨onDeeds R, Nat.le_refl _, onDeeds_gd h.chain, turns_make h⟩
/-- a deed of the row turned -/
def opp (e : Deed) : Deed := (if e.1 = "on" then "off" else if e.1 = "off" then "on" else e.1, e.2.1, e.2.2)
theorem opp_gd {many : Int} {e : Deed} (h : gd many e) : gd many (opp e) := by
  obtain ⟨k, f, b⟩ := e
  obtain ⟨hk, hg⟩ := h
  refine ⟨?_, hg⟩
  have n1 : ¬ (("turn" : Str) = "on") := by decide +kernel
  have n2 : ¬ (("turn" : Str) = "off") := by decide +kernel
  have n3 : ¬ (("off" : Str) = "on") := by decide +kernel
  unfold opp
  dsimp only at hk ⊢
  rcases hk with rfl | rfl | rfl
  · rw [if_neg n1, if_neg n2]; exact .inl rfl
  · rw [if_pos rfl]; exact .inr (.inr rfl)
  · rw [if_neg n3, if_pos rfl]; exact .inr (.inl rfl)
theorem opp_dV {many : Int} {e : Deed} (h : gd many e) (g : Int → Bool) : dV (opp e) (fun p => !g p) = fun p => !dV e g p := by
  obtain ⟨k, f, b⟩ := e
  obtain ⟨hk, hg⟩ := h
  have n1 : ¬ (("turn" : Str) = "on") := by decide +kernel
  have n2 : ¬ (("turn" : Str) = "off") := by decide +kernel
  have n3 : ¬ (("off" : Str) = "on") := by decide +kernel
  have n4 : ¬ (("on" : Str) = "turn") := by decide +kernel
  have n5 : ¬ (("off" : Str) = "turn") := by decide +kernel
  funext p
  unfold opp dV swk
  dsimp only at hk ⊢
  by_cases c : f ≤ p ∧ p < b
  · rw [if_pos c, if_pos c]
    rcases hk with rfl | rfl | rfl
    · rw [if_neg n1, if_neg n2, if_pos rfl, if_pos rfl]
    · rw [if_pos rfl, if_neg n5, if_neg n4, decide_eq_false n3, decide_eq_true rfl]; rfl
    · rw [if_neg n3, if_pos rfl, if_neg n4, if_neg n5, decide_eq_false n3, decide_eq_true rfl]; rfl
  · rw [if_neg c, if_neg c]
theorem opp_dVs {many : Int} : ∀ (l : List Deed) (g : Int → Bool), (∀ e ∈ l, gd many e) → dVs (l.map opp) (fun p => !g p) = fun p => !dVs l g p
  | [], g, _ => rfl
  | e :: l, g, h => by
    show dVs (l.map opp) (dV (opp e) fun p => !g p) = fun p => !dVs l (dV e g) p
    rw [opp_dV (h e List.mem_cons_self), opp_dVs l (dV e g) fun d hd => h d (List.mem_cons_of_mem _ hd)]
theorem Fw.opp {many : Int} {n : Nat} {g g' : Int → Bool} (h : Fw many n g g') : Fw many n (fun p => !g p) (fun p => !g' p) := by
  obtain ⟨l, h1, h2, h3⟩ := h
  refine ⟨l.map T.opp, by rw [List.length_map]; exact h1, fun e he => ?_, fun p p0 p1 => ?_⟩
  · obtain ⟨d, hd, rfl⟩ := List.mem_map.mp he
    exact opp_gd (h2 d hd)
  · rw [opp_dVs l g h2]
    show (!dVs l g p) = !g' p
    rw [h3 p p0 p1]
theorem Fst.opp {many : Int} {n : Nat} {g g' : Int → Bool} (h : Fst many n g g') : Fst many n (fun p => !g p) (fun p => !g' p) := ⟨h.1.opp, fun m hm z => h.2 m hm (by
  have := z.opp
  simpa only [Bool.not_not] using this)⟩
/-! ### little rows as lists of truths -/
def tl (bs : List Bool) : Int → Bool := fun p => bs.getD p.toNat false
def lsB (n : Nat) (g : Int → Bool) : List Bool := (List.range n).map fun i : Nat => g (i : Int)
theorem lsB_len (n : Nat) (g : Int → Bool) : (lsB n g).length = n := by unfold lsB; rw [List.length_map, List.length_range]
theorem lsB_get {n : Nat} {g : Int → Bool} {i : Nat} (h : i < n) : (lsB n g)[i]? = some (g (i : Int)) := by
  unfold lsB
  rw [List.getElem?_map, List.getElem?_range h]
  rfl
theorem tl_lsB (n : Nat) (g : Int → Bool) : Same (n : Int) (tl (lsB n g)) g := fun p p0 p1 => by
  unfold tl
  rw [List.getD_eq_getElem?_getD, lsB_get (by omega), Option.getD_some, Int.toNat_of_nonneg p0]
theorem lsB_tl {bs : List Bool} {n : Nat} (h : bs.length = n) : lsB n (tl bs) = bs := by
  refine List.ext_getElem? fun i => ?_
  by_cases c : i < n
  · rw [lsB_get c]
    unfold tl
    rw [Int.toNat_natCast, List.getD_eq_getElem?_getD, List.getElem?_eq_getElem (by omega)]
    rfl
  · rw [List.getElem?_eq_none (by rw [lsB_len]; omega), List.getElem?_eq_none (by omega)]
theorem lsB_same {n : Nat} {g g' : Int → Bool} (h : Same (n : Int) g g') : lsB n g = lsB n g' := by
  unfold lsB
  refine List.map_congr_left fun i hi => ?_
  rw [List.mem_range] at hi
  exact h _ (by omega) (by omega)
theorem litB_ext {n : Nat} {a b : List Bool} (ha : a.length = n) (hb : b.length = n) (h : Same (n : Int) (tl a) (tl b)) : a = b := by
  rw [← lsB_tl ha, ← lsB_tl hb, lsB_same h]
def opB (n : Nat) (e : Deed) (bs : List Bool) : List Bool := lsB n (dV e (tl bs))
/-- a part of a row put anew -/
theorem opB_cut {n : Nat} {bs : List Bool} {k : Str} {f b : Nat} (hl : bs.length = n) (h1 : f < b) (h2 : b ≤ n) (S : List Bool) (hS : S = ((bs.drop f).take (b - f)).map (swk k)) : bs.take f ++ S ++ bs.drop b = opB n (k, (f : Int), (b : Int)) bs := by
  subst hS
  refine List.ext_getElem? fun i => ?_
  have l1 : (bs.take f).length = f := by rw [List.length_take]; omega
  have l2 : (((bs.drop f).take (b - f)).map (swk k)).length = b - f := by rw [List.length_map, List.length_take, List.length_drop]; omega
  by_cases c : i < n
  · unfold opB
    rw [lsB_get c]
    have ei : tl bs (i : Int) = bs[i] := by
      unfold tl
      rw [Int.toNat_natCast, List.getD_eq_getElem?_getD, List.getElem?_eq_getElem (by omega)]
      rfl
    unfold dV
    rw [ei]
    dsimp only
    by_cases c1 : i < f
    · rw [List.append_assoc, List.getElem?_append_left (by rw [l1]; exact c1), List.getElem?_take, if_pos c1, if_neg (by omega), List.getElem?_eq_getElem (by omega)]
    · by_cases c2 : i < b
      · rw [List.append_assoc, List.getElem?_append_right (by rw [l1]; omega), List.getElem?_append_left (by rw [l1, l2]; omega), List.getElem?_map, l1, List.getElem?_take, if_pos (by omega), List.getElem?_drop, show f + (i - f) = i by omega, if_pos (by omega),
          List.getElem?_eq_getElem (by omega)]
        rfl
      · rw [List.getElem?_append_right (by rw [List.length_append, l1, l2]; omega), List.length_append, l1, l2, List.getElem?_drop, show b + (i - (f + (b - f))) = i by omega, if_neg (by omega), List.getElem?_eq_getElem (by omega)]
  · rw [List.getElem?_eq_none (by rw [List.length_append, List.length_append, l1, l2, List.length_drop]; omega), List.getElem?_eq_none (by unfold opB; rw [lsB_len]; omega)]
theorem opB_len (n : Nat) (e : Deed) (bs : List Bool) : (opB n e bs).length = n := lsB_len _ _
theorem opB_same (n : Nat) (e : Deed) (bs : List Bool) : Same (n : Int) (tl (opB n e bs)) (dV e (tl bs)) := tl_lsB _ _
def trB (n : Nat) (bs : List Bool) (f j : Nat) : List (List Bool) := [opB n ("turn", (f : Int), (f : Int) + 1 + (j : Int)) bs, opB n ("on", (f : Int), (f : Int) + 1 + (j : Int)) bs, opB n ("off", (f : Int), (f : Int) + 1 + (j : Int)) bs]
def scB (n : Nat) (bs : List Bool) : List (List Bool) := (List.range n).flatMap fun f => (List.range (n - f)).flatMap fun j => trB n bs f j
theorem scB_mem {n : Nat} {bs y : List Bool} : y ∈ scB n bs ↔ ∃ e, gd (n : Int) e ∧ y = opB n e bs := by
  unfold scB
  rw [List.mem_flatMap]
  constructor
  · rintro ⟨f, hf, hy⟩
    obtain ⟨j, hj, hy⟩ := List.mem_flatMap.mp hy
    rw [List.mem_range] at hf hj
    have g : good (n : Int) (f : Int) ((f : Int) + 1 + (j : Int)) := ⟨by omega, by omega, by omega⟩
    simp only [trB, List.mem_cons, List.not_mem_nil, or_false] at hy
    rcases hy with rfl | rfl | rfl
    · exact ⟨_, ⟨.inl rfl, g⟩, rfl⟩
    · exact ⟨_, ⟨.inr (.inl rfl), g⟩, rfl⟩
    · exact ⟨_, ⟨.inr (.inr rfl), g⟩, rfl⟩
  · rintro ⟨⟨k, f, b⟩, ⟨hk, h1, h2, h3⟩, rfl⟩
    have h1 : 0 ≤ f := h1
    have h2 : f < b := h2
    have h3 : b ≤ n := h3
    have e1 : ((f.toNat : Nat) : Int) = f := Int.toNat_of_nonneg h1
    have e2 : ((f.toNat : Nat) : Int) + 1 + (((b - f - 1).toNat : Nat) : Int) = b := by omega
    refine ⟨f.toNat, List.mem_range.mpr (by omega), List.mem_flatMap.mpr ⟨(b - f - 1).toNat, List.mem_range.mpr (by omega), ?_⟩⟩
    simp only [trB, List.mem_cons, List.not_mem_nil, or_false]
    rw [e2, e1]
    dsimp only at hk
    rcases hk with rfl | rfl | rfl
    · exact .inl rfl
    · exact .inr (.inl rfl)
    · exact .inr (.inr rfl)
theorem rcB_fw {n : Nat} {a : List Bool} (ha : a.length = n) : ∀ {m : Nat} {b : List Bool}, Rc (scB n) a m b → b.length = n ∧ Fw (n : Int) m (tl a) (tl b)
  | 0, b, h => by
    have h : b = a := h
    subst h
    exact ⟨ha, [], Nat.le_refl _, (fun _ h => nomatch h), .rfl⟩
  | m + 1, b, h => by
    rcases h with h | ⟨c, h1, h2⟩
    · obtain ⟨i1, i2⟩ := rcB_fw ha h
      exact ⟨i1, i2.mono (Nat.le_succ _)⟩
    · obtain ⟨i1, l, i2, i3, i4⟩ := rcB_fw ha h1
      obtain ⟨e, he, rfl⟩ := scB_mem.mp h2
      refine ⟨opB_len _ _ _, l ++ [e], by rw [List.length_append]; show _ + 1 ≤ _; omega, fun d hd => ?_, ?_⟩
      · rcases List.mem_append.mp hd with z | z
        · exact i3 d z
        · rw [List.mem_singleton] at z
          subst z
          exact he
      · rw [dVs_append]
        exact (i4.dV e).trans (opB_same _ _ _).symm
theorem fw_rcB {n : Nat} {a b : List Bool} (ha : a.length = n) (hb : b.length = n) {m : Nat} (h : Fw (n : Int) m (tl a) (tl b)) : Rc (scB n) a m b := by
  obtain ⟨l, h1, h2, h3⟩ := h
  have key : ∀ (l : List Deed) (x : List Bool) (m : Nat), x.length = n → Rc (scB n) a m x → (∀ e ∈ l, gd (n : Int) e) → ∃ y, Rc (scB n) a (m + l.length) y ∧ y.length = n ∧ Same (n : Int) (tl y) (dVs l (tl x)) := by
    intro l
    induction l with
    | nil => intro x m hx r _; exact ⟨x, r, hx, .rfl⟩
    | cons e l ih =>
      intro x m hx r hl
      obtain ⟨y, y1, y2, y3⟩ := ih (opB n e x) (m + 1) (opB_len _ _ _) (.inr ⟨x, r, scB_mem.mpr ⟨e, hl e List.mem_cons_self, rfl⟩⟩) fun d hd => hl d (List.mem_cons_of_mem _ hd)
      refine ⟨y, ?_, y2, y3.trans ((opB_same _ _ _).dVs l)⟩
      rw [List.length_cons, show m + (l.length + 1) = m + 1 + l.length by omega]
      exact y1
  obtain ⟨y, y1, y2, y3⟩ := key l a 0 ha rfl h2
  have e : y = b := litB_ext y2 hb (y3.trans h3)
  subst e
  rw [Nat.zero_add] at y1
  exact y1.mono h1
theorem fst_ofB {n : Nat} {a b : List Bool} (ha : a.length = n) (hb : b.length = n) {m : Nat} (h : Rc (scB n) a m b) (h' : ∀ i, i < m → ¬ Rc (scB n) a i b) : Fst (n : Int) m (tl a) (tl b) :=
  ⟨(rcB_fw ha h).2, fun i hi z => h' i hi (fw_rcB ha hb z)⟩
/-- such a list as a whole number -/
def nmB : List Bool → Int
  | [] => 0
  | b :: l => (if b = true then 1 else 0) + 2 * nmB l
theorem nmB_rng : ∀ l : List Bool, 0 ≤ nmB l ∧ nmB l < 2 ^ l.length
  | [] => by decide
  | b :: l => by
    have := nmB_rng l
    rw [List.length_cons, Int.pow_succ]
    unfold nmB
    split <;> omega
theorem nmB_inj : ∀ {a b : List Bool}, a.length = b.length → nmB a = nmB b → a = b
  | [], [], _, _ => rfl
  | [], _ :: _, h, _ => by simp at h
  | _ :: _, [], h, _ => by simp at h
  | x :: a, y :: b, h, e => by
    have ih := nmB_inj (a := a) (b := b) (by simpa using h)
    unfold nmB at e
    have e1 : x = y := by
      cases x <;> cases y <;> simp at e ⊢ <;> omega
    subst e1
    rw [ih (by omega)]
structure LowB (n : Nat) (K : List (List Bool)) : Prop where
  nd : K.Nodup
  lo : ∀ x ∈ K, x.length = n
theorem LowB.len {n : Nat} {K : List (List Bool)} (h : LowB n K) (hn : n ≤ 8) : K.length ≤ 256 := by
  have hp := pow_le hn
  have e8 : (2 : Int) ^ 8 = 256 := by decide
  have := nodup_le 256 (K.map nmB) (by
    refine List.pairwise_map.mpr (h.nd.imp_of_mem fun {a b} ha hb ne e => ne (nmB_inj ?_ e))
    rw [h.lo a ha, h.lo b hb]) (fun x hx => by
    obtain ⟨y, hy, rfl⟩ := List.mem_map.mp hx
    have := nmB_rng y
    rw [h.lo y hy] at this
    omega)
  rwa [List.length_map] at this
theorem LowB.all {n : Nat} {s : List (List Bool) × List (List Bool)} {l : List (List Bool)} (h : LowB n s.1) (hl : ∀ x ∈ l, x.length = n) : LowB n (addAll s l).1 :=
  ⟨addAll_nodup l s h.nd, fun x hx => ((addAll_mem l s x).mp hx).elim (h.lo x) (hl x)⟩
theorem LowB.two {n : Nat} {K l : List (List Bool)} (h : LowB n K) (hn : n ≤ 8) (hl : ∀ x ∈ l, x.length = n) : (addAll (K, []) l).1.length ≤ 256 ∧ (addAll (K, []) l).2.length ≤ 256 := by
  have h1 := (h.all (s := (K, [])) hl).len hn
  have h2 := addAll_len l (K, [])
  simp only [List.length_nil] at h2
  omega
/-- the search's state between two rounds -/
structure SrB (n : Nat) (a : List Bool) (m : Nat) (goal : List Bool) (K L : List (List Bool)) : Prop where
  bfs : Bfs (scB n) a K L m
  low : LowB n K
  not : ∀ i, i < m → ¬ Rc (scB n) a i goal
theorem SrB.start {n : Nat} {a goal : List Bool} (ha : a.length = n) : SrB n a 0 goal [a] [a] :=
  ⟨.start, ⟨by simp, fun x hx => by rw [List.mem_singleton] at hx; subst hx; exact ha⟩, fun m hm => absurd hm (by omega)⟩
theorem scB_len {n : Nat} {L : List (List Bool)} : ∀ y ∈ L.flatMap (scB n), y.length = n := fun y hy => by
  obtain ⟨v, hv, hy⟩ := List.mem_flatMap.mp hy
  obtain ⟨e, _, rfl⟩ := scB_mem.mp hy
  exact opB_len _ _ _
theorem SrB.go {n m : Nat} {a goal : List Bool} {K L : List (List Bool)} (s : SrB n a m goal K L) (ha : a.length = n) (hg : goal.length = n) (no : goal ∉ K) :
    m < n ∧ SrB n a (m + 1) goal (addAll (K, []) (L.flatMap (scB n))).1 (addAll (K, []) (L.flatMap (scB n))).2 := by
  have nn : ¬ Rc (scB n) a m goal := fun z => no ((s.bfs.kn goal).mpr z)
  have lt : m < n := Nat.lt_of_not_le fun z => nn (fw_rcB ha hg ((fw_all (g := tl a) (g' := tl goal) n).mono z))
  refine ⟨lt, s.bfs.wide, s.low.all (s := (K, [])) scB_len, fun i hi => ?_⟩
  by_cases c : i = m
  · subst c; exact nn
  · exact s.not i (by omega)
theorem SrB.fin {n m : Nat} {a goal : List Bool} {K L : List (List Bool)} (s : SrB n a m goal K L) (ha : a.length = n) (hg : goal.length = n) (yes : goal ∈ K) : Fst (n : Int) m (tl a) (tl goal) :=
  fst_ofB ha hg ((s.bfs.kn goal).mp yes) s.not
/-! ### .. in memory -/
def bD (bs : List Bool) : D := .tup (bs.map .bl)
structure BMets (kn wd : Addr) (Mb : Mp) (s : List (List Bool) × List (List Bool)) (M' : Mp) : Prop where
  met : M' kn = some (.bdt s.1)
  new : M' wd = some (.lst (s.2.map bD))
  rest : ∀ b, b ≠ kn → b ≠ wd → M' b = Mb b
theorem bls_inj {a b : List Bool} (h : a.map D.bl = b.map D.bl) : a = b := by
  induction a generalizing b with
  | nil => cases b with
    | nil => rfl
    | cons _ _ => cases h
  | cons x a ih =>
    cases b with
    | nil => cases h
    | cons y b =>
      rw [List.map_cons, List.map_cons] at h
      injection h with h1 h2
      injection h1 with h1
      rw [h1, ih h2]
theorem BMets.step {x y w : Nat} {ρ : Env} {M' Mb : Mp} {s : List (List Bool) × List (List Bool)} {v : List Bool} {kn wd : Addr} {q : NK} {r : DK} {xx : XS} (h : BMets kn wd Mb s M') (hx : nth ρ x = some (bD v)) (hy : nth ρ y = some (.ref kn)) (hw : nth ρ w = some (.ref wd)) (ne : kn ≠ wd)
    (lk : s.1.length < 1000000) (lw : s.2.length < 1000000) (hq : ∀ M2, BMets kn wd Mb (addN s v) M2 → q ρ M2) :
    wpB (.cons (.ite (.bnot (.var x) (.var y)) (.cons (.setB (.var y) (.var x) (.bl true)) (.cons (.app w (.var x)) .nil)) .nil) .nil) ρ M' q r xx := by
  simp only [wpB, wpS, wpE, hx, hy]
  simp only [bdtD, h.met]
  refine ⟨v, rfl, ?_⟩
  simp only [asBl]
  unfold addN at hq
  by_cases c : v ∈ s.1
  · rw [if_pos c] at hq
    rw [decide_eq_true c]
    exact hq M' h
  · rw [if_neg c] at hq
    rw [decide_eq_false c]
    simp only [Bool.not_false, if_true, setBD, h.met]
    refine ⟨v, rfl, trivial, c, lk, ?_⟩
    have h3 : mset M' kn (.bdt (s.1 ++ [v])) wd = some (.lst (s.2.map bD)) := by rw [mset_ne (Ne.symm ne)]; exact h.new
    rw [atV_s hw, isL_ref h3]
    refine ⟨trivial, ?_⟩
    simp only [appD, h3]
    refine ⟨by rw [List.length_map]; exact lw, ?_⟩
    refine hq _ ⟨by rw [mset_ne ne, mset_same], ?_, fun b b1 b2 => by rw [mset_ne b2, mset_ne b1, h.rest b b1 b2]⟩
    rw [mset_same, List.map_append]
    rfl
def sp__law_truth : Spec := fun ds M k x => ∃ (R : List Run) (many p : Int), ds = [.lst (R.map runD), .int p] ∧ Chain 0 many R ∧ 0 ≤ p ∧ p < many ∧ R.length ≤ 200000 ∧ k (.bl (valR R p)) M
theorem chain_at : ∀ {R : List Run} {a b p : Int}, Chain a b R → a ≤ p → p < b → R.filter (fun r => decide (r.1 ≤ p) && decide (p < r.2.1)) ≠ [] ∧ ∀ r ∈ R.filter (fun r => decide (r.1 ≤ p) && decide (p < r.2.1)), r.2.2 = valR R p
  | [], a, b, p, h, h1, h2 => by
    have h : a = b := h
    omega
  | (f, e, v) :: R, a, b, p, h, h1, h2 => by
    obtain ⟨c1, c2, c3⟩ := h
    have c1 : f = a := c1
    have c2 : a < e := c2
    have c3 : Chain e b R := c3
    subst c1
    rw [val_cons]
    show _ ∧ ∀ r : Run, r ∈ _ → r.2.2 = if p < e then v else valR R p
    by_cases c : p < e
    · rw [if_pos c, List.filter_cons, if_pos (by simp [h1, c])]
      refine ⟨List.cons_ne_nil _ _, fun r hr => ?_⟩
      rcases List.mem_cons.mp hr with rfl | hr
      · rfl
      · obtain ⟨r1, r2⟩ := List.mem_filter.mp hr
        have := chain_in c3 r r1
        have r3 : r.1 ≤ p := by simpa using (Bool.and_eq_true _ _ ▸ r2 : decide (r.1 ≤ p) = true ∧ decide (p < r.2.1) = true).1
        omega
    · rw [if_neg c, List.filter_cons, if_neg (by simp; omega)]
      exact chain_at c3 (by omega) h2
abbrev n__law_truth : List Str := ["runs", "place", "first", "beyond", "truth"]
def b__law_truth : B := (.cons (.ret (.idx (.comp false [("first", 2), ("beyond", 3), ("truth", 4)] [2, 3, 4] true (.lst (.var 0)) (.cons (.ch2 .le .lt (.var 2) (.var 1) (.var 3)) .nil) (.var 4)) (.int 0))) .nil)
theorem w__law_truth : Body n__law_truth 2 b__law_truth sp__law_truth := by
  rintro ds M k x ⟨R, many, p, rfl, hc, h1, h2, hl, hk⟩
  refine ⟨rfl, ?_⟩
  simp only [b__law_truth]
  walk_at "wt"
  rw [List.length_map]
  refine ⟨by omega, ?_⟩
  refine turns_fil (e := runD) (p := fun r => decide (r.1 ≤ p) && decide (p < r.2.1)) (f := fun r => .bl r.2.2) trivial R (fun r _ q hq => ?_) ?_
  · obtain ⟨f, b, v⟩ := r
    simp only [runD]
    walk_at "wt"
    by_cases c1 : f ≤ p
    · by_cases c2 : p < b
      · simpa [c1, c2] using hq
      · simpa [c1, c2] using hq
    · simpa [c1] using hq
  · obtain ⟨n1, n2⟩ := chain_at hc h1 h2
    generalize R.filter (fun r => decide (r.1 ≤ p) && decide (p < r.2.1)) = F at n1 n2
    cases F with
    | nil => exact absurd rfl n1
    | cons r F =>
      refine ⟨.bl r.2.2, atI_map (f := fun r : Run => D.bl r.2.2) (Int.le_refl 0) rfl, ?_⟩
      rw [n2 r List.mem_cons_self]
      exact fewer_of hk
/-! ### the edges of two rows -/
def addL (l es : List Int) : List Int := es.foldl (fun l n => if n ∈ l then l else l ++ [n]) l
theorem addL_mem : ∀ (es l : List Int) (x : Int), x ∈ addL l es ↔ x ∈ l ∨ x ∈ es
  | [], l, x => by simp [addL]
  | e :: es, l, x => by
    show x ∈ addL (if e ∈ l then l else l ++ [e]) es ↔ _
    rw [addL_mem es]
    split
    · rename_i h
      rw [List.mem_cons]
      constructor
      · rintro (z | z)
        · exact .inl z
        · exact .inr (.inr z)
      · rintro (z | z | z)
        · exact .inl z
        · subst z; exact .inl h
        · exact .inr z
    · simp only [List.mem_append, List.mem_cons, List.not_mem_nil, or_false, or_assoc]
theorem addL_nodup : ∀ (es l : List Int), l.Nodup → (addL l es).Nodup
  | [], _, h => h
  | e :: es, l, h => by
    show (addL (if e ∈ l then l else l ++ [e]) es).Nodup
    refine addL_nodup es _ ?_
    split
    · exact h
    · rename_i q
      rw [List.nodup_append]
      refine ⟨h, by simp, fun y hy z hz e => ?_⟩
      rw [List.mem_singleton] at hz
      subst hz e
      exact q hy
theorem addL_len : ∀ (es l : List Int), (addL l es).length ≤ l.length + es.length
  | [], _ => Nat.le_refl _
  | e :: es, l => by
    show (addL (if e ∈ l then l else l ++ [e]) es).length ≤ _
    have := addL_len es (if e ∈ l then l else l ++ [e])
    refine Nat.le_trans this ?_
    split
    · simp only [List.length_cons]; omega
    · simp only [List.length_cons, List.length_append, List.length_nil]; omega
theorem putM_kd_old {n : Int} {l : List Int} (h : n ∈ l) : putM (.inl n : Key) (.bl true) (kd l) = kd l := by
  have e : ((kd l).any fun kv => decide (kv.1 = (.inl n : Key))) = true := by
    rw [List.any_eq_true]
    exact ⟨(.inl n, .bl true), List.mem_map.mpr ⟨n, h, rfl⟩, by simp⟩
  unfold putM
  rw [if_pos e]
  unfold kd
  rw [List.map_map]
  refine List.map_congr_left fun m _ => ?_
  show (if (Sum.inl m : Key) = .inl n then _ else _) = _
  split <;> rfl
theorem merge_kd : ∀ (es l : List Int), mergeM (kd l) (kd es) = kd (addL l es)
  | [], _ => rfl
  | e :: es, l => by
    show mergeM (putM (.inl e) (.bl true) (kd l)) (kd es) = kd (addL (if e ∈ l then l else l ++ [e]) es)
    by_cases c : e ∈ l
    · rw [putM_kd_old c, merge_kd es, if_pos c]
    · rw [putM_kd c, merge_kd es, if_neg c]
theorem kd_keys (l : List Int) : (kd l).map (·.1) = l.map Sum.inl := by
  unfold kd
  rw [List.map_map]
  rfl
theorem val_same : ∀ {R : List Run} {c b p : Int}, (∀ r ∈ R, r.2.1 ≤ c ∨ b ≤ r.2.1) → c ≤ p → p < b → valR R p = valR R c
  | [], _, _, _, _, _, _ => rfl
  | r :: R, c, b, p, h, h1, h2 => by
    rw [val_cons, val_cons]
    have := h r List.mem_cons_self
    rw [val_same (fun s hs => h s (List.mem_cons_of_mem _ hs)) h1 h2]
    by_cases q : p < r.2.1
    · rw [if_pos q, if_pos (by omega)]
    · rw [if_neg q, if_neg (by omega)]
theorem join_dsp {w : Str} {u v : Bool} (hw : wOk w) {P : D → Prop} (h : P (.bl (opW w u v))) :
    if u = true then (if u = true then ∃ y, dget [Sum.inr ("both" : Str), Sum.inr ("either" : Str), Sum.inr ("odd" : Str)] [D.bl v, D.bl true, D.bl !decide (u = v)] (.str w) = some y ∧ P y
      else ∃ y, dget [Sum.inr ("both" : Str), Sum.inr ("either" : Str), Sum.inr ("odd" : Str)] [D.bl v, D.bl v, D.bl !decide (u = v)] (.str w) = some y ∧ P y)
    else (if u = true then ∃ y, dget [Sum.inr ("both" : Str), Sum.inr ("either" : Str), Sum.inr ("odd" : Str)] [D.bl false, D.bl true, D.bl !decide (u = v)] (.str w) = some y ∧ P y
      else ∃ y, dget [Sum.inr ("both" : Str), Sum.inr ("either" : Str), Sum.inr ("odd" : Str)] [D.bl false, D.bl v, D.bl !decide (u = v)] (.str w) = some y ∧ P y) := by
  have n1 : ¬ (("both" : Str) = "odd") := by decide +kernel
  have n2 : ¬ (("either" : Str) = "odd") := by decide +kernel
  have n3 : ¬ (("either" : Str) = "both") := by decide +kernel
  have e1 : opW "both" u v = (u && v) := by unfold opW; rw [if_neg n1, if_pos rfl]
  have e2 : opW "either" u v = (u || v) := by unfold opW; rw [if_neg n2, if_neg n3]
  have e3 : opW "odd" u v = (u ^^ v) := by unfold opW; rw [if_pos rfl]
  rcases hw with rfl | rfl | rfl
  · rw [e1] at h
    cases u <;> cases v <;> exact ⟨_, by kernel_rfl, h⟩
  · rw [e2] at h
    cases u <;> cases v <;> exact ⟨_, by kernel_rfl, h⟩
  · rw [e3] at h
    cases u <;> cases v <;> exact ⟨_, by kernel_rfl, h⟩
def sp__law_joined : Spec := fun ds M k x => ∃ (w : Str) (R S : List Run) (many : Int) (g g' : Int → Bool), ds = [.str w, .lst (R.map runD), .lst (S.map runD)] ∧ wOk w ∧ 1 ≤ many ∧ IsRuns R many g ∧ IsRuns S many g' ∧ R.length ≤ 30 ∧ S.length ≤ 30 ∧
  ∀ T, IsRuns T many (fun p => opW w (g p) (g' p)) → T.length ≤ 60 → k (.lst (T.map runD)) M
abbrev n__law_joined : List Str := ["word", "one", "other", "found", "edges", "first", "beyond", "mine", "yours", "now", "run"]
def b__law_joined_1 : B := (.cons (.ret (.frz (.var 3))) .nil)
def b__law_joined_2 : B := (.cons (.asg 5 (.var 6)) .nil)
def b__law_joined_3 : B := (.cons (.asg 7 (.call "_law_truth" sp__law_truth (.cons (.var 1) (.cons (.var 5) .nil)))) (.cons (.asg 8 (.call "_law_truth" sp__law_truth (.cons (.var 2) (.cons (.var 5) .nil)))) (.cons (.asg 9 (.dsp [.inr "both", .inr "either", .inr "odd"] (.cons (.and (.var 7) (.one (.var 8))) (.cons (.or (.var 7) (.one (.var 8))) (.cons (.cmp .ne (.var 7) (.var 8)) .nil))) (.var 0))) (.cons (.ite (.and (.cmp .ne (.var 3) (.lst false .nil)) (.one (.cmp .eq (.idx (.idx (.var 3) (.un .neg (.int 1))) (.int 2)) (.var 9)))) (.cons (.setI 3 (.un .neg (.int 1)) (.tup (.cons (.idx (.idx (.var 3) (.un .neg (.int 1))) (.int 0)) (.cons (.var 6) (.cons (.var 9) .nil))))) .nil) (.cons (.app 3 (.tup (.cons (.var 5) (.cons (.var 6) (.cons (.var 9) .nil))))) .nil)) b__law_joined_2))))
def b__law_joined : B := (.cons (.asg 3 (.lst true .nil)) (.cons (.asg 4 (.dictP (.comp false [("run", 10)] [10] false (.lst (.cat false (.var 1) (.var 2))) .nil (.tup (.cons (.idx (.var 10) (.int 1)) (.cons (.bl true) .nil)))))) (.cons (.asg 5 (.int 0)) (.cons (.loop [6] false (.lst (.srtk false (.var 4))) b__law_joined_3) b__law_joined_1))))
theorem w__law_joined : Body n__law_joined 3 b__law_joined sp__law_joined := by
  rintro ds M k x ⟨w, R, S, many, g, g', rfl, hw, m1, hR, hS, lR, lS, hk⟩
  refine ⟨rfl, ?_⟩
  simp only [b__law_joined]
  walk_at "wt"
  intro a ha
  walk_at "wt"
  rw [← List.map_append, List.length_map, List.length_map, List.length_map, List.length_append]
  refine ⟨by omega, by omega, ?_⟩
  refine turns_fil (e := runD) (p := fun _ => true) (f := fun r => .tup [.int r.2.1, .bl true]) trivial (R ++ S) (fun r _ q hq => ?_) ?_
  · obtain ⟨f, b, v⟩ := r
    simp only [runD]
    walk_at "wt"
    simpa using hq
  obtain ⟨es, hes⟩ : ∃ es, es = (R ++ S).map fun r => r.2.1 := ⟨_, rfl⟩
  have les : es.length ≤ 60 := by rw [hes, List.length_map, List.length_append]; omega
  refine ⟨kd es, ?_, fun p hp => ?_⟩
  · rw [hes]
    unfold kd
    rw [List.map_map, List.map_map, List.filter_eq_self.mpr (fun _ _ => rfl)]
    rfl
  have nap : a ≠ p := fun z => by rw [← z, mset_same] at hp; cases hp
  rw [show (([] : List (Key × D))) = kd [] from rfl, merge_kd]
  simp only [dctD, mset_same]
  refine ⟨addL [] es, kd_keys _, by have := addL_len es []; simp only [List.length_nil] at this; omega, fun ms pm pw => ?_⟩
  have lms : ms.length ≤ 60 := by have := addL_len es []; have := pm.length_eq; simp only [List.length_nil] at *; omega
  have nd : ms.Nodup := pm.nodup_iff.mpr (addL_nodup es [] (by simp))
  have mem : ∀ x, x ∈ ms ↔ ∃ r ∈ R ++ S, r.2.1 = x := fun x => by
    rw [pm.mem_iff, addL_mem, hes, List.mem_map]
    simp
  have rng : ∀ x ∈ ms, 0 < x ∧ x ≤ many := fun x hx => by
    obtain ⟨r, hr, rfl⟩ := (mem x).mp hx
    rcases List.mem_append.mp hr with z | z
    · have := chain_in hR.chain r z; omega
    · have := chain_in hS.chain r z; omega
  have top : many ∈ ms := by
    rcases nil_or R with e | ⟨A, z, e⟩
    · have := hR.chain
      rw [e] at this
      have this : (0 : Int) = many := this
      omega
    · refine (mem many).mpr ⟨z, List.mem_append_left _ (by rw [e]; simp), ?_⟩
      have := hR.chain
      rw [e] at this
      exact (chain_snoc.mp this).2.2
  have lt : ∀ i j (hi : i < ms.length) (hj : j < ms.length), i < j → ms[i] < ms[j] := fun i j hi hj h => by
    have h1 := List.pairwise_iff_getElem.mp pw i j hi hj h
    have h2 := List.pairwise_iff_getElem.mp nd i j hi hj h
    omega
  clear hes pm les
  obtain ⟨M2, hM2⟩ : ∃ M2, M2 = mset (mset M a (.lst [])) p (.dct (kd (addL [] es))) := ⟨_, rfl⟩
  have M2a : M2 a = some (.lst []) := by rw [hM2, mset_ne nap, mset_same]
  have M2b : ∀ b e, M b = some e → b ≠ a ∧ M2 b = some e := fun b e hb => by
    have n1 : b ≠ a := fun z => by rw [z, ha] at hb; cases hb
    have n2 : b ≠ p := fun z => by rw [z] at hb; rw [mset_ne (Ne.symm nap)] at hp; rw [hp] at hb; cases hb
    exact ⟨n1, by rw [hM2, mset_ne n2, mset_ne n1]; exact hb⟩
  rw [← hM2]
  clear hM2 hp
  refine floop_go (fun i ρ M' => ∃ (acc : List Run) (c : Int) (o6 o7 o8 o9 o10 : Option D), M' a = some (.lst (acc.map runD)) ∧ (∀ b, b ≠ a → M' b = M2 b) ∧ (0 :: ms)[i]? = some c ∧ Chain 0 c acc ∧ Alt acc ∧ (∀ q, 0 ≤ q → q < c → valR acc q = opW w (valR R q) (valR S q)) ∧ acc.length ≤ i ∧
    ρ = [some (.str w), some (.lst (R.map runD)), some (.lst (S.map runD)), some (.ref a), some (.ref p), some (.int c), o6, o7, o8, o9, o10]) ⟨[], 0, _, _, _, _, _, M2a, fun _ _ => rfl, rfl, rfl, trivial, fun q q0 q1 => by omega, Nat.le_refl _, rfl⟩ ?_ ?_
  · rintro i y ρ M' q hy ⟨acc, c, o6, o7, o8, o9, o10, hA, hO, hc, cA, aA, vA, lA, rfl⟩ hq
    refine ⟨trivial, ?_⟩
    rw [List.getElem?_map] at hy
    cases e : ms[i]? with
    | none => rw [e] at hy; cases hy
    | some b =>
      rw [e] at hy
      cases hy
      obtain ⟨hi, eb⟩ := List.getElem?_eq_some_iff.mp e
      have rb := rng b (List.mem_of_getElem? e)
      have cb : 0 ≤ c ∧ c < b := by
        cases i with
        | zero =>
          rw [List.getElem?_cons_zero] at hc
          cases hc
          omega
        | succ j =>
          rw [List.getElem?_cons_succ] at hc
          obtain ⟨hj, ec⟩ := List.getElem?_eq_some_iff.mp hc
          have := lt j (j + 1) hj hi (by omega)
          have := rng c (List.mem_of_getElem? hc)
          omega
      have gap : ∀ r ∈ R ++ S, r.2.1 ≤ c ∨ b ≤ r.2.1 := fun r hr => by
        obtain ⟨j, hj, ej⟩ := List.mem_iff_getElem.mp ((mem r.2.1).mpr ⟨r, hr, rfl⟩)
        by_cases z : j < i
        · refine .inl ?_
          cases i with
          | zero => omega
          | succ m =>
            rw [List.getElem?_cons_succ] at hc
            obtain ⟨hm, ec⟩ := List.getElem?_eq_some_iff.mp hc
            by_cases z2 : j = m
            · subst z2; omega
            · have := lt j m hj hm (by omega)
              omega
        · refine .inr ?_
          by_cases z2 : j = i
          · subst z2; omega
          · have := lt i j hi hj (by omega)
            omega
      have sR : ∀ p, c ≤ p → p < b → valR R p = valR R c := fun p p1 p2 => val_same (fun r hr => gap r (List.mem_append_left _ hr)) p1 p2
      have sS : ∀ p, c ≤ p → p < b → valR S p = valR S c := fun p p1 p2 => val_same (fun r hr => gap r (List.mem_append_right _ hr)) p1 p2
      obtain ⟨j1, j2, j3⟩ := join_chain (r := (c, b, opW w (valR R c) (valR S c))) cA aA rfl cb.2
      have jl := join_len acc (c, b, opW w (valR R c) (valR S c))
      have hq : ∀ (o7 o8 o9 o10 : Option D) (M3 : Mp), M3 a = some (.lst ((joinStep acc (c, b, opW w (valR R c) (valR S c))).map runD)) → (∀ b, b ≠ a → M3 b = M2 b) → q [some (.str w), some (.lst (R.map runD)), some (.lst (S.map runD)), some (.ref a), some (.ref p), some (.int b), some (.int b), o7, o8, o9, o10] M3 := fun o7 o8 o9 o10 M3 h1 h2 =>
        hq _ _ ⟨_, b, _, _, _, _, _, h1, h2, by rw [List.getElem?_cons_succ]; exact e, j1, j2, fun p p0 p1 => by
          rw [j3 p p0 p1, val_app cA p p0]
          by_cases z : p < c
          · rw [if_pos z]
            exact vA p p0 z
          · rw [if_neg z, val_cons, if_pos p1, sR p (by omega) p1, sS p (by omega) p1], by omega, rfl⟩
      simp only [target, put, b__law_joined_3]
      walk_at "wt"
      refine ⟨R, many, c, rfl, hR.chain, cb.1, by omega, by omega, ?_⟩
      walk_at "wt"
      refine ⟨S, many, c, rfl, hS.chain, cb.1, by omega, by omega, ?_⟩
      walk_at "wt"
      generalize valR R c = u at *
      generalize valR S c = v at *
      refine join_dsp hw ?_
      generalize opW w u v = now at *
      rw [vw_lst hA]
      rcases nil_or acc with rfl | ⟨A, z, rfl⟩
      · simp only [List.map_nil, eqok_nil, eqv_nil0, Bool.not_true, Bool.false_eq_true, if_false, true_and]
        rw [atV_s (d := .ref a) rfl, isL_ref hA]
        refine ⟨trivial, ?_⟩
        rw [app_ref hA]
        refine ⟨by simp, ?_⟩
        simp only [b__law_joined_2]
        walk_at "wt"
        exact hq _ _ _ _ _ (by rw [mset_same]; rfl) (fun b nb => by rw [mset_ne nb]; exact hO b nb)
      · rw [join_snoc] at hq
        have ne : (D.lst (List.map runD (A ++ [z]))).eqv (D.lst []) = false := by
          rw [eqv_emp]
          cases A <;> rfl
        simp only [runs_ok, ne, Bool.not_false, if_true, true_and]
        rw [ixP_ref hA, List.map_append]
        refine ⟨runD z, atI_last _ _, ?_⟩
        simp only [runD]
        walk_at "wt"
        refine ite_of (fun c1 => ?_) (fun c1 => ?_)
        · rw [if_pos (show z.2.2 = now by simpa using c1)] at hq
          rw [ixP_ref hA, List.map_append]
          refine ⟨runD z, atI_last _ _, ?_⟩
          simp only [runD]
          walk_at "wt"
          rw [atV_s (d := .ref a) rfl]
          walk_at "wt"
          rw [set_ref hA, List.map_append]
          refine ⟨_, ixN_last (List.map runD A) (runD z), ?_⟩
          rw [show (List.map runD A ++ List.map runD [z]).set (List.map runD A).length (D.tup [D.int z.1, D.int b, D.bl now]) = List.map runD (A ++ [(z.1, b, now)]) from (set_last (List.map runD A) _ _).trans (by rw [List.map_append]; rfl)]
          simp only [b__law_joined_2]
          walk_at "wt"
          exact hq _ _ _ _ _ mset_same (fun b nb => by rw [mset_ne nb]; exact hO b nb)
        · rw [if_neg (show ¬ z.2.2 = now by simpa using c1)] at hq
          rw [atV_s (d := .ref a) rfl, isL_ref hA]
          refine ⟨trivial, ?_⟩
          rw [app_ref hA]
          refine ⟨by rw [List.length_map] at *; simp only [List.length_append, List.length_cons, List.length_nil] at *; omega, ?_⟩
          simp only [b__law_joined_2]
          walk_at "wt"
          refine hq _ _ _ _ _ ?_ (fun b nb => by rw [mset_ne nb]; exact hO b nb)
          rw [mset_same, List.map_append (l₁ := A ++ [z])]
          rfl
  · rintro ρ M' ⟨acc, c, o6, o7, o8, o9, o10, hA, hO, hc, cA, aA, vA, lA, rfl⟩
    refine ⟨trivial, ?_⟩
    simp only [b__law_joined_1]
    walk_at "wt"
    rw [hA]
    rw [List.length_map] at hc lA
    have ec : c = many := by
      obtain ⟨hj, ec⟩ := List.getElem?_eq_some_iff.mp hc
      obtain ⟨j, hj2, ej⟩ := List.mem_iff_getElem.mp top
      rw [List.getElem_cons] at ec
      split at ec
      · rename_i z
        omega
      · have r1 := rng c (ec ▸ List.getElem_mem _)
        by_cases z : j = ms.length - 1
        · subst z
          omega
        · have := lt j (ms.length - 1) hj2 (by omega) (by omega)
          omega
    refine fewer_to (fun b e hb => .inl ?_) (hk acc ⟨?_, aA, fun q q0 q1 => ?_⟩ ?_)
    · obtain ⟨n1, n2⟩ := M2b b e hb
      unfold mdel
      rw [if_neg n1, hO b n1]
      exact n2
    · rw [← ec]; exact cA
    · rw [vA q q0 (by omega), hR.val q q0 q1, hS.val q q0 q1]
    · omega
theorem filter_tt {α : Type} (l : List α) : l.filter (fun _ => true) = l := List.filter_eq_self.mpr fun _ _ => rfl
def sp__law_bits : Spec := fun ds M k x => ∃ (R : List Run) (n : Nat) (g : Int → Bool), ds = [.lst (R.map runD)] ∧ 1 ≤ n ∧ n ≤ 8 ∧ IsRuns R (n : Int) g ∧ R.length ≤ 200000 ∧ k (bD (lsB n g)) M
abbrev n__law_bits : List Str := ["runs", "place"]
def b__law_bits : B := (.cons (.ret (.tupO (.comp false [("place", 1)] [1] false (.r1 (.idx (.idx (.var 0) (.un .neg (.int 1))) (.int 1))) .nil (.call "_law_truth" sp__law_truth (.cons (.var 0) (.cons (.var 1) .nil)))))) .nil)
theorem w__law_bits : Body n__law_bits 1 b__law_bits sp__law_bits := by
  rintro ds M k x ⟨R, n, g, rfl, n1, n8, hR, lR, hk⟩
  refine ⟨rfl, ?_⟩
  simp only [b__law_bits]
  walk_at "wt"
  obtain ⟨A, z, rfl⟩ : ∃ A z, R = A ++ [z] := by
    rcases nil_or R with e | h
    · have := hR.chain
      rw [e] at this
      have this : (0 : Int) = n := this
      omega
    · exact h
  have ez : z.2.1 = n := (chain_snoc.mp hR.chain).2.2
  rw [List.map_append]
  refine ⟨runD z, atI_last _ _, ?_⟩
  simp only [runD]
  walk_at "wt"
  rw [ez]
  refine ⟨⟨by omega, by omega⟩, by rw [len_rangeD]; omega, ?_⟩
  have er : rangeD 0 (n : Int) = (List.range n).map fun i : Nat => D.int (0 + (i : Nat)) := by
    unfold rangeD
    rw [show ((n : Int) - 0).toNat = n by omega]
  rw [er]
  have eA : List.map runD A ++ [D.tup [D.int z.1, D.int z.2.1, D.bl z.2.2]] = (A ++ [z]).map runD := by rw [List.map_append]; rfl
  refine turns_fil (e := fun i : Nat => D.int (0 + (i : Nat))) (p := fun _ => true) (f := fun i : Nat => .bl (g (i : Int))) trivial _ (fun i hi q hq => ?_) ?_
  · rw [List.mem_range] at hi
    walk_at "wt"
    refine ⟨A ++ [z], n, (i : Int), ?_, hR.chain, by omega, by omega, lR, ?_⟩
    · rw [Int.zero_add, List.map_append]; rfl
    · rw [hR.val _ (by omega) (by omega)]
      simpa using hq
  · rw [filter_tt]
    have e : bD (lsB n g) = .tup ((List.range n).map fun i : Nat => D.bl (g (i : Int))) := by
      unfold bD lsB
      rw [List.map_map]
      rfl
    rw [← e]
    exact fewer_of hk
theorem trB_len {n f j : Nat} {v y : List Bool} (h : y ∈ trB n v f j) : y.length = n := by
  simp only [trB, List.mem_cons, List.not_mem_nil, or_false] at h
  rcases h with rfl | rfl | rfl <;> exact opB_len _ _ _
abbrev ks3 : List Str := ["turn", "on", "off"]
theorem rep_bl (m : Nat) (c : Bool) : (List.replicate m [D.bl c]).flatten = (List.replicate m c).map D.bl := by
  induction m with
  | zero => rfl
  | succ m ih =>
    rw [List.replicate_succ, List.flatten_cons, ih, List.replicate_succ, List.map_cons]
    rfl
theorem sw_on (S : List Bool) : S.map (swk "on") = List.replicate S.length true := by
  have n1 : ¬ (("on" : Str) = "turn") := by decide +kernel
  have e : ∀ t, swk "on" t = true := fun t => by unfold swk; rw [if_neg n1]; simp
  induction S with
  | nil => rfl
  | cons t S ih => rw [List.map_cons, ih, e, List.length_cons, List.replicate_succ]
theorem sw_off (S : List Bool) : S.map (swk "off") = List.replicate S.length false := by
  have n1 : ¬ (("off" : Str) = "turn") := by decide +kernel
  have n2 : ¬ (("off" : Str) = "on") := by decide +kernel
  have e : ∀ t, swk "off" t = false := fun t => by unfold swk; rw [if_neg n1, decide_eq_false n2]
  induction S with
  | nil => rfl
  | cons t S ih => rw [List.map_cons, ih, e, List.length_cons, List.replicate_succ]
def sp__law_fewest : Spec := fun ds M k x => ∃ (n : Nat) (a goal : List Bool), ds = [bD a, bD goal] ∧ 1 ≤ n ∧ n ≤ 8 ∧ a.length = n ∧ goal.length = n ∧ ∀ m : Nat, Fst (n : Int) m (tl a) (tl goal) → k (.int m) M
abbrev n__law_fewest : List Str := ["one", "other", "seen", "layer", "deep", "later", "bits", "first", "beyond", "about", "some", "there", "bit"]
def b__law_fewest_1 : B := (.cons (.ret (.var 4)) .nil)
def b__law_fewest_2 : B := (.cons (.asg 3 (.frz (.var 5))) (.cons (.asg 4 (.bin .add (.var 4) (.int 1))) .nil))
def b__law_fewest_3 : B := (.cons (.asg 11 (.catA (.catA (.slcT (.var 6) .nil (.cons (.var 7) .nil)) (.var 10)) (.slcT (.var 6) (.cons (.var 8) .nil) .nil))) (.cons (.ite (.bnot (.var 11) (.var 2)) (.cons (.setB (.var 2) (.var 11) (.bl true)) (.cons (.app 5 (.var 11)) .nil)) .nil) .nil))
def b__law_fewest_4 : B := (.cons (.asg 9 (.tupO (.comp false [("bit", 12)] [12] false (.tup (.slcT (.var 6) (.cons (.var 7) .nil) (.cons (.var 8) .nil))) .nil (.not (.var 12))))) (.cons (.loop [10] false (.lst (.lst false (.cons (.var 9) (.cons (.repT (.tup (.cons (.bl true) .nil)) (.bin .sub (.var 8) (.var 7))) (.cons (.repT (.tup (.cons (.bl false) .nil)) (.bin .sub (.var 8) (.var 7))) .nil))))) b__law_fewest_3) .nil))
def b__law_fewest_5 : B := (.cons (.loop [8] false (.r2 (.bin .add (.var 7) (.int 1)) (.bin .add (.blt .len (.cons (.var 6) .nil)) (.int 1))) b__law_fewest_4) .nil)
def b__law_fewest_6 : B := (.cons (.loop [7] false (.r1 (.blt .len (.cons (.var 6) .nil))) b__law_fewest_5) .nil)
def b__law_fewest_7 : B := (.cons (.asg 5 (.lst true .nil)) (.cons (.loop [6] false (.lst (.var 3)) b__law_fewest_6) b__law_fewest_2))
def b__law_fewest : B := (.cons (.asg 2 (.bl1 (.var 0) (.bl true))) (.cons (.asg 3 (.lst false (.cons (.var 0) .nil))) (.cons (.asg 4 (.int 0)) (.cons (.whl (.bnot (.var 1) (.var 2)) b__law_fewest_7) b__law_fewest_1))))
theorem w__law_fewest : Body n__law_fewest 2 b__law_fewest sp__law_fewest := by
  rintro ds M k x ⟨n, a, goal, rfl, n1, n8, ha, hg, hk⟩
  refine ⟨rfl, ?_⟩
  simp only [b__law_fewest]
  walk_at "wt"
  refine ⟨a, rfl, fun kn hkn => ?_⟩
  walk_at "wt"
  obtain ⟨Mb, hMb⟩ : ∃ Mb, Mb = mset M kn (.bdt [a]) := ⟨_, rfl⟩
  have bk : Mb kn = some (.bdt [a]) := by rw [hMb, mset_same]
  have bM : ∀ b e, M b = some e → b ≠ kn ∧ Mb b = some e := fun b e hb => by
    have n1 : b ≠ kn := fun z => by rw [z, hkn] at hb; cases hb
    exact ⟨n1, by rw [hMb, mset_ne n1]; exact hb⟩
  rw [← hMb]
  clear hMb
  refine ⟨n + 2, wloop_go (fun i ρ M' => ∃ (m : Nat) (K L : List (List Bool)) (o5 o6 o7 o8 o9 o10 o11 o12 : Option D), i = n - m ∧ SrB n a m goal K L ∧ M' kn = some (.bdt K) ∧ (∀ b, b ≠ kn → M' b = Mb b) ∧ ρ = [some (bD a), some (bD goal), some (.ref kn), some (.lst (L.map bD)), some (.int m), o5, o6, o7, o8, o9, o10, o11, o12]) ?_ (n + 2) n _ _ (by omega) ⟨0, [a], [a], _, _, _, _, _, _, _, _, rfl, .start ha, bk, fun _ _ => rfl, rfl⟩⟩
  rintro i ρ M' q ⟨m, K, L, o5, o6, o7, o8, o9, o10, o11, o12, rfl, hS, hK, hB, rfl⟩ hq
  walk_at "wt"
  simp only [bdtD, hK]
  refine ⟨goal, rfl, ?_⟩
  try simp only [asBl]
  by_cases c : goal ∈ K
  · rw [decide_eq_true c]
    simp only [Bool.not_true, Bool.false_eq_true, if_false, b__law_fewest_1]
    walk_at "wt"
    refine fewer_to (fun b e hb => .inl ?_) (hk m (hS.fin ha hg c))
    obtain ⟨b1, b2⟩ := bM b e hb
    rw [hB b b1]
    exact b2
  · rw [decide_eq_false c]
    obtain ⟨lt, hS2⟩ := hS.go ha hg c
    have l256 := hS.low.two n8 (l := L.flatMap (scB n)) scB_len
    have lL : ∀ v ∈ L, v.length = n := fun v hv => hS.low.lo v (hS.bfs.lv v hv)
    simp only [Bool.not_false, if_true, b__law_fewest_7]
    walk_at "wt"
    intro w hw
    have nkw : kn ≠ w := fun z => by rw [← z, hK] at hw; cases hw
    have bw : Mb w = none := by rw [← hB w (Ne.symm nkw)]; exact hw
    refine floop_go (fun j ρ M2 => BMets kn w Mb (addAll (K, []) ((L.take j).flatMap (scB n))) M2 ∧ ∃ o6 o7 o8 o9 o10 o11 o12 : Option D, ρ = [some (bD a), some (bD goal), some (.ref kn), some (.lst (L.map bD)), some (.int m), some (.ref w), o6, o7, o8, o9, o10, o11, o12]) ⟨⟨by rw [mset_ne nkw]; exact hK, by rw [mset_same]; rfl, fun b b1 b2 => by rw [mset_ne b2, hB b b1]⟩, _, _, _, _, _, _, _, rfl⟩ ?_ ?_
    · rintro j y ρ M2 q2 hy ⟨hM2, o6, o7, o8, o9, o10, o11, o12, rfl⟩ hq2
      refine ⟨trivial, ?_⟩
      rw [List.getElem?_map] at hy
      cases e : L[j]? with
      | none => rw [e] at hy; cases hy
      | some v =>
        rw [e] at hy
        cases hy
        have hv := lL v (List.mem_of_getElem? e)
        have e2 : (L.take (j + 1)).flatMap (scB n) = (L.take j).flatMap (scB n) ++ scB n v := by
          rw [List.take_succ, e, Option.toList_some, List.flatMap_append]
          simp
        rw [e2] at hq2
        obtain ⟨A, hA⟩ : ∃ A, A = (L.take j).flatMap (scB n) := ⟨_, rfl⟩
        have lA : ∀ y ∈ A, y.length = n := by rw [hA]; exact scB_len
        rw [← hA] at hM2 hq2
        clear hA e2
        simp only [b__law_fewest_6]
        walk_at "wt"
        rw [show bD v = D.tup (v.map D.bl) from rfl]
        walk_at "wt"
        rw [List.length_map, hv]
        refine ⟨⟨by omega, by omega⟩, ?_⟩
        refine floop_go (fun f ρ M3 => BMets kn w Mb (addAll (K, []) (A ++ (List.range f).flatMap fun f => (List.range (n - f)).flatMap fun j => trB n v f j)) M3 ∧ ∃ o7 o8 o9 o10 o11 o12 : Option D, ρ = [some (bD a), some (bD goal), some (.ref kn), some (.lst (L.map bD)), some (.int m), some (.ref w), some (.tup (v.map D.bl)), o7, o8, o9, o10, o11, o12]) ⟨by rw [List.range_zero, List.flatMap_nil, List.append_nil]; exact hM2, _, _, _, _, _, _, rfl⟩ ?_ ?_
        · rintro f y ρ M3 q3 hy ⟨hM3, o7, o8, o9, o10, o11, o12, rfl⟩ hq3
          refine ⟨trivial, ?_⟩
          have hf := (List.getElem?_eq_some_iff.mp hy).1
          rw [len_rangeD] at hf
          obtain ⟨rfl, _⟩ := get_rangeD hy
          rw [List.range_succ, List.flatMap_append, List.flatMap_cons, List.flatMap_nil, List.append_nil, ← List.append_assoc] at hq3
          obtain ⟨B, hB2⟩ : ∃ B, B = A ++ (List.range f).flatMap fun f => (List.range (n - f)).flatMap fun j => trB n v f j := ⟨_, rfl⟩
          have lB : ∀ y ∈ B, y.length = n := by
            rw [hB2]
            intro y hy
            rcases List.mem_append.mp hy with z | z
            · exact lA y z
            · obtain ⟨f', _, z⟩ := List.mem_flatMap.mp z
              obtain ⟨j', _, z⟩ := List.mem_flatMap.mp z
              exact trB_len z
          rw [← hB2] at hM3 hq3
          clear hB2 hM2 hq2
          simp only [b__law_fewest_5]
          walk_at "wt"
          rw [List.length_map, hv]
          refine ⟨⟨by omega, by omega⟩, ?_⟩
          refine floop_go (fun j ρ M4 => BMets kn w Mb (addAll (K, []) (B ++ (List.range j).flatMap fun j => trB n v f j)) M4 ∧ ∃ o8 o9 o10 o11 o12 : Option D, ρ = [some (bD a), some (bD goal), some (.ref kn), some (.lst (L.map bD)), some (.int m), some (.ref w), some (.tup (v.map D.bl)), some (.int (0 + (f : Nat))), o8, o9, o10, o11, o12]) ⟨by rw [List.range_zero, List.flatMap_nil, List.append_nil]; exact hM3, _, _, _, _, _, rfl⟩ ?_ ?_
          · rintro j y ρ M4 q4 hy ⟨hM4, o8, o9, o10, o11, o12, rfl⟩ hq4
            refine ⟨trivial, ?_⟩
            have hj := (List.getElem?_eq_some_iff.mp hy).1
            rw [len_rangeD] at hj
            obtain ⟨rfl, _⟩ := get_rangeD hy
            rw [List.range_succ, List.flatMap_append, List.flatMap_cons, List.flatMap_nil, List.append_nil, ← List.append_assoc] at hq4
            obtain ⟨C, hC⟩ : ∃ C, C = B ++ (List.range j).flatMap fun j => trB n v f j := ⟨_, rfl⟩
            have lC : ∀ y ∈ C, y.length = n := by
              rw [hC]
              intro y hy
              rcases List.mem_append.mp hy with z | z
              · exact lB y z
              · obtain ⟨j', _, z⟩ := List.mem_flatMap.mp z
                exact trB_len z
            rw [← hC] at hM4 hq4
            clear hC hM3 hq3
            obtain ⟨b, hb⟩ : ∃ b : Nat, b = f + 1 + j := ⟨_, rfl⟩
            have eb : (0 : Int) + (f : Int) + 1 + (j : Int) = (b : Int) := by omega
            simp only [b__law_fewest_4]
            walk_at "wt"
            have ef : (0 : Int) + (f : Int) = (f : Int) := by omega
            rw [eb, ef, cutD_mid (by omega) (by omega), Int.toNat_natCast, Int.toNat_natCast, ← List.map_drop, ← List.map_take]
            rw [ef] at hq4
            obtain ⟨S, hS0⟩ : ∃ S, S = (v.drop f).take (b - f) := ⟨_, rfl⟩
            have lS : S.length = b - f := by rw [hS0, List.length_take, List.length_drop]; omega
            rw [← hS0, List.length_map]
            refine ⟨by omega, turns_fil (e := D.bl) (p := fun _ => true) (f := fun t => D.bl (!t)) trivial S (fun t _ q hq => ?_) ?_⟩
            · show asBl (D.bl t) _
              simpa [asBl] using hq
            rw [filter_tt, show ((b : Int) - (f : Int)).toNat = S.length by omega]
            refine ⟨⟨by simp, by omega, by omega⟩, ⟨by simp, by omega, by omega⟩, ?_⟩
            have e1 : S.map (fun t => D.bl (!t)) = (S.map (swk "turn")).map D.bl := by
              rw [List.map_map]
              refine List.map_congr_left fun t _ => ?_
              show _ = D.bl (swk "turn" t)
              rw [swkt]
            rw [rep_bl, rep_bl, e1, ← sw_on, ← sw_off]
            have eT : trB n v f j = ks3.map fun k => opB n (k, (f : Int), (b : Int)) v := by
              unfold trB ks3
              rw [show (f : Int) + 1 + (j : Int) = (b : Int) by omega]
              rfl
            have eI : [D.tup ((S.map (swk "turn")).map D.bl), D.tup ((S.map (swk "on")).map D.bl), D.tup ((S.map (swk "off")).map D.bl)] = ks3.map fun k => bD (S.map (swk k)) := rfl
            rw [eI]
            refine floop_go (fun u ρ M5 => BMets kn w Mb (addAll (K, []) (C ++ (trB n v f j).take u)) M5 ∧ ∃ o9 o10 o11 o12 : Option D, ρ = [some (bD a), some (bD goal), some (.ref kn), some (.lst (L.map bD)), some (.int m), some (.ref w), some (.tup (v.map D.bl)), some (.int (f : Int)), some (.int (b : Int)), o9, o10, o11, o12]) ⟨by rw [List.take_zero, List.append_nil]; exact hM4, _, _, _, _, rfl⟩ ?_ ?_
            · rintro u y ρ M5 q5 hy ⟨hM5, o9, o10, o11, o12, rfl⟩ hq5
              refine ⟨trivial, ?_⟩
              rw [List.getElem?_map] at hy
              cases ek : ks3[u]? with
              | none => rw [ek] at hy; cases hy
              | some kd3 =>
                rw [ek] at hy
                cases hy
                have et : (trB n v f j)[u]? = some (opB n (kd3, (f : Int), (b : Int)) v) := by rw [eT, List.getElem?_map, ek]; rfl
                rw [List.take_succ, et, Option.toList_some, ← List.append_assoc, addAll_snoc] at hq5
                have lT : ∀ y ∈ C ++ (trB n v f j).take u, y.length = n := fun y hy => (List.mem_append.mp hy).elim (lC y) fun z => trB_len (List.mem_of_mem_take z)
                have l2 := hS.low.two n8 (l := C ++ (trB n v f j).take u) lT
                have ec := opB_cut (k := kd3) (f := f) (b := b) hv (by omega) (by omega) (S.map (swk kd3)) (by rw [hS0])
                simp only [target, put, b__law_fewest_3]
                rw [show bD (S.map (swk kd3)) = D.tup ((S.map (swk kd3)).map D.bl) from rfl]
                walk_at "wt"
                rw [cutD_to (by omega), cutD_from (by omega), Int.toNat_natCast, Int.toNat_natCast, ← List.map_take, ← List.map_drop, ← List.map_append, ← List.map_append, ec, List.length_map, List.length_map, List.length_map, List.length_map, List.length_append, List.length_map, List.length_take, List.length_map, List.length_drop]
                refine ⟨by omega, by omega, ?_⟩
                obtain ⟨Y, hY⟩ : ∃ Y, Y = opB n (kd3, (f : Int), (b : Int)) v := ⟨_, rfl⟩
                rw [← hY]
                rw [← hY] at hq5
                simp only [bdtD, hM5.met]
                refine ⟨Y, rfl, ?_⟩
                unfold addN at hq5
                by_cases c : Y ∈ (addAll (K, []) (C ++ (trB n v f j).take u)).1
                · rw [if_pos c] at hq5
                  rw [decide_eq_true c]
                  exact hq5 _ _ ⟨hM5, _, _, _, _, rfl⟩
                · rw [if_neg c] at hq5
                  rw [decide_eq_false c]
                  simp only [Bool.not_false, if_true, setBD, hM5.met]
                  refine ⟨Y, rfl, trivial, c, by omega, ?_⟩
                  have h3 : mset M5 kn (.bdt ((addAll (K, []) (C ++ (trB n v f j).take u)).1 ++ [Y])) w = some (.lst ((addAll (K, []) (C ++ (trB n v f j).take u)).2.map bD)) := by rw [mset_ne (Ne.symm nkw)]; exact hM5.new
                  rw [atV_s (d := .ref w) rfl, isL_ref h3]
                  refine ⟨trivial, ?_⟩
                  simp only [appD, h3]
                  refine ⟨by rw [List.length_map]; simp only [List.length_cons, List.length_nil]; omega, ?_⟩
                  refine hq5 _ _ ⟨⟨by rw [mset_ne nkw, mset_same], ?_, fun b b1 b2 => by rw [mset_ne b2, mset_ne b1, hM5.rest b b1 b2]⟩, _, _, _, _, rfl⟩
                  rw [mset_same, List.map_append]
                  rfl
            · rintro ρ M5 ⟨hM5, o9, o10, o11, o12, rfl⟩
              refine ⟨trivial, ?_⟩
              rw [show (ks3.map fun k => bD (S.map (swk k))).length = (trB n v f j).length by rw [eT, List.length_map, List.length_map], List.take_length] at hM5
              exact hq4 _ _ ⟨hM5, _, _, _, _, _, rfl⟩
          · rintro ρ M4 ⟨hM4, o8, o9, o10, o11, o12, rfl⟩
            refine ⟨trivial, ?_⟩
            rw [len_rangeD, show ((n : Int) + 1 - (0 + (f : Int) + 1)).toNat = n - f by omega] at hM4
            exact hq3 _ _ ⟨hM4, _, _, _, _, _, _, rfl⟩
        · rintro ρ M3 ⟨hM3, o7, o8, o9, o10, o11, o12, rfl⟩
          refine ⟨trivial, ?_⟩
          rw [len_rangeD, show ((n : Int) - 0).toNat = n by omega] at hM3
          exact hq2 _ _ ⟨hM3, _, _, _, _, _, _, _, rfl⟩
    · rintro ρ M2 ⟨hM2, o6, o7, o8, o9, o10, o11, o12, rfl⟩
      refine ⟨trivial, ?_⟩
      rw [List.length_map, List.take_length] at hM2
      simp only [b__law_fewest_2]
      walk_at "wt"
      rw [hM2.new]
      refine hq (n - (m + 1)) _ _ (by omega) ⟨m + 1, _, _, _, _, _, _, _, _, _, _, rfl, hS2, ?_, fun b hb => ?_, rfl⟩
      · unfold mdel
        rw [if_neg nkw]
        exact hM2.met
      · unfold mdel
        by_cases z : b = w
        · rw [if_pos z, z, bw]
        · rw [if_neg z]
          exact hM2.rest b hb z
theorem deed_pure (e : Deed) : (deedD e).pure = true := rfl
theorem deeds_pure : ∀ l : List Deed, D.pures (l.map deedD) = true
  | [] => rfl
  | e :: l => by
    show ((deedD e).pure && D.pures (l.map deedD)) = true
    rw [deeds_pure l]
    rfl
theorem kind_lay {s : Str} (h : kOk s) : PyData.canLay0 (.str s) = true := by
  have := h.ok
  unfold D.eqok SeqAt.shaped at this
  simp only [Bool.and_eq_true] at this
  exact this.2.1
theorem deed_lay {e : Deed} (h : kOk e.1) : PyData.canLay0 (deedD e).py = true := by
  have := kind_lay h
  simp [deedD, D.py, D.pys, PyData.canLay0, PyData.canLayAll0] at this ⊢
  exact this
theorem deeds_lay : ∀ l : List Deed, (∀ e ∈ l, kOk e.1) → PyData.canLayAll0 (D.pys (l.map deedD)) = true
  | [], _ => by simp [D.pys, PyData.canLayAll0]
  | e :: l, h => by
    show PyData.canLayAll0 ((deedD e).py :: D.pys (l.map deedD)) = true
    unfold PyData.canLayAll0
    rw [deed_lay (h e List.mem_cons_self), deeds_lay l fun d hd => h d (List.mem_cons_of_mem _ hd)]
    rfl
theorem deeds_depth : ∀ l : List Deed, PyData.depthAll (D.pys (l.map deedD)) ≤ 1
  | [] => by simp [D.pys, PyData.depthAll]
  | e :: l => by
    show PyData.depthAll ((deedD e).py :: D.pys (l.map deedD)) ≤ 1
    unfold PyData.depthAll
    exact Nat.max_le.mpr ⟨by simp [deedD, D.py, D.pys, PyData.depth, PyData.depthAll], deeds_depth l⟩
theorem deeds_ok (l : List Deed) (h : ∀ e ∈ l, kOk e.1) : (D.lst (l.map deedD)).eqok = true := by
  unfold D.eqok SeqAt.shaped
  have h1 : (D.lst (l.map deedD)).pure = true := deeds_pure l
  have h2 : PyData.canLay0 (D.lst (l.map deedD)).py = true := by
    show PyData.canLay0 (.list (D.pys (l.map deedD))) = true
    unfold PyData.canLay0
    exact deeds_lay l h
  have h3 : PyData.depth (D.lst (l.map deedD)).py ≤ 64 := by
    show PyData.depth (.list (D.pys (l.map deedD))) ≤ 64
    unfold PyData.depth
    have := deeds_depth l
    omega
  rw [h1, h2, decide_eq_true h3]
  rfl
theorem deeds_self (l : List Deed) : D.eqv (.lst (l.map deedD)) (.lst (l.map deedD)) = true := eqv_self _ (deeds_pure l)
def sp__law_row : Spec := fun ds M k x => ∃ (ns : List Int) (i many : Int), ds = [.scr (ns.map .int), .int i, .int many] ∧ 0 ≤ i ∧ i ≤ 100 ∧ 1 ≤ many ∧ many ≤ 1000000000000 ∧
  ∀ (t : Tree) (h : Nat) (g : Int → Bool) (R : List Run), SizeOk many h → RowV many t h g → IsRuns R many g → R.length ≤ 25 → k (.tup [.tup [.int many, treeD t], .lst (R.map runD)]) M
abbrev n__law_row : List Str := ["script", "first", "many", "row", "runs", "cell", "deed"]
def b__law_row_1 : B := (.cons (.ret (.tup (.cons (.var 3) (.cons (.var 4) .nil)))) .nil)
def b__law_row_2 : B := (.cons (.asg 6 (.call "_law_deed" sp__law_deed (.cons (.call "_law_numbers" sp__law_numbers (.cons (.var 5) (.cons (.int 7) .nil))) (.cons (.var 2) .nil)))) (.cons (.asg 3 (.call "done" sp_done (.cons (.var 3) (.cons (.var 6) .nil)))) (.cons (.asg 4 (.call "_law_done" sp__law_done (.cons (.var 4) (.cons (.var 6) .nil)))) .nil)))
def b__law_row : B := (.cons (.asg 3 (.call "all_off" sp_all_off (.cons (.var 2) .nil))) (.cons (.asg 4 (.lst false (.cons (.tup (.cons (.int 0) (.cons (.var 2) (.cons (.bl false) .nil)))) .nil))) (.cons (.loop [5] false (.lst (.slc false (.var 0) (.cons (.var 1) .nil) (.cons (.bin .add (.var 1) (.int 12)) .nil))) b__law_row_2) b__law_row_1)))
theorem w__law_row : Body n__law_row 3 b__law_row sp__law_row := by
  rintro ds M k x ⟨ns, i, many, rfl, i0, i1, m1, m2, hk⟩
  refine ⟨rfl, ?_⟩
  obtain ⟨hh, hs⟩ := size_ex 40 (many := many) (by rw [sz_40]; omega)
  simp only [b__law_row]
  walk_at "wt"
  refine ⟨many, rfl, fun _ => ?_, fun z => absurd ⟨m1, m2⟩ z⟩
  walk_at "wt"
  rw [cutD_mid (by omega) (by omega), ← List.map_drop, ← List.map_take]
  have r0 := runs_off m1
  have e12 : (i + 12).toNat - i.toNat = 12 := by omega
  rw [e12]
  refine floop_go (fun j ρ M' => M' = M ∧ ∃ (t : Tree) (R : List Run) (g : Int → Bool) (o5 o6 : Option D), RowV many t hh g ∧ IsRuns R many g ∧ R.length ≤ 1 + 2 * j ∧
    ρ = [some (.scr (ns.map .int)), some (.int i), some (.int many), some (.tup [.int many, treeD t]), some (.lst (R.map runD)), o5, o6]) ⟨rfl, .all false, _, _, _, _, RowV.off hs, r0, Nat.le_refl _, rfl⟩ ?_ ?_
  · rintro j y ρ M' q hy ⟨rfl, t, R, g, o5, o6, V, hR, lR, rfl⟩ hq
    refine ⟨trivial, ?_⟩
    have hj := (List.getElem?_eq_some_iff.mp hy).1
    rw [List.length_map, List.length_take] at hj
    obtain ⟨cell, _, rfl⟩ := List.mem_map.mp (List.mem_of_getElem? hy)
    simp only [b__law_row_2]
    walk_at "wt"
    refine ⟨cell, 7, rfl, by decide, fun l1 hl1 h1 => ?_⟩
    refine ⟨l1, many, rfl, by omega, h1, m1, m2, fun kind f b hk gg => ?_⟩
    walk_at "wt"
    refine ⟨t, many, f, b, kind, rfl, m2, hk, ?_⟩
    rw [if_pos gg]
    intro h' hs'
    have e := hs'.one hs
    subst e
    have V' := V.put (kind := kind) hs gg
    generalize putOn h' t 0 kind f b = t' at V'
    walk_at "wt"
    refine ⟨R, many, f, b, kind, rfl, by omega, hR.chain, hk, gg, fun R' dR lR' => ?_⟩
    exact hq _ _ ⟨rfl, t', R', _, _, _, V', hR.done dR, by omega, rfl⟩
  · rintro ρ M' ⟨rfl, t, R, g, o5, o6, V, hR, lR, rfl⟩
    refine ⟨trivial, ?_⟩
    simp only [b__law_row_1]
    walk_at "wt"
    refine fewer_of (hk t hh g R hs V hR ?_)
    rw [List.length_map, List.length_take] at lR
    omega
theorem runs_same {M : Mp} {R : List Run} {A B : Prop} (hb : B) : ((vw M (.lst (R.map runD))).eqok = true ∧ (vw M (.lst (R.map runD))).eqok = true) ∧ (if (!(vw M (.lst (R.map runD))).eqv (vw M (.lst (R.map runD)))) = true then A else B) := by
  show ((D.lst (R.map runD)).eqok = true ∧ (D.lst (R.map runD)).eqok = true) ∧ (if (!(D.lst (R.map runD)).eqv (D.lst (R.map runD))) = true then A else B)
  rw [runF.lst.yes R]
  exact ⟨⟨runs_ok R, runs_ok R⟩, by rw [if_neg (by decide)]; exact hb⟩
theorem told_at {t : Tree} {many : Int} {h : Nat} {g : Int → Bool} {R : List Run} {M : Mp} {K : DK} {X : XP} (m1 : 1 ≤ many) (m2 : many ≤ 1000000000000) (hs : SizeOk many h) (V : RowV many t h g) (hR : IsRuns R many g) (lR : R.length ≤ 20000) (hk : ∀ a, M a = none → K (.ref a) (mset M a (.lst (R.map runD)))) : sp_runs_told [.tup [.int many, treeD t]] M K X := by
  refine ⟨t, many, h, rfl, m1, m2, hs, V.row.1.fit, V.leaf hs m1 m2 hR lR, fun R2 hR2 f hf => ?_⟩
  have e2 : R2 = R := hR2.one hR fun p p1 p2 => V.vals p p1 p2
  subst e2
  exact hk f hf
theorem right_at {many : Int} {t : Tree} {h : Nat} {M : Mp} {K : DK} {X : XP} (m1 : 1 ≤ many) (m2 : many ≤ 1000000000000) (hs : SizeOk many h) (r : RowR many t h) (hk : K (.bl true) M) : sp_is_right [.tup [.int many, treeD t]] M K X :=
  ⟨t, many, rfl, fun z => by omega, fun _ _ => ⟨h, hs, fun _ => hk, fun z => absurd r z⟩⟩
theorem same_cmp {M : Mp} {d : D} {A B : Prop} (h : d = .non ∨ ∃ i, d = .int i) (hb : B) : ((vw M d).eqok = true ∧ (vw M d).eqok = true) ∧ (if (!(vw M d).eqv (vw M d)) = true then A else B) := by
  rcases h with rfl | ⟨i, rfl⟩
  · show ((D.non).eqok = true ∧ (D.non).eqok = true) ∧ (if (!(D.non).eqv .non) = true then A else B)
    refine ⟨⟨by decide +kernel, by decide +kernel⟩, ?_⟩
    rw [if_neg (by decide +kernel)]
    exact hb
  · show ((D.int i).eqok = true ∧ (D.int i).eqok = true) ∧ (if (!(D.int i).eqv (.int i)) = true then A else B)
    rw [EqF.int.ok i, EqF.int.yes i]
    exact ⟨⟨rfl, rfl⟩, by rw [if_neg (by decide)]; exact hb⟩
theorem deeds_same {M : Mp} {l : List Deed} {A B : Prop} (hl : ∀ e ∈ l, kOk e.1) (hb : B) : ((vw M (.lst (l.map deedD))).eqok = true ∧ (vw M (.lst (l.map deedD))).eqok = true) ∧ (if (!(vw M (.lst (l.map deedD))).eqv (vw M (.lst (l.map deedD)))) = true then A else B) := by
  show ((D.lst (l.map deedD)).eqok = true ∧ (D.lst (l.map deedD)).eqok = true) ∧ (if (!(D.lst (l.map deedD)).eqv (.lst (l.map deedD))) = true then A else B)
  rw [deeds_ok l hl, deeds_self l]
  exact ⟨⟨rfl, rfl⟩, by rw [if_neg (by decide)]; exact hb⟩
theorem opW_odd (a b : Bool) : opW "odd" a b = (a ^^ b) := by unfold opW; rw [if_pos rfl]
theorem first_is {T : List Run} {many : Int} {G : Int → Bool} {d : D} (hT : IsRuns T many G) (hd : NthR G true 0 many 1 d) : d = (match T.filter fun r => r.2.2 with
    | [] => D.non
    | r :: _ => .int r.1) := by
  have fo := first_on_run hT.chain
  have cg : ∀ b, b ≤ many → cnt (valR T) true 0 b = cnt G true 0 b := fun b hb => cnt_congr fun p p1 p2 => hT.val p p1 (by omega)
  cases hz : T.filter fun r => r.2.2 with
  | nil =>
    rw [hz] at fo
    have fo : cnt (valR T) true 0 many = 0 := fo
    rw [cg many (Int.le_refl _)] at fo
    exact hd.2 (by omega)
  | cons r l =>
    rw [hz] at fo
    have fo : IsNth (valR T) true 0 many 1 r.1 := fo
    have le := fo.le.1
    rw [cg many (Int.le_refl _)] at le
    obtain ⟨p, hp, rfl⟩ := hd.1 le
    show D.int p = .int r.1
    rw [fo.one hp fun q q0 q1 => hT.val q q0 q1]
abbrev n_law : List Str := ["script", "many", "one", "other", "word", "found", "apart", "turns", "least", "run", "first", "beyond", "truth"]
def b_law_1 : B := (.cons (.ret (.bl true)) .nil)
def b_law_2 : B := (.cons (.ite (.cmp .lt (.var 1) (.int 9)) (.cons (.asg 8 (.call "fewest_deeds" sp_fewest_deeds (.cons (.idx (.var 2) (.int 0)) (.cons (.idx (.var 3) (.int 0)) .nil)))) (.cons (.ret (.and (.cmp .eq (.var 8) (.call "_law_fewest" sp__law_fewest (.cons (.call "_law_bits" sp__law_bits (.cons (.idx (.var 2) (.int 1)) .nil)) (.cons (.call "_law_bits" sp__law_bits (.cons (.idx (.var 3) (.int 1)) .nil)) .nil)))) (.one (.cmp .le (.var 8) (.blt .len (.cons (.var 7) .nil)))))) .nil)) .nil) b_law_1)
def b_law_3 : B := (.cons (.ite (.or (.cmp .ne (.call "runs_told" sp_runs_told (.cons (.call "done_all" sp_done_all (.cons (.idx (.var 2) (.int 0)) (.cons (.cpy false (.var 7)) .nil))) .nil)) (.idx (.var 3) (.int 1))) (.one (.cmp .ne (.call "turns_between" sp_turns_between (.cons (.idx (.var 2) (.int 0)) (.cons (.idx (.var 2) (.int 0)) .nil))) (.lst false .nil)))) (.cons (.ret (.bl false)) .nil) .nil) b_law_2)
def b_law_4 : B := (.cons (.asg 7 (.call "turns_between" sp_turns_between (.cons (.idx (.var 2) (.int 0)) (.cons (.idx (.var 3) (.int 0)) .nil)))) (.cons (.ite (.cmp .ne (.var 7) (.comp false [("first", 10), ("beyond", 11), ("truth", 12)] [10, 11, 12] true (.lst (.var 6)) .nil (.tup (.cons (.str "turn") (.cons (.var 10) (.cons (.var 11) .nil)))))) (.cons (.ret (.bl false)) .nil) .nil) b_law_3))
def b_law_5 : B := (.cons (.asgC 6 (.comp false [("run", 9)] [9] false (.lst (.call "_law_joined" sp__law_joined (.cons (.str "odd") (.cons (.idx (.var 2) (.int 1)) (.cons (.idx (.var 3) (.int 1)) .nil))))) (.cons (.idx (.var 9) (.int 2)) .nil) (.var 9))) (.cons (.ite (.cmp .ne (.call "first_apart" sp_first_apart (.cons (.idx (.var 2) (.int 0)) (.cons (.idx (.var 3) (.int 0)) .nil))) (.idx (.cat false (.comp false [("run", 9)] [9] false (.lst (.var 6)) .nil (.idx (.var 9) (.int 0))) (.lst false (.cons .non .nil))) (.int 0))) (.cons (.ret (.bl false)) .nil) .nil) b_law_4))
def b_law_6 : B := (.cons (.asg 5 (.call "put_together" sp_put_together (.cons (.var 4) (.cons (.idx (.var 2) (.int 0)) (.cons (.idx (.var 3) (.int 0)) .nil))))) (.cons (.ite (.or (.isB true true (.call "is_right" sp_is_right (.cons (.var 5) .nil))) (.one (.cmp .ne (.call "runs_told" sp_runs_told (.cons (.var 5) .nil)) (.call "_law_joined" sp__law_joined (.cons (.var 4) (.cons (.idx (.var 2) (.int 1)) (.cons (.idx (.var 3) (.int 1)) .nil))))))) (.cons (.ret (.bl false)) .nil) .nil) .nil))
def b_law : B := (.cons (.asg 1 (.call "_law_many" sp__law_many (.cons (.call "_law_numbers" sp__law_numbers (.cons (.call "_law_cell_at" sp__law_cell_at (.cons (.var 0) (.cons (.int 0) .nil))) (.cons (.int 3) .nil))) .nil))) (.cons (.asg 2 (.call "_law_row" sp__law_row (.cons (.var 0) (.cons (.int 1) (.cons (.var 1) .nil))))) (.cons (.asg 3 (.call "_law_row" sp__law_row (.cons (.var 0) (.cons (.int 13) (.cons (.var 1) .nil))))) (.cons (.loop [4] false (.lst (.lst false (.cons (.str "both") (.cons (.str "either") (.cons (.str "odd") .nil))))) b_law_6) b_law_5))))
theorem w_law : Body n_law 1 b_law spLaw := by
  rintro ds M k x ⟨ns, rfl, hn, rfl, h⟩
  refine ⟨rfl, ?_⟩
  simp only [b_law]
  walk_at "wt"
  refine ⟨ns, 0, rfl, by decide, fun c0 => ?_⟩
  walk_at "wt"
  refine ⟨c0, 3, rfl, by decide, fun l0 hl0 h0 => ?_⟩
  refine ⟨l0, rfl, by omega, h0, fun many m1 m2 => ?_⟩
  walk_at "wt"
  refine ⟨ns, 1, many, rfl, by decide, by decide, m1, m2, fun t hh g R hs V hR lR => ?_⟩
  have hle := hs.le m2
  walk_at "wt"
  refine ⟨ns, 13, many, rfl, by decide, by decide, m1, m2, fun u h2 g' S hs2 U hS lS => ?_⟩
  have e := hs2.one hs
  subst e
  walk_at "wt"
  refine floop_go (fun i ρ M => ∃ o4 o5 : Option D, ρ = [some (.scr (ns.map .int)), some (.int many), some (.tup [.tup [.int many, treeD t], .lst (R.map runD)]), some (.tup [.tup [.int many, treeD u], .lst (S.map runD)]), o4, o5, none, none, none, none, none, none, none]) ⟨_, _, rfl⟩ ?_ ?_
  · rintro i y ρ M q hy ⟨o4, o5, rfl⟩ hq
    refine ⟨trivial, ?_⟩
    obtain ⟨w, hw, rfl⟩ : ∃ w : Str, wOk w ∧ y = .str w := by
      have := List.mem_of_getElem? hy
      simp only [List.mem_cons, List.not_mem_nil, or_false] at this
      rcases this with rfl | rfl | rfl
      · exact ⟨_, .inl rfl, rfl⟩
      · exact ⟨_, .inr (.inl rfl), rfl⟩
      · exact ⟨_, .inr (.inr rfl), rfl⟩
    simp only [target, put, b_law_6]
    walk_at "wt"
    refine .inl ⟨w, t, u, many, h2, g, g', rfl, m1, m2, hw, hs, V, U, fun v W => ?_⟩
    refine right_at m1 m2 hs W.row ?_
    walk_at "wt"
    obtain ⟨T, hT, lT⟩ := hR.both hS (opW w)
    refine told_at m1 m2 hs W hT (by omega) fun f hf => ?_
    refine ⟨w, R, S, many, g, g', rfl, hw, m1, hR, hS, by omega, by omega, fun T2 hT2 lT2 => ?_⟩
    have e : T2 = T := hT2.one hT fun _ _ _ => rfl
    subst e
    dsimp only
    rw [vw_lst mset_same]
    exact runs_same (M := M) (hq _ _ ⟨_, _, rfl⟩)
  · rintro ρ M ⟨o4, o5, rfl⟩
    refine ⟨trivial, ?_⟩
    simp only [b_law_5]
    walk_at "wt"
    refine ⟨"odd", R, S, many, g, g', rfl, .inr (.inr rfl), m1, hR, hS, by omega, by omega, fun T hT lT => ?_⟩
    rw [show (fun p => opW "odd" (g p) (g' p)) = fun p => g p ^^ g' p from funext fun p => opW_odd _ _] at hT
    walk_at "wt"
    rw [List.length_map]
    refine ⟨by omega, ?_⟩
    refine turns_fil (e := runD) (p := fun r => r.2.2) (f := runD) trivial T (fun r _ q hq => ?_) ?_
    · obtain ⟨f, b, v⟩ := r
      simp only [runD]
      walk_at "wt"
      cases v <;> exact hq
    refine .inl ⟨t, u, many, h2, g, g', T, rfl, m1, m2, hs, V, U, hT, by omega, fun d hd => ?_⟩
    have ed := first_is hT hd
    have lF := List.length_filter_le (fun r : Run => r.2.2) T
    walk_at "wt"
    rw [List.length_map]
    refine ⟨by omega, ?_⟩
    refine turns_fil (e := runD) (p := fun _ => true) (f := fun r => .int r.1) trivial _ (fun r _ q hq => ?_) ?_
    · simp only [runD]
      walk_at "wt"
      simpa using hq
    rw [filter_tt, List.length_map]
    refine ⟨by omega, d, ?_, ?_⟩
    · rw [ed]
      cases T.filter fun r => r.2.2 with
      | nil => exact atI_get (Int.le_refl 0) rfl
      | cons r l => exact atI_get (Int.le_refl 0) rfl
    refine same_cmp ?_ ?_
    · rw [ed]
      cases T.filter fun r => r.2.2 with
      | nil => exact .inl rfl
      | cons r l => exact .inr ⟨_, rfl⟩
    simp only [b_law_4]
    walk_at "wt"
    refine .inl ⟨t, u, many, h2, g, g', T, rfl, m1, m2, hs, V, U, hT, by omega, ?_⟩
    walk_at "wt"
    rw [List.length_map]
    refine ⟨by omega, ?_⟩
    refine turns_fil (e := runD) (p := fun _ => true) (f := fun r => .tup [.str "turn", .int r.1, .int r.2.1]) trivial _ (fun r _ q hq => ?_) ?_
    · simp only [runD]
      walk_at "wt"
      simpa using hq
    rw [filter_tt, show (T.filter fun r => r.2.2).map (fun r : Run => D.tup [.str "turn", .int r.1, .int r.2.1]) = (onDeeds T).map deedD from turnsL_on T, turnsL_on]
    have og := onDeeds_gd hT.chain
    refine deeds_same (M := M) (fun e he => (og e he).1) ?_
    simp only [b_law_3]
    walk_at "wt"
    refine ⟨t, many, .lst ((onDeeds T).map deedD), onDeeds T, rfl, rfl, m2, fun q hq => (og q hq).1, fun _ h1 hs1 => ?_, fun z => absurd (fun q hq => (og q hq).2) z⟩
    have e := hs1.one hs
    subst e
    have va := V.all hs (l := onDeeds T) fun q hq => (og q hq).2
    have sm := turns_make hT
    generalize doneAll h1 (onDeeds T) t = x1 at va
    walk_at "wt"
    refine told_at (R := S) m1 m2 hs va ⟨hS.chain, hS.alt, fun p p0 p1 => by rw [hS.val p p0 p1, sm p p0 p1]⟩ (by omega) fun f hf => ?_
    rw [vw_lst mset_same]
    refine runs_same (M := M) ?_
    have r0 := runs_off m1
    refine .inl ⟨t, t, many, h1, g, g, _, rfl, m1, m2, hs, V, V, ⟨r0.chain, r0.alt, fun p p0 p1 => by rw [r0.val p p0 p1]; simp⟩, by show 1 ≤ 20000; omega, ?_⟩
    rw [show turnsL [(0, many, false)] = [] from rfl]
    walk_at "wt"
    refine ite_of (fun c => absurd c (show ¬ (!(D.lst []).eqv (D.lst [])) = true by rw [eqv_nil0]; decide)) (fun _ => ?_)
    simp only [b_law_2]
    walk_at "wt"
    have fin : ∀ (ρ : Env) (M' : Mp), wpB b_law_1 ρ M' (fun x M' => fewer k .non M') (fewer k) (fun c _ M' => fewerX x c M') := fun ρ M' => by
      simp only [b_law_1]
      walk_at "wt"
      exact fewer_of (h _)
    refine ite_of (fun c => ?_) (fun c => fin _ _)
    have c : many < 9 := by simpa using c
    obtain ⟨n, rfl⟩ : ∃ n : Nat, many = n := ⟨many.toNat, by omega⟩
    refine .inl ⟨t, u, n, h1, g, g', R, S, rfl, m1, by omega, hs, V, U, hR, by omega, hS, by omega, fun m hm => ?_⟩
    walk_at "wt"
    refine ⟨R, n, g, rfl, by omega, by omega, hR, by omega, ?_⟩
    refine ⟨S, n, g', rfl, by omega, by omega, hS, by omega, ?_⟩
    refine ⟨n, lsB n g, lsB n g', rfl, by omega, by omega, lsB_len _ _, lsB_len _ _, fun m' hm' => ?_⟩
    have em := hm.one (hm'.same (tl_lsB n g) (tl_lsB n g'))
    subst em
    have le := hm.le (Fw.turns hT)
    show (D.int (m : Int)).eqok = true ∧ (if (D.int (m : Int)).eqv (.int (m : Int)) = true then _ else _)
    refine ⟨EqF.int.ok _, ite_of (fun _ => ?_) (fun c => absurd (EqF.int.yes _) c)⟩
    rw [decide_eq_true (by rw [List.length_map]; omega)]
    exact fewer_of (h _)

end T
namespace T
open PySem L2 PyProof.Rows
def top (i : Nat) : Stmt := PySem.Challenge.pw_turnrows_k49_whole_two_rows.main.body.getD i (.Pass ⟨0, 0, 0, 0⟩)
abbrev st_sums_turned : Stmt := top 10
theorem fs_sums_turned : FnScope n_sums_turned ["sums", "size"] (defScope st_sums_turned) := ⟨rfl, rfl, rfl, by decide +kernel, rfl, by decide +kernel, by decide +kernel⟩
set_option maxHeartbeats 0 in
theorem fo_sums_turned : okB n_sums_turned (defScope st_sums_turned) b_sums_turned (defBody st_sums_turned) = true := by decide +kernel
theorem ok_sums_turned {P : Program} {w : World} {K : Frag} {mg : Str → Option Value} {base : Heap} {k : Nat} (A : FnAt K mg "sums_turned" st_sums_turned) (nb : NoB mg) : CallG P w K mg base (cvOf mg) (k + 1) "sums_turned" sp_sums_turned := by
  obtain ⟨f, fd, h1, h2, F⟩ := A
  refine ⟨f, fd, ["sums", "size"], h1, h2, F.binds (fun _ _ _ _ _ _ us hl => match us, hl with | [_, _], _ => rfl), def_ok F fs_sums_turned fo_sums_turned nb ?_ w_sums_turned⟩
  simp only [b_sums_turned, B.calls, S.calls, E.calls, A.calls, I.calls, Needs, needAll, needFns, and_self, and_true, true_and]
abbrev st_end_on : Stmt := top 12
theorem fs_end_on : FnScope n_end_on ["tree", "side"] (defScope st_end_on) := ⟨rfl, rfl, rfl, by decide +kernel, rfl, by decide +kernel, by decide +kernel⟩
set_option maxHeartbeats 0 in
theorem fo_end_on : okB n_end_on (defScope st_end_on) b_end_on (defBody st_end_on) = true := by decide +kernel
theorem ok_end_on {P : Program} {w : World} {K : Frag} {mg : Str → Option Value} {base : Heap} {k : Nat} (A : FnAt K mg "end_on" st_end_on) (nb : NoB mg) : CallG P w K mg base (cvOf mg) (k + 1) "end_on" sp_end_on := by
  obtain ⟨f, fd, h1, h2, F⟩ := A
  refine ⟨f, fd, ["tree", "side"], h1, h2, F.binds (fun _ _ _ _ _ _ us hl => match us, hl with | [_, _], _ => rfl), def_ok F fs_end_on fo_end_on nb ?_ w_end_on⟩
  simp only [b_end_on_1, b_end_on_2, b_end_on, B.calls, S.calls, E.calls, A.calls, I.calls, Needs, needAll, needFns, and_self, and_true, true_and]
abbrev st_need_alike : Stmt := top 25
theorem fs_need_alike : FnScope n_need_alike ["one", "other"] (defScope st_need_alike) := ⟨rfl, rfl, rfl, by decide +kernel, rfl, by decide +kernel, by decide +kernel⟩
set_option maxHeartbeats 0 in
theorem fo_need_alike : okB n_need_alike (defScope st_need_alike) b_need_alike (defBody st_need_alike) = true := by decide +kernel
theorem ok_need_alike {P : Program} {w : World} {K : Frag} {mg : Str → Option Value} {base : Heap} {k : Nat} (A : FnAt K mg "need_alike" st_need_alike) (nb : NoB mg) (r_NoRow : RaisOk (cvOf mg) K mg "NoRow") : CallG P w K mg base (cvOf mg) (k + 1) "need_alike" sp_need_alike := by
  obtain ⟨f, fd, h1, h2, F⟩ := A
  refine ⟨f, fd, ["one", "other"], h1, h2, F.binds (fun _ _ _ _ _ _ us hl => match us, hl with | [_, _], _ => rfl), def_ok F fs_need_alike fo_need_alike nb ?_ w_need_alike⟩
  simp only [b_need_alike, B.calls, S.calls, E.calls, A.calls, I.calls, Needs, needAll, needFns, r_NoRow, and_self, and_true, true_and]
abbrev st_behind_all : Stmt := top 32
theorem fs_behind_all : FnScope n_behind_all ["bits", "masks"] (defScope st_behind_all) := ⟨rfl, rfl, rfl, by decide +kernel, rfl, by decide +kernel, by decide +kernel⟩
set_option maxHeartbeats 0 in
theorem fo_behind_all : okB n_behind_all (defScope st_behind_all) b_behind_all (defBody st_behind_all) = true := by decide +kernel
theorem ok_behind_all {P : Program} {w : World} {K : Frag} {mg : Str → Option Value} {base : Heap} {k : Nat} (A : FnAt K mg "behind_all" st_behind_all) (nb : NoB mg) : CallG P w K mg base (cvOf mg) (k + 1) "behind_all" sp_behind_all := by
  obtain ⟨f, fd, h1, h2, F⟩ := A
  refine ⟨f, fd, ["bits", "masks"], h1, h2, F.binds (fun _ _ _ _ _ _ us hl => match us, hl with | [_, _], _ => rfl), def_ok F fs_behind_all fo_behind_all nb ?_ w_behind_all⟩
  simp only [b_behind_all_1, b_behind_all_2, b_behind_all, B.calls, S.calls, E.calls, A.calls, I.calls, Needs, needAll, needFns, and_self, and_true, true_and]
abbrev st_need_stretch : Stmt := top 35
theorem fs_need_stretch : FnScope n_need_stretch ["many", "first", "beyond"] (defScope st_need_stretch) := ⟨rfl, rfl, rfl, by decide +kernel, rfl, by decide +kernel, by decide +kernel⟩
set_option maxHeartbeats 0 in
theorem fo_need_stretch : okB n_need_stretch (defScope st_need_stretch) b_need_stretch (defBody st_need_stretch) = true := by decide +kernel
theorem ok_need_stretch {P : Program} {w : World} {K : Frag} {mg : Str → Option Value} {base : Heap} {k : Nat} (A : FnAt K mg "need_stretch" st_need_stretch) (nb : NoB mg) (r_NoStretch : RaisOk (cvOf mg) K mg "NoStretch") : CallG P w K mg base (cvOf mg) (k + 1) "need_stretch" sp_need_stretch := by
  obtain ⟨f, fd, h1, h2, F⟩ := A
  refine ⟨f, fd, ["many", "first", "beyond"], h1, h2, F.binds (fun _ _ _ _ _ _ us hl => match us, hl with | [_, _, _], _ => rfl), def_ok F fs_need_stretch fo_need_stretch nb ?_ w_need_stretch⟩
  simp only [b_need_stretch, B.calls, S.calls, E.calls, A.calls, I.calls, Needs, needAll, needFns, r_NoStretch, and_self, and_true, true_and]
abbrev st__law_cell_at : Stmt := top 41
theorem fs__law_cell_at : FnScope n__law_cell_at ["script", "k"] (defScope st__law_cell_at) := ⟨rfl, rfl, rfl, by decide +kernel, rfl, by decide +kernel, by decide +kernel⟩
set_option maxHeartbeats 0 in
theorem fo__law_cell_at : okB n__law_cell_at (defScope st__law_cell_at) b__law_cell_at (defBody st__law_cell_at) = true := by decide +kernel
theorem ok__law_cell_at {P : Program} {w : World} {K : Frag} {mg : Str → Option Value} {base : Heap} {k : Nat} (A : FnAt K mg "_law_cell_at" st__law_cell_at) (nb : NoB mg) : CallG P w K mg base (cvOf mg) (k + 1) "_law_cell_at" sp__law_cell_at := by
  obtain ⟨f, fd, h1, h2, F⟩ := A
  refine ⟨f, fd, ["script", "k"], h1, h2, F.binds (fun _ _ _ _ _ _ us hl => match us, hl with | [_, _], _ => rfl), def_ok F fs__law_cell_at fo__law_cell_at nb ?_ w__law_cell_at⟩
  simp only [b__law_cell_at_1, b__law_cell_at, B.calls, S.calls, E.calls, A.calls, I.calls, Needs, needAll, needFns, and_self, and_true, true_and]
abbrev st__law_numbers : Stmt := top 42
theorem fs__law_numbers : FnScope n__law_numbers ["cell", "many"] (defScope st__law_numbers) := ⟨rfl, rfl, rfl, by decide +kernel, rfl, by decide +kernel, by decide +kernel⟩
set_option maxHeartbeats 0 in
theorem fo__law_numbers : okB n__law_numbers (defScope st__law_numbers) b__law_numbers (defBody st__law_numbers) = true := by decide +kernel
theorem ok__law_numbers {P : Program} {w : World} {K : Frag} {mg : Str → Option Value} {base : Heap} {k : Nat} (A : FnAt K mg "_law_numbers" st__law_numbers) (nb : NoB mg) : CallG P w K mg base (cvOf mg) (k + 1) "_law_numbers" sp__law_numbers := by
  obtain ⟨f, fd, h1, h2, F⟩ := A
  refine ⟨f, fd, ["cell", "many"], h1, h2, F.binds (fun _ _ _ _ _ _ us hl => match us, hl with | [_, _], _ => rfl), def_ok F fs__law_numbers fo__law_numbers nb ?_ w__law_numbers⟩
  simp only [b__law_numbers_1, b__law_numbers_2, b__law_numbers, B.calls, S.calls, E.calls, A.calls, I.calls, Needs, needAll, needFns, and_self, and_true, true_and]
abbrev st__law_many : Stmt := top 43
theorem fs__law_many : FnScope n__law_many ["numbers"] (defScope st__law_many) := ⟨rfl, rfl, rfl, by decide +kernel, rfl, by decide +kernel, by decide +kernel⟩
set_option maxHeartbeats 0 in
theorem fo__law_many : okB n__law_many (defScope st__law_many) b__law_many (defBody st__law_many) = true := by decide +kernel
theorem ok__law_many {P : Program} {w : World} {K : Frag} {mg : Str → Option Value} {base : Heap} {k : Nat} (A : FnAt K mg "_law_many" st__law_many) (nb : NoB mg) : CallG P w K mg base (cvOf mg) (k + 1) "_law_many" sp__law_many := by
  obtain ⟨f, fd, h1, h2, F⟩ := A
  refine ⟨f, fd, ["numbers"], h1, h2, F.binds (fun _ _ _ _ _ _ us hl => match us, hl with | [_], _ => rfl), def_ok F fs__law_many fo__law_many nb ?_ w__law_many⟩
  simp only [b__law_many_1, b__law_many_2, b__law_many_3, b__law_many, B.calls, S.calls, E.calls, A.calls, I.calls, Needs, needAll, needFns, and_self, and_true, true_and]
abbrev st__law_place : Stmt := top 44
theorem fs__law_place : FnScope n__law_place ["numbers", "many"] (defScope st__law_place) := ⟨rfl, rfl, rfl, by decide +kernel, rfl, by decide +kernel, by decide +kernel⟩
set_option maxHeartbeats 0 in
theorem fo__law_place : okB n__law_place (defScope st__law_place) b__law_place (defBody st__law_place) = true := by decide +kernel
theorem ok__law_place {P : Program} {w : World} {K : Frag} {mg : Str → Option Value} {base : Heap} {k : Nat} (A : FnAt K mg "_law_place" st__law_place) (nb : NoB mg) : CallG P w K mg base (cvOf mg) (k + 1) "_law_place" sp__law_place := by
  obtain ⟨f, fd, h1, h2, F⟩ := A
  refine ⟨f, fd, ["numbers", "many"], h1, h2, F.binds (fun _ _ _ _ _ _ us hl => match us, hl with | [_, _], _ => rfl), def_ok F fs__law_place fo__law_place nb ?_ w__law_place⟩
  simp only [b__law_place_1, b__law_place_2, b__law_place_3, b__law_place, B.calls, S.calls, E.calls, A.calls, I.calls, Needs, needAll, needFns, and_self, and_true, true_and]
abbrev st__law_done : Stmt := top 47
theorem fs__law_done : FnScope n__law_done ["runs", "deed"] (defScope st__law_done) := ⟨rfl, rfl, rfl, by decide +kernel, rfl, by decide +kernel, by decide +kernel⟩
set_option maxHeartbeats 0 in
theorem fo__law_done : okB n__law_done (defScope st__law_done) b__law_done (defBody st__law_done) = true := by decide +kernel
theorem ok__law_done {P : Program} {w : World} {K : Frag} {mg : Str → Option Value} {base : Heap} {k : Nat} (A : FnAt K mg "_law_done" st__law_done) (nb : NoB mg) : CallG P w K mg base (cvOf mg) (k + 1) "_law_done" sp__law_done := by
  obtain ⟨f, fd, h1, h2, F⟩ := A
  refine ⟨f, fd, ["runs", "deed"], h1, h2, F.binds (fun _ _ _ _ _ _ us hl => match us, hl with | [_, _], _ => rfl), def_ok F fs__law_done fo__law_done nb ?_ w__law_done⟩
  simp only [b__law_done_1, b__law_done_2, b__law_done_3, b__law_done_4, b__law_done, B.calls, S.calls, E.calls, A.calls, I.calls, Needs, needAll, needFns, and_self, and_true, true_and]
abbrev st__law_truth : Stmt := top 48
theorem fs__law_truth : FnScope n__law_truth ["runs", "place"] (defScope st__law_truth) := ⟨rfl, rfl, rfl, by decide +kernel, rfl, by decide +kernel, by decide +kernel⟩
set_option maxHeartbeats 0 in
theorem fo__law_truth : okB n__law_truth (defScope st__law_truth) b__law_truth (defBody st__law_truth) = true := by decide +kernel
theorem ok__law_truth {P : Program} {w : World} {K : Frag} {mg : Str → Option Value} {base : Heap} {k : Nat} (A : FnAt K mg "_law_truth" st__law_truth) (nb : NoB mg) : CallG P w K mg base (cvOf mg) (k + 1) "_law_truth" sp__law_truth := by
  obtain ⟨f, fd, h1, h2, F⟩ := A
  refine ⟨f, fd, ["runs", "place"], h1, h2, F.binds (fun _ _ _ _ _ _ us hl => match us, hl with | [_, _], _ => rfl), def_ok F fs__law_truth fo__law_truth nb ?_ w__law_truth⟩
  simp only [b__law_truth, B.calls, S.calls, E.calls, A.calls, I.calls, Needs, needAll, needFns, and_self, and_true, true_and]
abbrev st__law_fewest : Stmt := top 52
theorem fs__law_fewest : FnScope n__law_fewest ["one", "other"] (defScope st__law_fewest) := ⟨rfl, rfl, rfl, by decide +kernel, rfl, by decide +kernel, by decide +kernel⟩
set_option maxHeartbeats 0 in
theorem fo__law_fewest : okB n__law_fewest (defScope st__law_fewest) b__law_fewest (defBody st__law_fewest) = true := by decide +kernel
theorem ok__law_fewest {P : Program} {w : World} {K : Frag} {mg : Str → Option Value} {base : Heap} {k : Nat} (A : FnAt K mg "_law_fewest" st__law_fewest) (nb : NoB mg) : CallG P w K mg base (cvOf mg) (k + 1) "_law_fewest" sp__law_fewest := by
  obtain ⟨f, fd, h1, h2, F⟩ := A
  refine ⟨f, fd, ["one", "other"], h1, h2, F.binds (fun _ _ _ _ _ _ us hl => match us, hl with | [_, _], _ => rfl), def_ok F fs__law_fewest fo__law_fewest nb ?_ w__law_fewest⟩
  simp only [b__law_fewest_1, b__law_fewest_2, b__law_fewest_3, b__law_fewest_4, b__law_fewest_5, b__law_fewest_6, b__law_fewest_7, b__law_fewest, B.calls, S.calls, E.calls, A.calls, I.calls, Needs, needAll, needFns, and_self, and_true, true_and]
abbrev st_size_for : Stmt := top 7
theorem fs_size_for : FnScope n_size_for ["many"] (defScope st_size_for) := ⟨rfl, rfl, rfl, by decide +kernel, rfl, by decide +kernel, by decide +kernel⟩
set_option maxHeartbeats 0 in
theorem fo_size_for : okB n_size_for (defScope st_size_for) b_size_for (defBody st_size_for) = true := by decide +kernel
theorem ok_size_for {P : Program} {w : World} {K : Frag} {mg : Str → Option Value} {base : Heap} {k : Nat} (A : FnAt K mg "size_for" st_size_for) (nb : NoB mg) : CallG P w K mg base (cvOf mg) (k + 1) "size_for" sp_size_for := by
  obtain ⟨f, fd, h1, h2, F⟩ := A
  refine ⟨f, fd, ["many"], h1, h2, F.binds (fun _ _ _ _ _ _ us hl => match us, hl with | [_], _ => rfl), def_ok F fs_size_for fo_size_for nb ?_ w_size_for⟩
  simp only [b_size_for_1, b_size_for_2, b_size_for, B.calls, S.calls, E.calls, A.calls, I.calls, Needs, needAll, needFns, and_self, and_true, true_and]
abbrev st_all_off : Stmt := top 8
theorem fs_all_off : FnScope n_all_off ["many"] (defScope st_all_off) := ⟨rfl, rfl, rfl, by decide +kernel, rfl, by decide +kernel, by decide +kernel⟩
set_option maxHeartbeats 0 in
theorem fo_all_off : okB n_all_off (defScope st_all_off) b_all_off (defBody st_all_off) = true := by decide +kernel
theorem ok_all_off {P : Program} {w : World} {K : Frag} {mg : Str → Option Value} {base : Heap} {k : Nat} (A : FnAt K mg "all_off" st_all_off) (nb : NoB mg) (r_NoNumber : RaisOk (cvOf mg) K mg "NoNumber") (z_MOST_SWITCHES : ConG K mg "MOST_SWITCHES" g_MOST_SWITCHES) : CallG P w K mg base (cvOf mg) (k + 1) "all_off" sp_all_off := by
  obtain ⟨f, fd, h1, h2, F⟩ := A
  refine ⟨f, fd, ["many"], h1, h2, F.binds (fun _ _ _ _ _ _ us hl => match us, hl with | [_], _ => rfl), def_ok F fs_all_off fo_all_off nb ?_ w_all_off⟩
  simp only [b_all_off_1, b_all_off, B.calls, S.calls, E.calls, A.calls, I.calls, Needs, needAll, needFns, r_NoNumber, z_MOST_SWITCHES, and_self, and_true, true_and]
abbrev st_sums_of : Stmt := top 9
theorem fs_sums_of : FnScope n_sums_of ["tree", "size"] (defScope st_sums_of) := ⟨rfl, rfl, rfl, by decide +kernel, rfl, by decide +kernel, by decide +kernel⟩
set_option maxHeartbeats 0 in
theorem fo_sums_of : okB n_sums_of (defScope st_sums_of) b_sums_of (defBody st_sums_of) = true := by decide +kernel
theorem ok_sums_of {P : Program} {w : World} {K : Frag} {mg : Str → Option Value} {base : Heap} {k : Nat} (A : FnAt K mg "sums_of" st_sums_of) (nb : NoB mg) : CallG P w K mg base (cvOf mg) (k + 1) "sums_of" sp_sums_of := by
  obtain ⟨f, fd, h1, h2, F⟩ := A
  refine ⟨f, fd, ["tree", "size"], h1, h2, F.binds (fun _ _ _ _ _ _ us hl => match us, hl with | [_, _], _ => rfl), def_ok F fs_sums_of fo_sums_of nb ?_ w_sums_of⟩
  simp only [b_sums_of_1, b_sums_of_2, b_sums_of, B.calls, S.calls, E.calls, A.calls, I.calls, Needs, needAll, needFns, and_self, and_true, true_and]
abbrev st_turned : Stmt := top 11
theorem fs_turned : FnScope n_turned ["tree", "size"] (defScope st_turned) := ⟨rfl, rfl, rfl, by decide +kernel, rfl, by decide +kernel, by decide +kernel⟩
set_option maxHeartbeats 0 in
theorem fo_turned : okB n_turned (defScope st_turned) b_turned (defBody st_turned) = true := by decide +kernel
theorem ok_turned {P : Program} {w : World} {K : Frag} {mg : Str → Option Value} {base : Heap} {k : Nat} (A : FnAt K mg "turned" st_turned) (nb : NoB mg) (c_sums_turned : CallG P w K mg base (cvOf mg) k "sums_turned" sp_sums_turned) : CallG P w K mg base (cvOf mg) (k + 1) "turned" sp_turned := by
  obtain ⟨f, fd, h1, h2, F⟩ := A
  refine ⟨f, fd, ["tree", "size"], h1, h2, F.binds (fun _ _ _ _ _ _ us hl => match us, hl with | [_, _], _ => rfl), def_ok F fs_turned fo_turned nb ?_ w_turned⟩
  simp only [b_turned_1, b_turned, B.calls, S.calls, E.calls, A.calls, I.calls, Needs, needAll, needFns, c_sums_turned, and_self, and_true, true_and]
abbrev st_first_on : Stmt := top 13
theorem fs_first_on : FnScope n_first_on ["tree"] (defScope st_first_on) := ⟨rfl, rfl, rfl, by decide +kernel, rfl, by decide +kernel, by decide +kernel⟩
set_option maxHeartbeats 0 in
theorem fo_first_on : okB n_first_on (defScope st_first_on) b_first_on (defBody st_first_on) = true := by decide +kernel
theorem ok_first_on {P : Program} {w : World} {K : Frag} {mg : Str → Option Value} {base : Heap} {k : Nat} (A : FnAt K mg "first_on" st_first_on) (nb : NoB mg) (c_end_on : CallG P w K mg base (cvOf mg) k "end_on" sp_end_on) : CallG P w K mg base (cvOf mg) (k + 1) "first_on" sp_first_on := by
  obtain ⟨f, fd, h1, h2, F⟩ := A
  refine ⟨f, fd, ["tree"], h1, h2, F.binds (fun _ _ _ _ _ _ us hl => match us, hl with | [_], _ => rfl), def_ok F fs_first_on fo_first_on nb ?_ w_first_on⟩
  simp only [b_first_on, B.calls, S.calls, E.calls, A.calls, I.calls, Needs, needAll, needFns, c_end_on, and_self, and_true, true_and]
abbrev st_last_on : Stmt := top 14
theorem fs_last_on : FnScope n_last_on ["tree"] (defScope st_last_on) := ⟨rfl, rfl, rfl, by decide +kernel, rfl, by decide +kernel, by decide +kernel⟩
set_option maxHeartbeats 0 in
theorem fo_last_on : okB n_last_on (defScope st_last_on) b_last_on (defBody st_last_on) = true := by decide +kernel
theorem ok_last_on {P : Program} {w : World} {K : Frag} {mg : Str → Option Value} {base : Heap} {k : Nat} (A : FnAt K mg "last_on" st_last_on) (nb : NoB mg) (c_end_on : CallG P w K mg base (cvOf mg) k "end_on" sp_end_on) : CallG P w K mg base (cvOf mg) (k + 1) "last_on" sp_last_on := by
  obtain ⟨f, fd, h1, h2, F⟩ := A
  refine ⟨f, fd, ["tree"], h1, h2, F.binds (fun _ _ _ _ _ _ us hl => match us, hl with | [_], _ => rfl), def_ok F fs_last_on fo_last_on nb ?_ w_last_on⟩
  simp only [b_last_on, B.calls, S.calls, E.calls, A.calls, I.calls, Needs, needAll, needFns, c_end_on, and_self, and_true, true_and]
abbrev st_need_deed : Stmt := top 37
theorem fs_need_deed : FnScope n_need_deed ["many", "deed"] (defScope st_need_deed) := ⟨rfl, rfl, rfl, by decide +kernel, rfl, by decide +kernel, by decide +kernel⟩
set_option maxHeartbeats 0 in
theorem fo_need_deed : okB n_need_deed (defScope st_need_deed) b_need_deed (defBody st_need_deed) = true := by decide +kernel
theorem ok_need_deed {P : Program} {w : World} {K : Frag} {mg : Str → Option Value} {base : Heap} {k : Nat} (A : FnAt K mg "need_deed" st_need_deed) (nb : NoB mg) (c_need_stretch : CallG P w K mg base (cvOf mg) k "need_stretch" sp_need_stretch) : CallG P w K mg base (cvOf mg) (k + 1) "need_deed" sp_need_deed := by
  obtain ⟨f, fd, h1, h2, F⟩ := A
  refine ⟨f, fd, ["many", "deed"], h1, h2, F.binds (fun _ _ _ _ _ _ us hl => match us, hl with | [_, _], _ => rfl), def_ok F fs_need_deed fo_need_deed nb ?_ w_need_deed⟩
  simp only [b_need_deed, B.calls, S.calls, E.calls, A.calls, I.calls, Needs, needAll, needFns, c_need_stretch, and_self, and_true, true_and]
abbrev st__law_stretch : Stmt := top 45
theorem fs__law_stretch : FnScope n__law_stretch ["numbers", "many"] (defScope st__law_stretch) := ⟨rfl, rfl, rfl, by decide +kernel, rfl, by decide +kernel, by decide +kernel⟩
set_option maxHeartbeats 0 in
theorem fo__law_stretch : okB n__law_stretch (defScope st__law_stretch) b__law_stretch (defBody st__law_stretch) = true := by decide +kernel
theorem ok__law_stretch {P : Program} {w : World} {K : Frag} {mg : Str → Option Value} {base : Heap} {k : Nat} (A : FnAt K mg "_law_stretch" st__law_stretch) (nb : NoB mg) (c__law_place : CallG P w K mg base (cvOf mg) k "_law_place" sp__law_place) : CallG P w K mg base (cvOf mg) (k + 1) "_law_stretch" sp__law_stretch := by
  obtain ⟨f, fd, h1, h2, F⟩ := A
  refine ⟨f, fd, ["numbers", "many"], h1, h2, F.binds (fun _ _ _ _ _ _ us hl => match us, hl with | [_, _], _ => rfl), def_ok F fs__law_stretch fo__law_stretch nb ?_ w__law_stretch⟩
  simp only [b__law_stretch_1, b__law_stretch, B.calls, S.calls, E.calls, A.calls, I.calls, Needs, needAll, needFns, c__law_place, and_self, and_true, true_and]
abbrev st__law_joined : Stmt := top 49
theorem fs__law_joined : FnScope n__law_joined ["word", "one", "other"] (defScope st__law_joined) := ⟨rfl, rfl, rfl, by decide +kernel, rfl, by decide +kernel, by decide +kernel⟩
set_option maxHeartbeats 0 in
theorem fo__law_joined : okB n__law_joined (defScope st__law_joined) b__law_joined (defBody st__law_joined) = true := by decide +kernel
theorem ok__law_joined {P : Program} {w : World} {K : Frag} {mg : Str → Option Value} {base : Heap} {k : Nat} (A : FnAt K mg "_law_joined" st__law_joined) (nb : NoB mg) (c__law_truth : CallG P w K mg base (cvOf mg) k "_law_truth" sp__law_truth) : CallG P w K mg base (cvOf mg) (k + 1) "_law_joined" sp__law_joined := by
  obtain ⟨f, fd, h1, h2, F⟩ := A
  refine ⟨f, fd, ["word", "one", "other"], h1, h2, F.binds (fun _ _ _ _ _ _ us hl => match us, hl with | [_, _, _], _ => rfl), def_ok F fs__law_joined fo__law_joined nb ?_ w__law_joined⟩
  simp only [b__law_joined_1, b__law_joined_2, b__law_joined_3, b__law_joined, B.calls, S.calls, E.calls, A.calls, I.calls, Needs, needAll, needFns, c__law_truth, and_self, and_true, true_and]
abbrev st__law_bits : Stmt := top 51
theorem fs__law_bits : FnScope n__law_bits ["runs"] (defScope st__law_bits) := ⟨rfl, rfl, rfl, by decide +kernel, rfl, by decide +kernel, by decide +kernel⟩
set_option maxHeartbeats 0 in
theorem fo__law_bits : okB n__law_bits (defScope st__law_bits) b__law_bits (defBody st__law_bits) = true := by decide +kernel
theorem ok__law_bits {P : Program} {w : World} {K : Frag} {mg : Str → Option Value} {base : Heap} {k : Nat} (A : FnAt K mg "_law_bits" st__law_bits) (nb : NoB mg) (c__law_truth : CallG P w K mg base (cvOf mg) k "_law_truth" sp__law_truth) : CallG P w K mg base (cvOf mg) (k + 1) "_law_bits" sp__law_bits := by
  obtain ⟨f, fd, h1, h2, F⟩ := A
  refine ⟨f, fd, ["runs"], h1, h2, F.binds (fun _ _ _ _ _ _ us hl => match us, hl with | [_], _ => rfl), def_ok F fs__law_bits fo__law_bits nb ?_ w__law_bits⟩
  simp only [b__law_bits, B.calls, S.calls, E.calls, A.calls, I.calls, Needs, needAll, needFns, c__law_truth, and_self, and_true, true_and]
abbrev st_sums_put : Stmt := top 15
theorem fs_sums_put : FnScope n_sums_put ["left", "right", "size"] (defScope st_sums_put) := ⟨rfl, rfl, rfl, by decide +kernel, rfl, by decide +kernel, by decide +kernel⟩
set_option maxHeartbeats 0 in
theorem fo_sums_put : okB n_sums_put (defScope st_sums_put) b_sums_put (defBody st_sums_put) = true := by decide +kernel
theorem ok_sums_put {P : Program} {w : World} {K : Frag} {mg : Str → Option Value} {base : Heap} {k : Nat} (A : FnAt K mg "sums_put" st_sums_put) (nb : NoB mg) (c_sums_of : CallG P w K mg base (cvOf mg) k "sums_of" sp_sums_of) (c_last_on : CallG P w K mg base (cvOf mg) k "last_on" sp_last_on) (c_first_on : CallG P w K mg base (cvOf mg) k "first_on" sp_first_on) : CallG P w K mg base (cvOf mg) (k + 1) "sums_put" sp_sums_put := by
  obtain ⟨f, fd, h1, h2, F⟩ := A
  refine ⟨f, fd, ["left", "right", "size"], h1, h2, F.binds (fun _ _ _ _ _ _ us hl => match us, hl with | [_, _, _], _ => rfl), def_ok F fs_sums_put fo_sums_put nb ?_ w_sums_put⟩
  simp only [b_sums_put_1, b_sums_put_2, b_sums_put_3, b_sums_put, B.calls, S.calls, E.calls, A.calls, I.calls, Needs, needAll, needFns, c_sums_of, c_last_on, c_first_on, and_self, and_true, true_and]
abbrev st_opened : Stmt := top 17
theorem fs_opened : FnScope n_opened ["tree", "size"] (defScope st_opened) := ⟨rfl, rfl, rfl, by decide +kernel, rfl, by decide +kernel, by decide +kernel⟩
set_option maxHeartbeats 0 in
theorem fo_opened : okB n_opened (defScope st_opened) b_opened (defBody st_opened) = true := by decide +kernel
theorem ok_opened {P : Program} {w : World} {K : Frag} {mg : Str → Option Value} {base : Heap} {k : Nat} (A : FnAt K mg "opened" st_opened) (nb : NoB mg) (c_turned : CallG P w K mg base (cvOf mg) k "turned" sp_turned) : CallG P w K mg base (cvOf mg) (k + 1) "opened" sp_opened := by
  obtain ⟨f, fd, h1, h2, F⟩ := A
  refine ⟨f, fd, ["tree", "size"], h1, h2, F.binds (fun _ _ _ _ _ _ us hl => match us, hl with | [_, _], _ => rfl), def_ok F fs_opened fo_opened nb ?_ w_opened⟩
  simp only [b_opened_1, b_opened_2, b_opened, B.calls, S.calls, E.calls, A.calls, I.calls, Needs, needAll, needFns, c_turned, and_self, and_true, true_and]
abbrev st_with_all : Stmt := top 26
theorem fs_with_all : FnScope n_with_all ["word", "truth", "tree", "size"] (defScope st_with_all) := ⟨rfl, rfl, rfl, by decide +kernel, rfl, by decide +kernel, by decide +kernel⟩
set_option maxHeartbeats 0 in
theorem fo_with_all : okB n_with_all (defScope st_with_all) b_with_all (defBody st_with_all) = true := by decide +kernel
theorem ok_with_all {P : Program} {w : World} {K : Frag} {mg : Str → Option Value} {base : Heap} {k : Nat} (A : FnAt K mg "with_all" st_with_all) (nb : NoB mg) (c_turned : CallG P w K mg base (cvOf mg) k "turned" sp_turned) : CallG P w K mg base (cvOf mg) (k + 1) "with_all" sp_with_all := by
  obtain ⟨f, fd, h1, h2, F⟩ := A
  refine ⟨f, fd, ["word", "truth", "tree", "size"], h1, h2, F.binds (fun _ _ _ _ _ _ us hl => match us, hl with | [_, _, _, _], _ => rfl), def_ok F fs_with_all fo_with_all nb ?_ w_with_all⟩
  simp only [b_with_all_1, b_with_all_2, b_with_all, B.calls, S.calls, E.calls, A.calls, I.calls, Needs, needAll, needFns, c_turned, and_self, and_true, true_and]
abbrev st__law_deed : Stmt := top 46
theorem fs__law_deed : FnScope n__law_deed ["numbers", "many"] (defScope st__law_deed) := ⟨rfl, rfl, rfl, by decide +kernel, rfl, by decide +kernel, by decide +kernel⟩
set_option maxHeartbeats 0 in
theorem fo__law_deed : okB n__law_deed (defScope st__law_deed) b__law_deed (defBody st__law_deed) = true := by decide +kernel
theorem ok__law_deed {P : Program} {w : World} {K : Frag} {mg : Str → Option Value} {base : Heap} {k : Nat} (A : FnAt K mg "_law_deed" st__law_deed) (nb : NoB mg) (c__law_stretch : CallG P w K mg base (cvOf mg) k "_law_stretch" sp__law_stretch) : CallG P w K mg base (cvOf mg) (k + 1) "_law_deed" sp__law_deed := by
  obtain ⟨f, fd, h1, h2, F⟩ := A
  refine ⟨f, fd, ["numbers", "many"], h1, h2, F.binds (fun _ _ _ _ _ _ us hl => match us, hl with | [_, _], _ => rfl), def_ok F fs__law_deed fo__law_deed nb ?_ w__law_deed⟩
  simp only [b__law_deed, B.calls, S.calls, E.calls, A.calls, I.calls, Needs, needAll, needFns, c__law_stretch, and_self, and_true, true_and]
abbrev st_half_of : Stmt := top 16
theorem fs_half_of : FnScope n_half_of ["left", "right", "size"] (defScope st_half_of) := ⟨rfl, rfl, rfl, by decide +kernel, rfl, by decide +kernel, by decide +kernel⟩
set_option maxHeartbeats 0 in
theorem fo_half_of : okB n_half_of (defScope st_half_of) b_half_of (defBody st_half_of) = true := by decide +kernel
theorem ok_half_of {P : Program} {w : World} {K : Frag} {mg : Str → Option Value} {base : Heap} {k : Nat} (A : FnAt K mg "half_of" st_half_of) (nb : NoB mg) (c_sums_put : CallG P w K mg base (cvOf mg) k "sums_put" sp_sums_put) : CallG P w K mg base (cvOf mg) (k + 1) "half_of" sp_half_of := by
  obtain ⟨f, fd, h1, h2, F⟩ := A
  refine ⟨f, fd, ["left", "right", "size"], h1, h2, F.binds (fun _ _ _ _ _ _ us hl => match us, hl with | [_, _, _], _ => rfl), def_ok F fs_half_of fo_half_of nb ?_ w_half_of⟩
  simp only [b_half_of_1, b_half_of, B.calls, S.calls, E.calls, A.calls, I.calls, Needs, needAll, needFns, c_sums_put, and_self, and_true, true_and]
abbrev st_stretches_in : Stmt := top 21
theorem fs_stretches_in : FnScope n_stretches_in ["tree", "size", "low", "above", "found"] (defScope st_stretches_in) := ⟨rfl, rfl, rfl, by decide +kernel, rfl, by decide +kernel, by decide +kernel⟩
set_option maxHeartbeats 0 in
theorem fo_stretches_in (sp : Spec) : okB n_stretches_in (defScope st_stretches_in) (b_stretches_in sp) (defBody st_stretches_in) = true := by kernel_rfl
theorem ok_stretches_in {P : Program} {w : World} {K : Frag} {mg : Str → Option Value} {base : Heap} {k : Nat} (A : FnAt K mg "stretches_in" st_stretches_in) (nb : NoB mg) : ∀ n, CallG P w K mg base (cvOf mg) (k + n) "stretches_in" (sp_stretches_in n) := by
  obtain ⟨f, fd, h1, h2, F⟩ := A
  intro n
  have hb : Binds K fd ["tree", "size", "low", "above", "found"] [] := F.binds (fun _ _ _ _ _ _ us hl => match us, hl with | [_, _, _, _, _], _ => rfl)
  induction n with
  | zero => exact ⟨f, fd, ["tree", "size", "low", "above", "found"], h1, h2, hb, ⟨fun vs H Q E h => by obtain ⟨G, M, ds, kk, x, _, _, h, _⟩ := h; exact (zero_stretches_in _ _ _ _ h).elim, fun A outer s H args us vs Q E _ _ _ _ h => by obtain ⟨G, M, ds, kk, x, _, _, h, _⟩ := h; exact (zero_stretches_in _ _ _ _ h).elim⟩⟩
  | succ n ih =>
    refine ⟨f, fd, ["tree", "size", "low", "above", "found"], h1, h2, hb, def_ok (k := k + n) F fs_stretches_in (fo_stretches_in _) nb ?_ (w_stretches_in n)⟩
    simp only [b_stretches_in_1, b_stretches_in, B.calls, S.calls, E.calls, A.calls, I.calls, Needs, needAll, needFns, ih, and_self, and_true, true_and]
abbrev st_runs_told : Stmt := top 22
theorem fs_runs_told : FnScope n_runs_told ["row"] (defScope st_runs_told) := ⟨rfl, rfl, rfl, by decide +kernel, rfl, by decide +kernel, by decide +kernel⟩
set_option maxHeartbeats 0 in
theorem fo_runs_told : okB n_runs_told (defScope st_runs_told) b_runs_told (defBody st_runs_told) = true := by decide +kernel
theorem ok_runs_told {P : Program} {w : World} {K : Frag} {mg : Str → Option Value} {base : Heap} {k : Nat} (A : FnAt K mg "runs_told" st_runs_told) (nb : NoB mg) (c_stretches_in : CallG P w K mg base (cvOf mg) k "stretches_in" (sp_stretches_in 42)) (c_size_for : CallG P w K mg base (cvOf mg) k "size_for" sp_size_for) : CallG P w K mg base (cvOf mg) (k + 1) "runs_told" sp_runs_told := by
  obtain ⟨f, fd, h1, h2, F⟩ := A
  refine ⟨f, fd, ["row"], h1, h2, F.binds (fun _ _ _ _ _ _ us hl => match us, hl with | [_], _ => rfl), def_ok F fs_runs_told fo_runs_told nb ?_ w_runs_told⟩
  simp only [b_runs_told_1, b_runs_told_2, b_runs_told, B.calls, S.calls, E.calls, A.calls, I.calls, Needs, needAll, needFns, c_stretches_in, c_size_for, and_self, and_true, true_and]
abbrev st_bits_of : Stmt := top 31
theorem fs_bits_of : FnScope n_bits_of ["row"] (defScope st_bits_of) := ⟨rfl, rfl, rfl, by decide +kernel, rfl, by decide +kernel, by decide +kernel⟩
set_option maxHeartbeats 0 in
theorem fo_bits_of : okB n_bits_of (defScope st_bits_of) b_bits_of (defBody st_bits_of) = true := by decide +kernel
theorem ok_bits_of {P : Program} {w : World} {K : Frag} {mg : Str → Option Value} {base : Heap} {k : Nat} (A : FnAt K mg "bits_of" st_bits_of) (nb : NoB mg) (c_runs_told : CallG P w K mg base (cvOf mg) k "runs_told" sp_runs_told) : CallG P w K mg base (cvOf mg) (k + 1) "bits_of" sp_bits_of := by
  obtain ⟨f, fd, h1, h2, F⟩ := A
  refine ⟨f, fd, ["row"], h1, h2, F.binds (fun _ _ _ _ _ _ us hl => match us, hl with | [_], _ => rfl), def_ok F fs_bits_of fo_bits_of nb ?_ w_bits_of⟩
  simp only [b_bits_of_1, b_bits_of_2, b_bits_of, B.calls, S.calls, E.calls, A.calls, I.calls, Needs, needAll, needFns, c_runs_told, and_self, and_true, true_and]
abbrev st_is_right_tree : Stmt := top 18
theorem fs_is_right_tree : FnScope n_is_right_tree ["tree", "size", "room", "above"] (defScope st_is_right_tree) := ⟨rfl, rfl, rfl, by decide +kernel, rfl, by decide +kernel, by decide +kernel⟩
set_option maxHeartbeats 0 in
theorem fo_is_right_tree (sp : Spec) : okB n_is_right_tree (defScope st_is_right_tree) (b_is_right_tree sp) (defBody st_is_right_tree) = true := by kernel_rfl
theorem ok_is_right_tree {P : Program} {w : World} {K : Frag} {mg : Str → Option Value} {base : Heap} {k : Nat} (A : FnAt K mg "is_right_tree" st_is_right_tree) (nb : NoB mg) (c_sums_put : CallG P w K mg base (cvOf mg) k "sums_put" sp_sums_put) (c_sums_turned : CallG P w K mg base (cvOf mg) k "sums_turned" sp_sums_turned) : ∀ n, CallG P w K mg base (cvOf mg) (k + n) "is_right_tree" (sp_is_right_tree n) := by
  obtain ⟨f, fd, h1, h2, F⟩ := A
  intro n
  have hb : Binds K fd ["tree", "size", "room", "above"] [] := F.binds (fun _ _ _ _ _ _ us hl => match us, hl with | [_, _, _, _], _ => rfl)
  induction n with
  | zero => exact ⟨f, fd, ["tree", "size", "room", "above"], h1, h2, hb, ⟨fun vs H Q E h => by obtain ⟨G, M, ds, kk, x, _, _, h, _⟩ := h; exact (zero_is_right_tree _ _ _ _ h).elim, fun A outer s H args us vs Q E _ _ _ _ h => by obtain ⟨G, M, ds, kk, x, _, _, h, _⟩ := h; exact (zero_is_right_tree _ _ _ _ h).elim⟩⟩
  | succ n ih =>
    refine ⟨f, fd, ["tree", "size", "room", "above"], h1, h2, hb, def_ok (k := k + n) F fs_is_right_tree (fo_is_right_tree _) nb ?_ (w_is_right_tree n)⟩
    simp only [b_is_right_tree_1, b_is_right_tree_2, b_is_right_tree_3, b_is_right_tree_4, b_is_right_tree_5, b_is_right_tree, B.calls, S.calls, E.calls, A.calls, I.calls, Needs, needAll, needFns, c_sums_put.mono (Nat.le_add_right k n), c_sums_turned.mono (Nat.le_add_right k n), ih, and_self, and_true, true_and]
abbrev st_fewest_deeds : Stmt := top 33
theorem fs_fewest_deeds : FnScope n_fewest_deeds ["one", "other"] (defScope st_fewest_deeds) := ⟨rfl, rfl, rfl, by decide +kernel, rfl, by decide +kernel, by decide +kernel⟩
set_option maxHeartbeats 0 in
theorem fo_fewest_deeds : okB n_fewest_deeds (defScope st_fewest_deeds) b_fewest_deeds (defBody st_fewest_deeds) = true := by decide +kernel
theorem ok_fewest_deeds {P : Program} {w : World} {K : Frag} {mg : Str → Option Value} {base : Heap} {k : Nat} (A : FnAt K mg "fewest_deeds" st_fewest_deeds) (nb : NoB mg) (r_NoNumber : RaisOk (cvOf mg) K mg "NoNumber") (c_need_alike : CallG P w K mg base (cvOf mg) k "need_alike" sp_need_alike) (c_bits_of : CallG P w K mg base (cvOf mg) k "bits_of" sp_bits_of) (c_behind_all : CallG P w K mg base (cvOf mg) k "behind_all" sp_behind_all) (z_MOST_LITTLE : ConG K mg "MOST_LITTLE" g_MOST_LITTLE) : CallG P w K mg base (cvOf mg) (k + 1) "fewest_deeds" sp_fewest_deeds := by
  obtain ⟨f, fd, h1, h2, F⟩ := A
  refine ⟨f, fd, ["one", "other"], h1, h2, F.binds (fun _ _ _ _ _ _ us hl => match us, hl with | [_, _], _ => rfl), def_ok F fs_fewest_deeds fo_fewest_deeds nb ?_ w_fewest_deeds⟩
  simp only [b_fewest_deeds_1, b_fewest_deeds_2, b_fewest_deeds_3, b_fewest_deeds_4, b_fewest_deeds_5, b_fewest_deeds_6, b_fewest_deeds_7, b_fewest_deeds_8, b_fewest_deeds, B.calls, S.calls, E.calls, A.calls, I.calls, Needs, needAll, needFns, r_NoNumber, c_need_alike, c_bits_of, c_behind_all, z_MOST_LITTLE, and_self, and_true, true_and]
abbrev st_is_right : Stmt := top 19
theorem fs_is_right : FnScope n_is_right ["row"] (defScope st_is_right) := ⟨rfl, rfl, rfl, by decide +kernel, rfl, by decide +kernel, by decide +kernel⟩
set_option maxHeartbeats 0 in
theorem fo_is_right : okB n_is_right (defScope st_is_right) b_is_right (defBody st_is_right) = true := by decide +kernel
theorem ok_is_right {P : Program} {w : World} {K : Frag} {mg : Str → Option Value} {base : Heap} {k : Nat} (A : FnAt K mg "is_right" st_is_right) (nb : NoB mg) (c_is_right_tree : CallG P w K mg base (cvOf mg) k "is_right_tree" (sp_is_right_tree 42)) (c_size_for : CallG P w K mg base (cvOf mg) k "size_for" sp_size_for) (z_MOST_SWITCHES : ConG K mg "MOST_SWITCHES" g_MOST_SWITCHES) : CallG P w K mg base (cvOf mg) (k + 1) "is_right" sp_is_right := by
  obtain ⟨f, fd, h1, h2, F⟩ := A
  refine ⟨f, fd, ["row"], h1, h2, F.binds (fun _ _ _ _ _ _ us hl => match us, hl with | [_], _ => rfl), def_ok F fs_is_right fo_is_right nb ?_ w_is_right⟩
  simp only [b_is_right, B.calls, S.calls, E.calls, A.calls, I.calls, Needs, needAll, needFns, c_is_right_tree, c_size_for, z_MOST_SWITCHES, and_self, and_true, true_and]
abbrev st_put_on : Stmt := top 20
theorem fs_put_on : FnScope n_put_on ["tree", "size", "low", "deed"] (defScope st_put_on) := ⟨rfl, rfl, rfl, by decide +kernel, rfl, by decide +kernel, by decide +kernel⟩
set_option maxHeartbeats 0 in
theorem fo_put_on (sp : Spec) : okB n_put_on (defScope st_put_on) (b_put_on sp) (defBody st_put_on) = true := by kernel_rfl
theorem ok_put_on {P : Program} {w : World} {K : Frag} {mg : Str → Option Value} {base : Heap} {k : Nat} (A : FnAt K mg "put_on" st_put_on) (nb : NoB mg) (c_opened : CallG P w K mg base (cvOf mg) k "opened" sp_opened) (c_half_of : CallG P w K mg base (cvOf mg) k "half_of" sp_half_of) (c_turned : CallG P w K mg base (cvOf mg) k "turned" sp_turned) : ∀ n, CallG P w K mg base (cvOf mg) (k + n) "put_on" (sp_put_on n) := by
  obtain ⟨f, fd, h1, h2, F⟩ := A
  intro n
  have hb : Binds K fd ["tree", "size", "low", "deed"] [] := F.binds (fun _ _ _ _ _ _ us hl => match us, hl with | [_, _, _, _], _ => rfl)
  induction n with
  | zero => exact ⟨f, fd, ["tree", "size", "low", "deed"], h1, h2, hb, ⟨fun vs H Q E h => by obtain ⟨G, M, ds, kk, x, _, _, h, _⟩ := h; exact (zero_put_on _ _ _ _ h).elim, fun A outer s H args us vs Q E _ _ _ _ h => by obtain ⟨G, M, ds, kk, x, _, _, h, _⟩ := h; exact (zero_put_on _ _ _ _ h).elim⟩⟩
  | succ n ih =>
    refine ⟨f, fd, ["tree", "size", "low", "deed"], h1, h2, hb, def_ok (k := k + n) F fs_put_on (fo_put_on _) nb ?_ (w_put_on n)⟩
    simp only [b_put_on_1, b_put_on_2, b_put_on_3, b_put_on, B.calls, S.calls, E.calls, A.calls, I.calls, Needs, needAll, needFns, c_opened.mono (Nat.le_add_right k n), c_half_of.mono (Nat.le_add_right k n), c_turned.mono (Nat.le_add_right k n), ih, and_self, and_true, true_and]
abbrev st_trees_together : Stmt := top 27
theorem fs_trees_together : FnScope n_trees_together ["word", "one", "other", "size"] (defScope st_trees_together) := ⟨rfl, rfl, rfl, by decide +kernel, rfl, by decide +kernel, by decide +kernel⟩
set_option maxHeartbeats 0 in
theorem fo_trees_together (sp : Spec) : okB n_trees_together (defScope st_trees_together) (b_trees_together sp) (defBody st_trees_together) = true := by kernel_rfl
theorem ok_trees_together {P : Program} {w : World} {K : Frag} {mg : Str → Option Value} {base : Heap} {k : Nat} (A : FnAt K mg "trees_together" st_trees_together) (nb : NoB mg) (c_opened : CallG P w K mg base (cvOf mg) k "opened" sp_opened) (c_half_of : CallG P w K mg base (cvOf mg) k "half_of" sp_half_of) (c_with_all : CallG P w K mg base (cvOf mg) k "with_all" sp_with_all) : ∀ n, CallG P w K mg base (cvOf mg) (k + n) "trees_together" (sp_trees_together n) := by
  obtain ⟨f, fd, h1, h2, F⟩ := A
  intro n
  have hb : Binds K fd ["word", "one", "other", "size"] [] := F.binds (fun _ _ _ _ _ _ us hl => match us, hl with | [_, _, _, _], _ => rfl)
  induction n with
  | zero => exact ⟨f, fd, ["word", "one", "other", "size"], h1, h2, hb, ⟨fun vs H Q E h => by obtain ⟨G, M, ds, kk, x, _, _, h, _⟩ := h; exact (zero_trees_together _ _ _ _ h).elim, fun A outer s H args us vs Q E _ _ _ _ h => by obtain ⟨G, M, ds, kk, x, _, _, h, _⟩ := h; exact (zero_trees_together _ _ _ _ h).elim⟩⟩
  | succ n ih =>
    refine ⟨f, fd, ["word", "one", "other", "size"], h1, h2, hb, def_ok (k := k + n) F fs_trees_together (fo_trees_together _) nb ?_ (w_trees_together n)⟩
    simp only [b_trees_together_1, b_trees_together_2, b_trees_together, B.calls, S.calls, E.calls, A.calls, I.calls, Needs, needAll, needFns, c_opened.mono (Nat.le_add_right k n), c_half_of.mono (Nat.le_add_right k n), c_with_all.mono (Nat.le_add_right k n), ih, and_self, and_true, true_and]
abbrev st_put_together : Stmt := top 28
theorem fs_put_together : FnScope n_put_together ["word", "one", "other"] (defScope st_put_together) := ⟨rfl, rfl, rfl, by decide +kernel, rfl, by decide +kernel, by decide +kernel⟩
set_option maxHeartbeats 0 in
theorem fo_put_together : okB n_put_together (defScope st_put_together) b_put_together (defBody st_put_together) = true := by decide +kernel
theorem ok_put_together {P : Program} {w : World} {K : Frag} {mg : Str → Option Value} {base : Heap} {k : Nat} (A : FnAt K mg "put_together" st_put_together) (nb : NoB mg) (c_need_alike : CallG P w K mg base (cvOf mg) k "need_alike" sp_need_alike) (c_trees_together : CallG P w K mg base (cvOf mg) k "trees_together" (sp_trees_together 42)) (c_size_for : CallG P w K mg base (cvOf mg) k "size_for" sp_size_for) : CallG P w K mg base (cvOf mg) (k + 1) "put_together" sp_put_together := by
  obtain ⟨f, fd, h1, h2, F⟩ := A
  refine ⟨f, fd, ["word", "one", "other"], h1, h2, F.binds (fun _ _ _ _ _ _ us hl => match us, hl with | [_, _, _], _ => rfl), def_ok F fs_put_together fo_put_together nb ?_ w_put_together⟩
  simp only [b_put_together, B.calls, S.calls, E.calls, A.calls, I.calls, Needs, needAll, needFns, c_need_alike, c_trees_together, c_size_for, and_self, and_true, true_and]
abbrev st_done : Stmt := top 38
theorem fs_done : FnScope n_done ["row", "deed"] (defScope st_done) := ⟨rfl, rfl, rfl, by decide +kernel, rfl, by decide +kernel, by decide +kernel⟩
set_option maxHeartbeats 0 in
theorem fo_done : okB n_done (defScope st_done) b_done (defBody st_done) = true := by decide +kernel
theorem ok_done {P : Program} {w : World} {K : Frag} {mg : Str → Option Value} {base : Heap} {k : Nat} (A : FnAt K mg "done" st_done) (nb : NoB mg) (c_need_deed : CallG P w K mg base (cvOf mg) k "need_deed" sp_need_deed) (c_put_on : CallG P w K mg base (cvOf mg) k "put_on" (sp_put_on 42)) (c_size_for : CallG P w K mg base (cvOf mg) k "size_for" sp_size_for) : CallG P w K mg base (cvOf mg) (k + 1) "done" sp_done := by
  obtain ⟨f, fd, h1, h2, F⟩ := A
  refine ⟨f, fd, ["row", "deed"], h1, h2, F.binds (fun _ _ _ _ _ _ us hl => match us, hl with | [_, _], _ => rfl), def_ok F fs_done fo_done nb ?_ w_done⟩
  simp only [b_done, B.calls, S.calls, E.calls, A.calls, I.calls, Needs, needAll, needFns, c_need_deed, c_put_on, c_size_for, and_self, and_true, true_and]
abbrev st_done_all : Stmt := top 39
theorem fs_done_all : FnScope n_done_all ["row", "deeds"] (defScope st_done_all) := ⟨rfl, rfl, rfl, by decide +kernel, rfl, by decide +kernel, by decide +kernel⟩
set_option maxHeartbeats 0 in
theorem fo_done_all : okB n_done_all (defScope st_done_all) b_done_all (defBody st_done_all) = true := by decide +kernel
theorem ok_done_all {P : Program} {w : World} {K : Frag} {mg : Str → Option Value} {base : Heap} {k : Nat} (A : FnAt K mg "done_all" st_done_all) (nb : NoB mg) (c_size_for : CallG P w K mg base (cvOf mg) k "size_for" sp_size_for) (c_need_deed : CallG P w K mg base (cvOf mg) k "need_deed" sp_need_deed) (c_put_on : CallG P w K mg base (cvOf mg) k "put_on" (sp_put_on 42)) : CallG P w K mg base (cvOf mg) (k + 1) "done_all" sp_done_all := by
  obtain ⟨f, fd, h1, h2, F⟩ := A
  refine ⟨f, fd, ["row", "deeds"], h1, h2, F.binds (fun _ _ _ _ _ _ us hl => match us, hl with | [_, _], _ => rfl), def_ok F fs_done_all fo_done_all nb ?_ w_done_all⟩
  simp only [b_done_all_1, b_done_all_2, b_done_all_3, b_done_all_4, b_done_all, B.calls, S.calls, E.calls, A.calls, I.calls, Needs, needAll, needFns, c_size_for, c_need_deed, c_put_on, and_self, and_true, true_and]
abbrev st_turns_between : Stmt := top 30
theorem fs_turns_between : FnScope n_turns_between ["one", "other"] (defScope st_turns_between) := ⟨rfl, rfl, rfl, by decide +kernel, rfl, by decide +kernel, by decide +kernel⟩
set_option maxHeartbeats 0 in
theorem fo_turns_between : okB n_turns_between (defScope st_turns_between) b_turns_between (defBody st_turns_between) = true := by decide +kernel
theorem ok_turns_between {P : Program} {w : World} {K : Frag} {mg : Str → Option Value} {base : Heap} {k : Nat} (A : FnAt K mg "turns_between" st_turns_between) (nb : NoB mg) (c_runs_told : CallG P w K mg base (cvOf mg) k "runs_told" sp_runs_told) (c_put_together : CallG P w K mg base (cvOf mg) k "put_together" sp_put_together) : CallG P w K mg base (cvOf mg) (k + 1) "turns_between" sp_turns_between := by
  obtain ⟨f, fd, h1, h2, F⟩ := A
  refine ⟨f, fd, ["one", "other"], h1, h2, F.binds (fun _ _ _ _ _ _ us hl => match us, hl with | [_, _], _ => rfl), def_ok F fs_turns_between fo_turns_between nb ?_ w_turns_between⟩
  simp only [b_turns_between, B.calls, S.calls, E.calls, A.calls, I.calls, Needs, needAll, needFns, c_runs_told, c_put_together, and_self, and_true, true_and]
abbrev st__law_row : Stmt := top 50
theorem fs__law_row : FnScope n__law_row ["script", "first", "many"] (defScope st__law_row) := ⟨rfl, rfl, rfl, by decide +kernel, rfl, by decide +kernel, by decide +kernel⟩
set_option maxHeartbeats 0 in
theorem fo__law_row : okB n__law_row (defScope st__law_row) b__law_row (defBody st__law_row) = true := by decide +kernel
theorem ok__law_row {P : Program} {w : World} {K : Frag} {mg : Str → Option Value} {base : Heap} {k : Nat} (A : FnAt K mg "_law_row" st__law_row) (nb : NoB mg) (c_all_off : CallG P w K mg base (cvOf mg) k "all_off" sp_all_off) (c__law_deed : CallG P w K mg base (cvOf mg) k "_law_deed" sp__law_deed) (c_done : CallG P w K mg base (cvOf mg) k "done" sp_done) (c__law_done : CallG P w K mg base (cvOf mg) k "_law_done" sp__law_done) (c__law_numbers : CallG P w K mg base (cvOf mg) k "_law_numbers" sp__law_numbers) : CallG P w K mg base (cvOf mg) (k + 1) "_law_row" sp__law_row := by
  obtain ⟨f, fd, h1, h2, F⟩ := A
  refine ⟨f, fd, ["script", "first", "many"], h1, h2, F.binds (fun _ _ _ _ _ _ us hl => match us, hl with | [_, _, _], _ => rfl), def_ok F fs__law_row fo__law_row nb ?_ w__law_row⟩
  simp only [b__law_row_1, b__law_row_2, b__law_row, B.calls, S.calls, E.calls, A.calls, I.calls, Needs, needAll, needFns, c_all_off, c__law_deed, c_done, c__law_done, c__law_numbers, and_self, and_true, true_and]
abbrev st_first_apart : Stmt := top 29
theorem fs_first_apart : FnScope n_first_apart ["one", "other"] (defScope st_first_apart) := ⟨rfl, rfl, rfl, by decide +kernel, rfl, by decide +kernel, by decide +kernel⟩
set_option maxHeartbeats 0 in
theorem fo_first_apart : okB n_first_apart (defScope st_first_apart) b_first_apart (defBody st_first_apart) = true := by decide +kernel
theorem ok_first_apart {P : Program} {w : World} {K : Frag} {mg : Str → Option Value} {base : Heap} {k : Nat} (A : FnAt K mg "first_apart" st_first_apart) (nb : NoB mg) (c_turns_between : CallG P w K mg base (cvOf mg) k "turns_between" sp_turns_between) : CallG P w K mg base (cvOf mg) (k + 1) "first_apart" sp_first_apart := by
  obtain ⟨f, fd, h1, h2, F⟩ := A
  refine ⟨f, fd, ["one", "other"], h1, h2, F.binds (fun _ _ _ _ _ _ us hl => match us, hl with | [_, _], _ => rfl), def_ok F fs_first_apart fo_first_apart nb ?_ w_first_apart⟩
  simp only [b_first_apart_1, b_first_apart_2, b_first_apart, B.calls, S.calls, E.calls, A.calls, I.calls, Needs, needAll, needFns, c_turns_between, and_self, and_true, true_and]
abbrev st_law : Stmt := top 53
theorem fs_law : FnScope n_law ["script"] (defScope st_law) := ⟨rfl, rfl, rfl, by decide +kernel, rfl, by decide +kernel, by decide +kernel⟩
set_option maxHeartbeats 0 in
theorem fo_law : okB n_law (defScope st_law) b_law (defBody st_law) = true := by decide +kernel
theorem ok_law {P : Program} {w : World} {K : Frag} {mg : Str → Option Value} {base : Heap} {k : Nat} {f : Addr} {fd : FuncData} (F : Fun K "law" "law" st_law f fd) (nb : NoB mg) (c__law_many : CallG P w K mg base (cvOf mg) k "_law_many" sp__law_many) (c__law_row : CallG P w K mg base (cvOf mg) k "_law_row" sp__law_row) (c_turns_between : CallG P w K mg base (cvOf mg) k "turns_between" sp_turns_between) (c__law_numbers : CallG P w K mg base (cvOf mg) k "_law_numbers" sp__law_numbers) (c_put_together : CallG P w K mg base (cvOf mg) k "put_together" sp_put_together) (c_first_apart : CallG P w K mg base (cvOf mg) k "first_apart" sp_first_apart) (c_fewest_deeds : CallG P w K mg base (cvOf mg) k "fewest_deeds" sp_fewest_deeds) (c__law_cell_at : CallG P w K mg base (cvOf mg) k "_law_cell_at" sp__law_cell_at) (c__law_joined : CallG P w K mg base (cvOf mg) k "_law_joined" sp__law_joined) (c_runs_told : CallG P w K mg base (cvOf mg) k "runs_told" sp_runs_told) (c_is_right : CallG P w K mg base (cvOf mg) k "is_right" sp_is_right) (c_done_all : CallG P w K mg base (cvOf mg) k "done_all" sp_done_all) (c__law_fewest : CallG P w K mg base (cvOf mg) k "_law_fewest" sp__law_fewest) (c__law_bits : CallG P w K mg base (cvOf mg) k "_law_bits" sp__law_bits) : FnOk P w K mg base (L2.CX P w) (k + 1) f fd ["script"] (SpM K (cvOf mg) spLaw) := by
  refine def_ok F fs_law fo_law nb ?_ w_law
  simp only [b_law_1, b_law_2, b_law_3, b_law_4, b_law_5, b_law_6, b_law, B.calls, S.calls, E.calls, A.calls, I.calls, Needs, needAll, needFns, c__law_many, c__law_row, c_turns_between, c__law_numbers, c_put_together, c_first_apart, c_fewest_deeds, c__law_cell_at, c__law_joined, c_runs_told, c_is_right, c_done_all, c__law_fewest, c__law_bits, and_self, and_true, true_and]
end T
open PySem PySem.W PyProof.Rows
set_option maxRecDepth 100000 in
set_option maxHeartbeats 0 in
theorem PySem.Challenge.cw_turnrows_k49_whole_two_rows_holds : PySem.Challenge.rw_turnrows_k49_whole_two_rows.Holds := by
  w_on; o_law; k_head; (case hw => w_witness2)
  k_fill
  refine T.law_walk (l := PySem.Challenge.rw_turnrows_k49_whole_two_rows) (k := 50) (st := T.st_law) rfl rfl rfl ⟨rfl, by decide, by decide⟩ (fun w h Y => PySem.W.kIn_of Y) (fun _ _ _ _ _ _ _ => rfl) ?F
  case F =>
    intro w mg h KX G
    have A_sums_turned : T.FnX KX mg "sums_turned" T.st_sums_turned := by
      refine' T.fn_at KX G ?a ?l ?c ?k
      (case a => k_is); (case l => k_is); (case c => k_is); (case k => k_is)
    have A_end_on : T.FnX KX mg "end_on" T.st_end_on := by
      refine' T.fn_at KX G ?a ?l ?c ?k
      (case a => k_is); (case l => k_is); (case c => k_is); (case k => k_is)
    have A_need_alike : T.FnX KX mg "need_alike" T.st_need_alike := by
      refine' T.fn_at KX G ?a ?l ?c ?k
      (case a => k_is); (case l => k_is); (case c => k_is); (case k => k_is)
    have A_behind_all : T.FnX KX mg "behind_all" T.st_behind_all := by
      refine' T.fn_at KX G ?a ?l ?c ?k
      (case a => k_is); (case l => k_is); (case c => k_is); (case k => k_is)
    have A_need_stretch : T.FnX KX mg "need_stretch" T.st_need_stretch := by
      refine' T.fn_at KX G ?a ?l ?c ?k
      (case a => k_is); (case l => k_is); (case c => k_is); (case k => k_is)
    have A__law_cell_at : T.FnX KX mg "_law_cell_at" T.st__law_cell_at := by
      refine' T.fn_at KX G ?a ?l ?c ?k
      (case a => k_is); (case l => k_is); (case c => k_is); (case k => k_is)
    have A__law_numbers : T.FnX KX mg "_law_numbers" T.st__law_numbers := by
      refine' T.fn_at KX G ?a ?l ?c ?k
      (case a => k_is); (case l => k_is); (case c => k_is); (case k => k_is)
    have A__law_many : T.FnX KX mg "_law_many" T.st__law_many := by
      refine' T.fn_at KX G ?a ?l ?c ?k
      (case a => k_is); (case l => k_is); (case c => k_is); (case k => k_is)
    have A__law_place : T.FnX KX mg "_law_place" T.st__law_place := by
      refine' T.fn_at KX G ?a ?l ?c ?k
      (case a => k_is); (case l => k_is); (case c => k_is); (case k => k_is)
    have A__law_done : T.FnX KX mg "_law_done" T.st__law_done := by
      refine' T.fn_at KX G ?a ?l ?c ?k
      (case a => k_is); (case l => k_is); (case c => k_is); (case k => k_is)
    have A__law_truth : T.FnX KX mg "_law_truth" T.st__law_truth := by
      refine' T.fn_at KX G ?a ?l ?c ?k
      (case a => k_is); (case l => k_is); (case c => k_is); (case k => k_is)
    have A__law_fewest : T.FnX KX mg "_law_fewest" T.st__law_fewest := by
      refine' T.fn_at KX G ?a ?l ?c ?k
      (case a => k_is); (case l => k_is); (case c => k_is); (case k => k_is)
    have A_size_for : T.FnX KX mg "size_for" T.st_size_for := by
      refine' T.fn_at KX G ?a ?l ?c ?k
      (case a => k_is); (case l => k_is); (case c => k_is); (case k => k_is)
    have A_all_off : T.FnX KX mg "all_off" T.st_all_off := by
      refine' T.fn_at KX G ?a ?l ?c ?k
      (case a => k_is); (case l => k_is); (case c => k_is); (case k => k_is)
    have A_sums_of : T.FnX KX mg "sums_of" T.st_sums_of := by
      refine' T.fn_at KX G ?a ?l ?c ?k
      (case a => k_is); (case l => k_is); (case c => k_is); (case k => k_is)
    have A_turned : T.FnX KX mg "turned" T.st_turned := by
      refine' T.fn_at KX G ?a ?l ?c ?k
      (case a => k_is); (case l => k_is); (case c => k_is); (case k => k_is)
    have A_first_on : T.FnX KX mg "first_on" T.st_first_on := by
      refine' T.fn_at KX G ?a ?l ?c ?k
      (case a => k_is); (case l => k_is); (case c => k_is); (case k => k_is)
    have A_last_on : T.FnX KX mg "last_on" T.st_last_on := by
      refine' T.fn_at KX G ?a ?l ?c ?k
      (case a => k_is); (case l => k_is); (case c => k_is); (case k => k_is)
    have A_need_deed : T.FnX KX mg "need_deed" T.st_need_deed := by
      refine' T.fn_at KX G ?a ?l ?c ?k
      (case a => k_is); (case l => k_is); (case c => k_is); (case k => k_is)
    have A__law_stretch : T.FnX KX mg "_law_stretch" T.st__law_stretch := by
      refine' T.fn_at KX G ?a ?l ?c ?k
      (case a => k_is); (case l => k_is); (case c => k_is); (case k => k_is)
    have A__law_joined : T.FnX KX mg "_law_joined" T.st__law_joined := by
      refine' T.fn_at KX G ?a ?l ?c ?k
      (case a => k_is); (case l => k_is); (case c => k_is); (case k => k_is)
    have A__law_bits : T.FnX KX mg "_law_bits" T.st__law_bits := by
      refine' T.fn_at KX G ?a ?l ?c ?k
      (case a => k_is); (case l => k_is); (case c => k_is); (case k => k_is)
    have A_sums_put : T.FnX KX mg "sums_put" T.st_sums_put := by
      refine' T.fn_at KX G ?a ?l ?c ?k
      (case a => k_is); (case l => k_is); (case c => k_is); (case k => k_is)
    have A_opened : T.FnX KX mg "opened" T.st_opened := by
      refine' T.fn_at KX G ?a ?l ?c ?k
      (case a => k_is); (case l => k_is); (case c => k_is); (case k => k_is)
    have A_with_all : T.FnX KX mg "with_all" T.st_with_all := by
      refine' T.fn_at KX G ?a ?l ?c ?k
      (case a => k_is); (case l => k_is); (case c => k_is); (case k => k_is)
    have A__law_deed : T.FnX KX mg "_law_deed" T.st__law_deed := by
      refine' T.fn_at KX G ?a ?l ?c ?k
      (case a => k_is); (case l => k_is); (case c => k_is); (case k => k_is)
    have A_half_of : T.FnX KX mg "half_of" T.st_half_of := by
      refine' T.fn_at KX G ?a ?l ?c ?k
      (case a => k_is); (case l => k_is); (case c => k_is); (case k => k_is)
    have A_stretches_in : T.FnX KX mg "stretches_in" T.st_stretches_in := by
      refine' T.fn_at KX G ?a ?l ?c ?k
      (case a => k_is); (case l => k_is); (case c => k_is); (case k => k_is)
    have A_runs_told : T.FnX KX mg "runs_told" T.st_runs_told := by
      refine' T.fn_at KX G ?a ?l ?c ?k
      (case a => k_is); (case l => k_is); (case c => k_is); (case k => k_is)
    have A_bits_of : T.FnX KX mg "bits_of" T.st_bits_of := by
      refine' T.fn_at KX G ?a ?l ?c ?k
      (case a => k_is); (case l => k_is); (case c => k_is); (case k => k_is)
    have A_is_right_tree : T.FnX KX mg "is_right_tree" T.st_is_right_tree := by
      refine' T.fn_at KX G ?a ?l ?c ?k
      (case a => k_is); (case l => k_is); (case c => k_is); (case k => k_is)
    have A_fewest_deeds : T.FnX KX mg "fewest_deeds" T.st_fewest_deeds := by
      refine' T.fn_at KX G ?a ?l ?c ?k
      (case a => k_is); (case l => k_is); (case c => k_is); (case k => k_is)
    have A_is_right : T.FnX KX mg "is_right" T.st_is_right := by
      refine' T.fn_at KX G ?a ?l ?c ?k
      (case a => k_is); (case l => k_is); (case c => k_is); (case k => k_is)
    have A_put_on : T.FnX KX mg "put_on" T.st_put_on := by
      refine' T.fn_at KX G ?a ?l ?c ?k
      (case a => k_is); (case l => k_is); (case c => k_is); (case k => k_is)
    have A_trees_together : T.FnX KX mg "trees_together" T.st_trees_together := by
      refine' T.fn_at KX G ?a ?l ?c ?k
      (case a => k_is); (case l => k_is); (case c => k_is); (case k => k_is)
    have A_put_together : T.FnX KX mg "put_together" T.st_put_together := by
      refine' T.fn_at KX G ?a ?l ?c ?k
      (case a => k_is); (case l => k_is); (case c => k_is); (case k => k_is)
    have A_done : T.FnX KX mg "done" T.st_done := by
      refine' T.fn_at KX G ?a ?l ?c ?k
      (case a => k_is); (case l => k_is); (case c => k_is); (case k => k_is)
    have A_done_all : T.FnX KX mg "done_all" T.st_done_all := by
      refine' T.fn_at KX G ?a ?l ?c ?k
      (case a => k_is); (case l => k_is); (case c => k_is); (case k => k_is)
    have A_turns_between : T.FnX KX mg "turns_between" T.st_turns_between := by
      refine' T.fn_at KX G ?a ?l ?c ?k
      (case a => k_is); (case l => k_is); (case c => k_is); (case k => k_is)
    have A__law_row : T.FnX KX mg "_law_row" T.st__law_row := by
      refine' T.fn_at KX G ?a ?l ?c ?k
      (case a => k_is); (case l => k_is); (case c => k_is); (case k => k_is)
    have A_first_apart : T.FnX KX mg "first_apart" T.st_first_apart := by
      refine' T.fn_at KX G ?a ?l ?c ?k
      (case a => k_is); (case l => k_is); (case c => k_is); (case k => k_is)
    have R_NoRow : T.RaX KX mg "NoRow" := by
      refine' T.rais_at KX G ?a ?k ?e ?s ?t
      (case a => k_is); (case k => k_is); (case e => k_exc); (case s => k_is); (case t => k_is)
    have R_NoStretch : T.RaX KX mg "NoStretch" := by
      refine' T.rais_at KX G ?a ?k ?e ?s ?t
      (case a => k_is); (case k => k_is); (case e => k_exc); (case s => k_is); (case t => k_is)
    have R_NoNumber : T.RaX KX mg "NoNumber" := by
      refine' T.rais_at KX G ?a ?k ?e ?s ?t
      (case a => k_is); (case k => k_is); (case e => k_exc); (case s => k_is); (case t => k_is)
    have Z_MOST_SWITCHES : T.CoX KX mg "MOST_SWITCHES" T.g_MOST_SWITCHES := by
      refine' T.con_int KX G ?a
      (case a => k_is)
    have Z_MOST_LITTLE : T.CoX KX mg "MOST_LITTLE" T.g_MOST_LITTLE := by
      refine' T.con_int KX G ?a
      (case a => k_is)
    have NB : T.NoB mg := by
      refine' T.nob_of KX G ?z0 ?z1 ?z2 ?z3 ?z4 ?z5 ?z6 ?z7 ?z8 ?z9 ?z10 ?z11 ?z12 ?z13 ?z14 ?z15
      all_goals k_is
    have A_law : T.FnX KX mg "law" T.st_law := by
      refine' T.fn_at KX G ?a ?l ?c ?k
      (case a => k_is); (case l => k_is); (case c => k_is); (case k => k_is)
    obtain ⟨fa, fd, m, _, F⟩ := A_law
    refine ⟨fa, fd, m, F, fun base _ _ => ?_⟩
    have C_sums_turned := T.ok_sums_turned (P := PySem.W.OpenLaw.prog PySem.Challenge.rw_turnrows_k49_whole_two_rows) (w := w) (base := base) (k := 0) A_sums_turned NB
    have C_end_on := T.ok_end_on (P := PySem.W.OpenLaw.prog PySem.Challenge.rw_turnrows_k49_whole_two_rows) (w := w) (base := base) (k := 0) A_end_on NB
    have C_need_alike := T.ok_need_alike (P := PySem.W.OpenLaw.prog PySem.Challenge.rw_turnrows_k49_whole_two_rows) (w := w) (base := base) (k := 0) A_need_alike NB R_NoRow
    have C_behind_all := T.ok_behind_all (P := PySem.W.OpenLaw.prog PySem.Challenge.rw_turnrows_k49_whole_two_rows) (w := w) (base := base) (k := 0) A_behind_all NB
    have C_need_stretch := T.ok_need_stretch (P := PySem.W.OpenLaw.prog PySem.Challenge.rw_turnrows_k49_whole_two_rows) (w := w) (base := base) (k := 0) A_need_stretch NB R_NoStretch
    have C__law_cell_at := T.ok__law_cell_at (P := PySem.W.OpenLaw.prog PySem.Challenge.rw_turnrows_k49_whole_two_rows) (w := w) (base := base) (k := 0) A__law_cell_at NB
    have C__law_numbers := T.ok__law_numbers (P := PySem.W.OpenLaw.prog PySem.Challenge.rw_turnrows_k49_whole_two_rows) (w := w) (base := base) (k := 0) A__law_numbers NB
    have C__law_many := T.ok__law_many (P := PySem.W.OpenLaw.prog PySem.Challenge.rw_turnrows_k49_whole_two_rows) (w := w) (base := base) (k := 0) A__law_many NB
    have C__law_place := T.ok__law_place (P := PySem.W.OpenLaw.prog PySem.Challenge.rw_turnrows_k49_whole_two_rows) (w := w) (base := base) (k := 0) A__law_place NB
    have C__law_done := T.ok__law_done (P := PySem.W.OpenLaw.prog PySem.Challenge.rw_turnrows_k49_whole_two_rows) (w := w) (base := base) (k := 0) A__law_done NB
    have C__law_truth := T.ok__law_truth (P := PySem.W.OpenLaw.prog PySem.Challenge.rw_turnrows_k49_whole_two_rows) (w := w) (base := base) (k := 0) A__law_truth NB
    have C__law_fewest := T.ok__law_fewest (P := PySem.W.OpenLaw.prog PySem.Challenge.rw_turnrows_k49_whole_two_rows) (w := w) (base := base) (k := 0) A__law_fewest NB
    have C_size_for := T.ok_size_for (P := PySem.W.OpenLaw.prog PySem.Challenge.rw_turnrows_k49_whole_two_rows) (w := w) (base := base) (k := 0) A_size_for NB
    have C_all_off := T.ok_all_off (P := PySem.W.OpenLaw.prog PySem.Challenge.rw_turnrows_k49_whole_two_rows) (w := w) (base := base) (k := 0) A_all_off NB R_NoNumber Z_MOST_SWITCHES
    have C_sums_of := T.ok_sums_of (P := PySem.W.OpenLaw.prog PySem.Challenge.rw_turnrows_k49_whole_two_rows) (w := w) (base := base) (k := 0) A_sums_of NB
    have C_turned := T.ok_turned (P := PySem.W.OpenLaw.prog PySem.Challenge.rw_turnrows_k49_whole_two_rows) (w := w) (base := base) (k := 1) A_turned NB (C_sums_turned.mono (by decide))
    have C_first_on := T.ok_first_on (P := PySem.W.OpenLaw.prog PySem.Challenge.rw_turnrows_k49_whole_two_rows) (w := w) (base := base) (k := 1) A_first_on NB (C_end_on.mono (by decide))
    have C_last_on := T.ok_last_on (P := PySem.W.OpenLaw.prog PySem.Challenge.rw_turnrows_k49_whole_two_rows) (w := w) (base := base) (k := 1) A_last_on NB (C_end_on.mono (by decide))
    have C_need_deed := T.ok_need_deed (P := PySem.W.OpenLaw.prog PySem.Challenge.rw_turnrows_k49_whole_two_rows) (w := w) (base := base) (k := 1) A_need_deed NB (C_need_stretch.mono (by decide))
    have C__law_stretch := T.ok__law_stretch (P := PySem.W.OpenLaw.prog PySem.Challenge.rw_turnrows_k49_whole_two_rows) (w := w) (base := base) (k := 1) A__law_stretch NB (C__law_place.mono (by decide))
    have C__law_joined := T.ok__law_joined (P := PySem.W.OpenLaw.prog PySem.Challenge.rw_turnrows_k49_whole_two_rows) (w := w) (base := base) (k := 1) A__law_joined NB (C__law_truth.mono (by decide))
    have C__law_bits := T.ok__law_bits (P := PySem.W.OpenLaw.prog PySem.Challenge.rw_turnrows_k49_whole_two_rows) (w := w) (base := base) (k := 1) A__law_bits NB (C__law_truth.mono (by decide))
    have C_sums_put := T.ok_sums_put (P := PySem.W.OpenLaw.prog PySem.Challenge.rw_turnrows_k49_whole_two_rows) (w := w) (base := base) (k := 2) A_sums_put NB (C_sums_of.mono (by decide)) (C_last_on.mono (by decide)) (C_first_on.mono (by decide))
    have C_opened := T.ok_opened (P := PySem.W.OpenLaw.prog PySem.Challenge.rw_turnrows_k49_whole_two_rows) (w := w) (base := base) (k := 2) A_opened NB (C_turned.mono (by decide))
    have C_with_all := T.ok_with_all (P := PySem.W.OpenLaw.prog PySem.Challenge.rw_turnrows_k49_whole_two_rows) (w := w) (base := base) (k := 2) A_with_all NB (C_turned.mono (by decide))
    have C__law_deed := T.ok__law_deed (P := PySem.W.OpenLaw.prog PySem.Challenge.rw_turnrows_k49_whole_two_rows) (w := w) (base := base) (k := 2) A__law_deed NB (C__law_stretch.mono (by decide))
    have C_half_of := T.ok_half_of (P := PySem.W.OpenLaw.prog PySem.Challenge.rw_turnrows_k49_whole_two_rows) (w := w) (base := base) (k := 3) A_half_of NB (C_sums_put.mono (by decide))
    have C_stretches_in := T.ok_stretches_in (P := PySem.W.OpenLaw.prog PySem.Challenge.rw_turnrows_k49_whole_two_rows) (w := w) (base := base) (k := 0) A_stretches_in NB 42
    have C_runs_told := T.ok_runs_told (P := PySem.W.OpenLaw.prog PySem.Challenge.rw_turnrows_k49_whole_two_rows) (w := w) (base := base) (k := 42) A_runs_told NB (C_stretches_in.mono (by decide)) (C_size_for.mono (by decide))
    have C_bits_of := T.ok_bits_of (P := PySem.W.OpenLaw.prog PySem.Challenge.rw_turnrows_k49_whole_two_rows) (w := w) (base := base) (k := 43) A_bits_of NB (C_runs_told.mono (by decide))
    have C_is_right_tree := T.ok_is_right_tree (P := PySem.W.OpenLaw.prog PySem.Challenge.rw_turnrows_k49_whole_two_rows) (w := w) (base := base) (k := 3) A_is_right_tree NB (C_sums_put.mono (by decide)) (C_sums_turned.mono (by decide)) 42
    have C_fewest_deeds := T.ok_fewest_deeds (P := PySem.W.OpenLaw.prog PySem.Challenge.rw_turnrows_k49_whole_two_rows) (w := w) (base := base) (k := 44) A_fewest_deeds NB R_NoNumber (C_need_alike.mono (by decide)) (C_bits_of.mono (by decide)) (C_behind_all.mono (by decide)) Z_MOST_LITTLE
    have C_is_right := T.ok_is_right (P := PySem.W.OpenLaw.prog PySem.Challenge.rw_turnrows_k49_whole_two_rows) (w := w) (base := base) (k := 45) A_is_right NB (C_is_right_tree.mono (by decide)) (C_size_for.mono (by decide)) Z_MOST_SWITCHES
    have C_put_on := T.ok_put_on (P := PySem.W.OpenLaw.prog PySem.Challenge.rw_turnrows_k49_whole_two_rows) (w := w) (base := base) (k := 4) A_put_on NB (C_opened.mono (by decide)) (C_half_of.mono (by decide)) (C_turned.mono (by decide)) 42
    have C_trees_together := T.ok_trees_together (P := PySem.W.OpenLaw.prog PySem.Challenge.rw_turnrows_k49_whole_two_rows) (w := w) (base := base) (k := 4) A_trees_together NB (C_opened.mono (by decide)) (C_half_of.mono (by decide)) (C_with_all.mono (by decide)) 42
    have C_put_together := T.ok_put_together (P := PySem.W.OpenLaw.prog PySem.Challenge.rw_turnrows_k49_whole_two_rows) (w := w) (base := base) (k := 46) A_put_together NB (C_need_alike.mono (by decide)) (C_trees_together.mono (by decide)) (C_size_for.mono (by decide))
    have C_done := T.ok_done (P := PySem.W.OpenLaw.prog PySem.Challenge.rw_turnrows_k49_whole_two_rows) (w := w) (base := base) (k := 46) A_done NB (C_need_deed.mono (by decide)) (C_put_on.mono (by decide)) (C_size_for.mono (by decide))
    have C_done_all := T.ok_done_all (P := PySem.W.OpenLaw.prog PySem.Challenge.rw_turnrows_k49_whole_two_rows) (w := w) (base := base) (k := 46) A_done_all NB (C_size_for.mono (by decide)) (C_need_deed.mono (by decide)) (C_put_on.mono (by decide))
    have C_turns_between := T.ok_turns_between (P := PySem.W.OpenLaw.prog PySem.Challenge.rw_turnrows_k49_whole_two_rows) (w := w) (base := base) (k := 47) A_turns_between NB (C_runs_told.mono (by decide)) (C_put_together.mono (by decide))
    have C__law_row := T.ok__law_row (P := PySem.W.OpenLaw.prog PySem.Challenge.rw_turnrows_k49_whole_two_rows) (w := w) (base := base) (k := 47) A__law_row NB (C_all_off.mono (by decide)) (C__law_deed.mono (by decide)) (C_done.mono (by decide)) (C__law_done.mono (by decide)) (C__law_numbers.mono (by decide))
    have C_first_apart := T.ok_first_apart (P := PySem.W.OpenLaw.prog PySem.Challenge.rw_turnrows_k49_whole_two_rows) (w := w) (base := base) (k := 48) A_first_apart NB (C_turns_between.mono (by decide))
    exact T.ok_law (k := 49) F NB (C__law_many.mono (by decide)) (C__law_row.mono (by decide)) (C_turns_between.mono (by decide)) (C__law_numbers.mono (by decide)) (C_put_together.mono (by decide)) (C_first_apart.mono (by decide)) (C_fewest_deeds.mono (by decide)) (C__law_cell_at.mono (by decide)) (C__law_joined.mono (by decide)) (C_runs_told.mono (by decide)) (C_is_right.mono (by decide)) (C_done_all.mono (by decide)) (C__law_fewest.mono (by decide)) (C__law_bits.mono (by decide))
