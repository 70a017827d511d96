import PyProof.Rows.All
import Wide.All
import Open.Line
import Wide.FinOn
import PyProof.Cells
import PyProof.CompFree
import PyProof.StationsW
import PyProof.PureInt
import PyProof.EqKinds
import PyProof.TupleIter
import PyProof.TupleOps
import PyProof.WalksMore
import PyProof.NoPylong
import PyProof.ForAny
import PyProof.EvalArms
import PyProof.ListMulRoad
import PyProof.Rows.Range3
import OpenK.KCall
import PyProof.ExcClass2
import PyProof.Rows.Catch
import PyProof.RulesAs
import PyProof.Rows.Own
import PyProof.ExcBaseAll.ValueError
import OpenK.KWalk
import PySem.Challenge.RW_uf030008_04
set_option Elab.async false
set_option maxRecDepth 100000
set_option linter.unusedVariables false

noncomputable section
/-! ## M1 -/
namespace Mine
open PySem

/-- plain data; a list is its address -/
inductive D where
  | none
  | bool (b : Bool)
  | int (i : Int)
  | str (s : Str)
  | tup (ds : List D)
  | lst (a : Addr)
  | exc (a : Addr) (e : Str) (C : Addr)

mutual
inductive Rep (h : Heap) : Value → D → Prop
  | none : Rep h .none .none
  | bool (b : Bool) : Rep h (.bool b) (.bool b)
  | int (i : Int) (t : Tok) : Rep h (.int i t) (.int i)
  | str (s : Str) (t : Tok) : Rep h (.str s t) (.str s)
  | tup {a : Addr} {n : Nat} {vs : List Value} {ds : List D} : IsT h a vs.toArray n → Reps h vs ds → Rep h (.ref a) (.tup ds)
  | lst (a : Addr) : Rep h (.ref a) (.lst a)
  | exc {a : Addr} {e : Str} {C : Addr} {o : Obj} {vs : Array Value} : h.get? a = some o → o.cls = .ref C → o.data = .fields vs → Rep h (.ref a) (.exc a e C)
inductive Reps (h : Heap) : List Value → List D → Prop
  | nil : Reps h [] []
  | cons {v : Value} {vs : List Value} {d : D} {ds : List D} : Rep h v d → Reps h vs ds → Reps h (v :: vs) (d :: ds)
end

/-- what never changes: tuples and records (iterators, slices) -/
def stable (o : Obj) : Prop := (∃ xs n, o.cls = .type "tuple" ∧ o.data = .seq xs n) ∨ ∃ vs, o.data = .fields vs

def Grow (h h' : Heap) : Prop := ∀ b o, h.get? b = some o → stable o → h'.get? b = some o
theorem Grow.refl (h : Heap) : Grow h h := fun _ _ e _ => e
theorem Grow.trans {h₁ h₂ h₃ : Heap} (x : Grow h₁ h₂) (y : Grow h₂ h₃) : Grow h₁ h₃ := fun b o e q => y b o (x b o e q) q

theorem isT_grow {h h' : Heap} (g : Grow h h') {a : Addr} {xs : Array Value} {n : Nat} (x : IsT h a xs n) : IsT h' a xs n := g a _ x (.inl ⟨_, _, rfl, rfl⟩)
theorem IsT.tuple {h : Heap} {a : Addr} {xs : Array Value} {n : Nat} (x : IsT h a xs n) : h.IsTuple a xs := ⟨_, x, rfl, n, rfl⟩

mutual
theorem Rep.grow {h h' : Heap} (g : Grow h h') : ∀ {v : Value} {d : D}, Rep h v d → Rep h' v d
  | _, _, .none => .none
  | _, _, .bool b => .bool b
  | _, _, .int i t => .int i t
  | _, _, .str s t => .str s t
  | _, _, .tup x y => .tup (isT_grow g x) (Reps.grow g y)
  | _, _, .lst a => .lst a
  | _, _, .exc x y z => .exc (g _ _ x (.inr ⟨_, z⟩)) y z
theorem Reps.grow {h h' : Heap} (g : Grow h h') : ∀ {vs : List Value} {ds : List D}, Reps h vs ds → Reps h' vs ds
  | _, _, .nil => .nil
  | _, _, .cons x y => .cons (Rep.grow g x) (Reps.grow g y)
end

theorem Reps.length {h : Heap} : ∀ {vs : List Value} {ds : List D}, Reps h vs ds → vs.length = ds.length
  | _, _, .nil => rfl
  | _, _, .cons _ y => by rw [List.length_cons, List.length_cons, Reps.length y]
theorem Reps.append {h : Heap} : ∀ {vs ws : List Value} {ds es : List D}, Reps h vs ds → Reps h ws es → Reps h (vs ++ ws) (ds ++ es)
  | _, _, _, _, .nil, k => k
  | _, _, _, _, .cons x y, k => .cons x (Reps.append y k)
theorem Reps.get {h : Heap} : ∀ {vs : List Value} {ds : List D} {i : Nat} {d : D}, Reps h vs ds → ds[i]? = some d → ∃ v, vs[i]? = some v ∧ Rep h v d
  | _, _, i, d, .nil, e => by simp at e
  | _, _, 0, d, .cons x y, e => by simp at e; subst e; exact ⟨_, rfl, x⟩
  | _, _, i + 1, d, .cons x y, e => by simp at e; obtain ⟨v, h1, h2⟩ := Reps.get y e; exact ⟨v, by simpa using h1, h2⟩
theorem Reps.set {h : Heap} {v : Value} {d : D} (r : Rep h v d) : ∀ {vs : List Value} {ds : List D} {i : Nat}, Reps h vs ds → Reps h (vs.set i v) (ds.set i d)
  | _, _, i, .nil => by simpa using Reps.nil
  | _, _, 0, .cons x y => .cons r y
  | _, _, i + 1, .cons x y => .cons x (Reps.set r y)
theorem Reps.drop {h : Heap} : ∀ {vs : List Value} {ds : List D} (i : Nat), Reps h vs ds → Reps h (vs.drop i) (ds.drop i)
  | _, _, 0, x => x
  | _, _, i + 1, .nil => .nil
  | _, _, i + 1, .cons x y => Reps.drop i y
theorem Reps.take {h : Heap} : ∀ {vs : List Value} {ds : List D} (i : Nat), Reps h vs ds → Reps h (vs.take i) (ds.take i)
  | _, _, 0, x => by simpa using Reps.nil
  | _, _, i + 1, .nil => .nil
  | _, _, i + 1, .cons x y => .cons x (Reps.take i y)
def noDict (o : Obj) : Prop := ∀ es n, o.data ≠ .dict es n
/-- every object stays, frames up to their slots -/
def Kept (fs : List Addr) (h h' : Heap) : Prop := ∀ b o, h.get? b = some o → ∃ sl, h'.get? b = some { o with slots := sl } ∧ (b ∉ fs ∨ noDict o → sl = o.slots)
theorem Kept.refl (fs : List Addr) (h : Heap) : Kept fs h h := fun b o e => ⟨o.slots, e, fun _ => rfl⟩
theorem Kept.of_keeps {fs : List Addr} {h h' : Heap} (k : ∀ b o, h.get? b = some o → h'.get? b = some o) : Kept fs h h' := fun b o e => ⟨o.slots, k b o e, fun _ => rfl⟩
theorem Kept.trans {fs : List Addr} {h₁ h₂ h₃ : Heap} (x : Kept fs h₁ h₂) (y : Kept fs h₂ h₃) : Kept fs h₁ h₃ := fun b o e => by
  obtain ⟨s1, e1, q1⟩ := x b o e
  obtain ⟨s2, e2, q2⟩ := y b _ e1
  exact ⟨s2, e2, fun n => (q2 n).trans (q1 n)⟩
theorem Kept.exact {fs : List Addr} {h h' : Heap} (x : Kept fs h h') {b : Addr} {o : Obj} (e : h.get? b = some o) (n : b ∉ fs ∨ noDict o) : h'.get? b = some o := by
  obtain ⟨sl, e1, q⟩ := x b o e
  rw [e1, q n]
theorem Kept.grow {fs : List Addr} {h h' : Heap} (x : Kept fs h h') : Grow h h' := fun b o e st => x.exact e (.inr fun es n q => by
  rcases st with ⟨xs, m, _, st⟩ | ⟨vs, st⟩ <;> (rw [q] at st; cases st))
/-- kept, where a new object alone was touched -/
theorem Kept.but {fs : List Addr} {h h₁ h₂ : Heap} {a : Addr} (x : Kept fs h h₁) (na : h.get? a = none) (y : ∀ b o, b ≠ a → h₁.get? b = some o → h₂.get? b = some o) : Kept fs h h₂ := fun b o e => by
  obtain ⟨sl, e1, q⟩ := x b o e
  exact ⟨sl, y b _ (fun z => by rw [z, na] at e; cases e) e1, q⟩

theorem Ns.kept {fs : List Addr} {h h' : Heap} (x : Kept fs h h') {a : Addr} {m : Str → Option Value} (n : h.Ns a m) : h'.Ns a m := by
  obtain ⟨o, es, ep, ho, hd, r⟩ := n
  obtain ⟨sl, e, _⟩ := x a o ho
  exact ⟨_, es, ep, e, hd, r⟩
theorem Ns.unique {h : Heap} {a : Addr} {m m' : Str → Option Value} (x : h.Ns a m) (y : h.Ns a m') : m = m' := by
  obtain ⟨o, es, ep, ho, hd, _, r⟩ := x
  obtain ⟨o', es', ep', ho', hd', _, r'⟩ := y
  rw [ho] at ho'; cases ho'
  rw [hd] at hd'; cases hd'
  funext n
  rw [← r, ← r']

end Mine

/-! ## M2 -/
namespace Mine
open PySem

inductive Cell where
  | list (own : Bool) (ds : List D)
  | dict (ps : List (Int × D))
abbrev Sto := Addr → Option Cell
structure St where
  loc : Nat → Option D
  sto : Sto
def St.set (σ : St) (i : Nat) (d : D) : St := { σ with loc := fun j => if j = i then some d else σ.loc j }
def St.del (σ : St) (i : Nat) : St := { σ with loc := fun j => if j = i then none else σ.loc j }
def Sto.put (σ : Sto) (a : Addr) (k : Cell) : Sto := fun b => if b = a then some k else σ b
def St.put (σ : St) (a : Addr) (k : Cell) : St := { σ with sto := Sto.put σ.sto a k }
def Cell.ro : Cell → Cell
  | .list _ ds => .list false ds
  | .dict ps => .dict ps
def Sto.ro (σ : Sto) : Sto := fun a => (σ a).map Cell.ro
def St.ro (σ : St) : St := { σ with sto := Sto.ro σ.sto }

inductive Blt where
  | len | abs | max | min | int | list | tuple | sum
inductive Ty where
  | int | bool | tuple | list | valueError
  | own (c : Str)

/-- kinds of iterables: a thing, a range, a zip -/
inductive ItK where
  | plain | range | zip

set_option genSizeOf false
set_option genInjectivity false
/-- expressions -/
inductive E where
  | cnone
  | cbool (b : Bool)
  | cint (i : Int)
  | cstr (s : Str)
  | var (i : Nat)
  | glob (x : Str)
  | bin (op : Operator) (a b : E)
  | neg (a : E)
  | not (a : E)
  | cmp (op : CmpOp) (a b : E)
  | bool (op : BoolOp) (es : List E)
  | call (f : Str) (es : List E)
  | blt (f : Blt) (es : List E)
  | isa (a : E) (ty : Ty)
  | idx (a i : E)
  | slice (a : E) (lo hi : Option E)
  | tup (es : List E)
  | lst (es : List E)
  | comp (elt : E) (xs : List (Nat × Str)) (k : ItK) (es : List E)
  | append (o a : E)

inductive S where
  | expr (e : E)
  | assign (x : Nat) (e : E)
  | unpack (xs : List Nat) (e : E)
  | swap (xs : List Nat) (es : List E)
  | setitem (o i e : E)
  | ifs (t : E) (a b : List S)
  | whiles (t : E) (b : List S)
  | fors (xs : List Nat) (one : Bool) (k : ItK) (es : List E) (b : List S)
  | ret (e : E)
  | raise (c : Str) (msg : Str)
  | tryx (b : List S) (c : Str) (x : Option Nat) (h : List S)
  | pass
  | any

/-- flows -/
inductive Fl where
  | next | brk | cont
  | ret (d : D)

structure Cx where
  prog : Program
  w : World
  B : Heap
  mg : Str → Option Value
  /-- the top's constants -/
  cs : Str → Option D
  /-- the text's own exception classes, and which of them stand below which -/
  cls : Str → Option Addr
  sub : Str → Str → Bool
  /-- isinstance may be asked of them -/
  ie : Bool

def FramesOK (B h : Heap) (l : List Env) : Prop := ∀ env ∈ l, env.scope.kind = .function ∧ ∃ L m, env.frame = some L ∧ B.get? L = none ∧ h.Ns L m
def fsOf (l : List Env) : List Addr := l.filterMap (·.frame)

def CellOK (h hE : Heap) (a : Addr) : Cell → Prop
  | .list own ds => ∃ vs : List Value, h.IsList a vs.toArray ∧ (own = true → h.PlainList a vs.toArray ∧ hE.get? a = none) ∧ Reps h vs ds
  | .dict ps => False

def SameSh (s s' : Shared) : Prop := ∃ h t, s' = { s with heap := h, toks := t }
theorem SameSh.refl (s : Shared) : SameSh s s := ⟨s.heap, s.toks, rfl⟩
theorem SameSh.trans {s s' s'' : Shared} (x : SameSh s s') (y : SameSh s' s'') : SameSh s s'' := by
  obtain ⟨h, t, rfl⟩ := x
  obtain ⟨h', t', rfl⟩ := y
  exact ⟨h', t', rfl⟩

def IsFn (c : Cx) (f : Str) : Prop := ∃ a o fd, c.mg f = some (.ref a) ∧ c.B.get? a = some o ∧ o.data = .func fd
/-- how a call may end -/
def CallEnd (c : Cx) (l : List Env) (sto : Sto) (Q : D → Sto → Prop) (X : Str → Prop) (s : Shared) (r : Result) (s' : Shared) : Prop :=
  SameSh s s' ∧ c.B.StaysIn s'.heap ∧ Kept (fsOf l) s.heap s'.heap ∧ match r with
    | .ok (.ret v) => ∃ d sto', Rep s'.heap v d ∧ (∀ b k, sto' b = some k → sto b = some k ∨ (s.heap.get? b = none ∧ CellOK s'.heap s.heap b k)) ∧ Q d sto'
    | .ok _ => False
    | .error e => ∃ ea nm C t, e = .ref ea ∧ c.cls nm = some C ∧ X nm ∧ ∃ B', (∀ b o, s.heap.get? b = some o → b ∉ fsOf l → B'.get? b = some o) ∧ Heap.FlyingW B' l ea (.ref C) t s'.heap
def CallAt (c : Cx) (n : Nat) (a : Addr) (ds : List D) (sto : Sto) (Q : D → Sto → Prop) (X : Str → Prop) : Prop :=
  ∀ (A : Around) (l : List Env) (s : Shared) (vs : List Value), A.frames = some l → A.handled = none → A.depth + n < 800 → A.units + 4 * n < 9000 →
    c.B.StaysIn s.heap → FramesOK c.B s.heap l → Reps s.heap vs ds → (∀ b k, sto b = some k → ∃ hE, CellOK s.heap hE b k) →
    codeAny (model c.prog c.w) A (.call (.ref a) ⟨vs, []⟩) (CallEnd c l sto Q X s) s
/-- what a call must meet, at every state: the callee turns nothing that stands -/
def CallOK (c : Cx) (n : Nat) (f : Str) (ds : List D) (sto : Sto) (Q : D → Sto → Prop) (X : Str → Prop) : Prop :=
  ∃ a o fd, c.mg f = some (.ref a) ∧ c.B.get? a = some o ∧ o.data = .func fd ∧ CallAt c n a ds sto Q X

/-! the operations on data -/
def lim : Nat := 1000000

def repL {α : Type} (n : Int) (l : List α) : List α := (List.replicate n.toNat l).flatten

def intII (x y : D) (K : Int → Int → Prop) : Prop := match x with
  | .int a => (match y with | .int b => K a b | _ => False)
  | _ => False
def opAdd (x y : D) (Q : D → St → Prop) (σ : St) : Prop := match x with
  | .int a => (match y with | .int b => Q (.int (a + b)) σ | _ => False)
  | .tup a => (match y with | .tup b => a.length ≤ lim ∧ b.length ≤ lim ∧ Q (.tup (a ++ b)) σ | _ => False)
  | .lst a => (match y with
    | .lst b => ∃ o₁ xs o₂ ys, σ.sto a = some (.list o₁ xs) ∧ σ.sto b = some (.list o₂ ys) ∧ xs.length ≤ lim ∧ ys.length ≤ lim ∧ ∀ l, σ.sto l = none → Q (.lst l) (σ.put l (.list true (xs ++ ys)))
    | _ => False)
  | _ => False
def opMul (x y : D) (Q : D → St → Prop) (σ : St) : Prop := match x with
  | .int a => (match y with | .int b => IntMulOk a b ∧ Q (.int (a * b)) σ | _ => False)
  | .tup a => (match y with | .int n => 1 ≤ a.length ∧ a.length ≤ 100 ∧ 0 ≤ n ∧ n ≤ 10000 ∧ Q (.tup (repL n a)) σ | _ => False)
  | .lst a => (match y with
    | .int n => ∃ xs, σ.sto a = some (.list true xs) ∧ xs.length ≤ 100 ∧ -10000 ≤ n ∧ n ≤ 10000 ∧ ∀ l, σ.sto l = none → Q (.lst l) (σ.put l (.list true (repL n xs)))
    | _ => False)
  | _ => False
def opBin (op : Operator) (x y : D) (Q : D → St → Prop) (σ : St) : Prop := match op with
  | .Add => opAdd x y Q σ
  | .Sub => intII x y fun a b => Q (.int (a - b)) σ
  | .Mult => opMul x y Q σ
  | .FloorDiv => intII x y fun a b => b ≠ 0 ∧ Q (.int (a.fdiv b)) σ
  | .Mod => intII x y fun a b => b ≠ 0 ∧ Q (.int (a.fmod b)) σ
  | .Pow => intII x y fun a b => 0 ≤ b ∧ b ≤ 1000 ∧ a.natAbs < 2 ^ 64 ∧ Q (.int (a ^ b.toNat)) σ
  | _ => False

def opNeg (x : D) (Q : D → St → Prop) (σ : St) : Prop := match x with
  | .int i => Q (.int (-i)) σ
  | _ => False

/-- a datum's truth -/
def truth : D → Option Bool
  | .none => some false
  | .bool b => some b
  | .int i => some (i != 0)
  | _ => none
def wTruth (d : D) (Q : Bool → St → Prop) (σ : St) : Prop := ∃ b, truth d = some b ∧ Q b σ

def eqL (f : D → D → Option Bool) : List D → List D → Option Bool
  | [], bs => (match bs with | [] => some true | _ :: _ => some false)
  | a :: as, bs => (match bs with
    | [] => some false
    | b :: bs => (match f a b with
      | some x => (match eqL f as bs with | some y => some (x && y) | none => none)
      | none => none))
/-- == on data; lists are not told here -/
def eqK (fo : Option (D → D → Option Bool)) (x y : D) : Option Bool := match x with
  | .int a => (match y with | .int b => some (a == b) | _ => none)
  | .bool a => (match y with | .bool b => some (a == b) | _ => none)
  | .tup as => (match y with | .tup bs => (match fo with | some f => eqL f as bs | none => none) | _ => none)
  | _ => none
def eqD : Nat → D → D → Option Bool
  | 0 => eqK none
  | n + 1 => eqK (some (eqD n))

def lstOf (σ : Sto) (a : Addr) : Option (List D) := match σ a with
  | some k => (match k with | .list _ xs => some xs | .dict _ => none)
  | none => none
def eqTop (σ : Sto) (x y : D) : Option Bool := match x with
  | .lst a => (match y with
    | .lst b => (match lstOf σ a with
      | some xs => (match lstOf σ b with | some ys => eqL (eqD 50) xs ys | none => none)
      | none => none)
    | _ => eqD 50 x y)
  | _ => eqD 50 x y

def boolBB (x y : D) (K : Bool → Bool → Prop) : Prop := match x with
  | .bool a => (match y with | .bool b => K a b | _ => False)
  | _ => False
def opCmp (op : CmpOp) (x y : D) (Q : D → St → Prop) (σ : St) : Prop :=
  match op with
  | .Lt => intII x y fun a b => Q (.bool (decide (a < b))) σ
  | .LtE => intII x y fun a b => Q (.bool (decide (a ≤ b))) σ
  | .Gt => intII x y fun a b => Q (.bool (decide (a > b))) σ
  | .GtE => intII x y fun a b => Q (.bool (decide (a ≥ b))) σ
  | .Eq => ∃ b, eqTop σ.sto x y = some b ∧ Q (.bool b) σ
  | .NotEq => ∃ b, eqTop σ.sto x y = some b ∧ Q (.bool (!b)) σ
  | .Is => boolBB x y fun a b => Q (.bool (a == b)) σ
  | .IsNot => boolBB x y fun a b => Q (.bool (!(a == b))) σ
  | _ => False

def nth {α : Type} (l : List α) (i : Int) : Option α := if 0 ≤ i then l[i.toNat]? else if -(l.length : Int) ≤ i then l[(l.length + i).toNat]? else none

def opIdx (x y : D) (Q : D → St → Prop) (σ : St) : Prop := match y with
  | .int i => (match x with
    | .tup ds => ds.length ≤ lim ∧ ∃ d, nth ds i = some d ∧ Q d σ
    | .lst a => ∃ o ds, σ.sto a = some (.list o ds) ∧ ds.length ≤ lim ∧ ∃ d, nth ds i = some d ∧ Q d σ
    | _ => False)
  | _ => False

/-- Python's a[lo:hi] -/
def cutAt (n : Nat) (d : Nat) : Option Int → Nat
  | none => d
  | some i => if 0 ≤ i then min i.toNat n else (n + i).toNat
def cutL {α : Type} (l : List α) (lo hi : Option Int) : List α := (l.take (cutAt l.length l.length hi)).drop (cutAt l.length 0 lo)

def bound : D → Option (Option Int)
  | .none => some none
  | .int i => some (some i)
  | _ => none

def opSlice (x lo hi : D) (Q : D → St → Prop) (σ : St) : Prop :=
  ∃ l h, bound lo = some l ∧ bound hi = some h ∧ match x with
  | .tup ds => ds.length ≤ lim ∧ Q (.tup (cutL ds l h)) σ
  | .lst a => ∃ o ds, σ.sto a = some (.list o ds) ∧ ds.length ≤ lim ∧ ∀ b, σ.sto b = none → Q (.lst b) (σ.put b (.list true (cutL ds l h)))
  | _ => False

def opSet (x i d : D) (Q : St → Prop) (σ : St) : Prop := match x with
  | .lst a => (match i with
    | .int k => ∃ ds, σ.sto a = some (.list true ds) ∧ ds.length ≤ lim ∧ 0 ≤ k ∧ k < ds.length ∧ Q (σ.put a (.list true (ds.set k.toNat d)))
    | _ => False)
  | _ => False

def opAppend (x d : D) (Q : D → St → Prop) (σ : St) : Prop :=
  match x with
  | .lst a => ∃ ds, σ.sto a = some (.list true ds) ∧ ds.length ≤ lim ∧ Q .none (σ.put a (.list true (ds ++ [d])))
  | _ => False

def one1 (ds : List D) (K : D → Prop) : Prop := match ds with
  | [] => False
  | d :: r => (match r with | [] => K d | _ :: _ => False)
def two2 (ds : List D) (K : D → D → Prop) : Prop := match ds with
  | [] => False
  | d :: r => one1 r (K d)
def bLen (d : D) (Q : D → St → Prop) (σ : St) : Prop := match d with
  | .tup xs => xs.length ≤ lim ∧ Q (.int xs.length) σ
  | .lst a => ∃ o xs, σ.sto a = some (.list o xs) ∧ xs.length ≤ lim ∧ Q (.int xs.length) σ
  | _ => False
def bList (d : D) (Q : D → St → Prop) (σ : St) : Prop := match d with
  | .tup xs => xs.length ≤ lim ∧ ∀ l, σ.sto l = none → Q (.lst l) (σ.put l (.list true xs))
  | .lst a => ∃ o xs, σ.sto a = some (.list o xs) ∧ xs.length ≤ lim ∧ ∀ l, σ.sto l = none → Q (.lst l) (σ.put l (.list true xs))
  | _ => False
def bTuple (d : D) (Q : D → St → Prop) (σ : St) : Prop := match d with
  | .tup xs => Q (.tup xs) σ
  | .lst a => ∃ o xs, σ.sto a = some (.list o xs) ∧ xs.length ≤ lim ∧ Q (.tup xs) σ
  | _ => False
def bInt (d : D) (Q : D → St → Prop) (σ : St) : Prop := match d with
  | .bool b => Q (.int (if b then 1 else 0)) σ
  | _ => False
def bAbs (d : D) (Q : D → St → Prop) (σ : St) : Prop := match d with
  | .int i => Q (.int i.natAbs) σ
  | _ => False
def opBlt (f : Blt) (ds : List D) (Q : D → St → Prop) (σ : St) : Prop := match f with
  | .len => one1 ds fun d => bLen d Q σ
  | .abs => one1 ds fun d => bAbs d Q σ
  | .max => two2 ds fun x y => intII x y fun a b => Q (.int (max a b)) σ
  | .min => two2 ds fun x y => intII x y fun a b => Q (.int (min a b)) σ
  | .int => one1 ds fun d => bInt d Q σ
  | .list => one1 ds fun d => bList d Q σ
  | .tuple => one1 ds fun d => bTuple d Q σ
  | .sum => False

/-- is this a plain thing of that type? -/
def isaP (d : D) (t : Ty) : Bool := match t with
  | .int => (match d with | .int _ => true | .bool _ => true | _ => false)
  | .bool => (match d with | .bool _ => true | _ => false)
  | .tuple => (match d with | .tup _ => true | _ => false)
  | .list => (match d with | .lst _ => true | _ => false)
  | _ => false
def opIsaE (c : Cx) (e : Str) (C : Addr) (t : Ty) (Q : D → St → Prop) (σ : St) : Prop := match t with
  | .own k => c.ie = true ∧ c.cls e = some C ∧ (∃ Ck, c.cls k = some Ck) ∧ Q (.bool (c.sub e k)) σ
  | .valueError => c.ie = true ∧ c.cls e = some C ∧ Q (.bool true) σ
  | _ => False
def plainTy : Ty → Prop
  | .own _ => False
  | .valueError => False
  | _ => True
def opIsa (c : Cx) (d : D) (t : Ty) (Q : D → St → Prop) (σ : St) : Prop := match d with
  | .exc _ e C => opIsaE c e C t Q σ
  | .lst a => plainTy t ∧ ∃ k, σ.sto a = some k ∧ Q (.bool (isaP (.lst a) t)) σ
  | d => plainTy t ∧ Q (.bool (isaP d t)) σ

def rangeUp (a b : Int) : List D := (List.range (b - a).toNat).map fun (k : Nat) => D.int (a + k)
def rangeDn (a b : Int) : List D := (List.range (a - b).toNat).map fun (k : Nat) => D.int (a - k)
def int? : D → Option Int
  | .int i => some i
  | _ => none
def rangeD (ds : List D) : Option (List D) := match ds with
  | [] => none
  | a :: r => (match int? a with
    | none => none
    | some i => (match r with
      | [] => some (rangeUp 0 i)
      | b :: r => (match int? b with
        | none => none
        | some j => (match r with
          | [] => some (rangeUp i j)
          | d :: r => (match int? d with
            | none => none
            | some k => (match r with
              | [] => if k = -1 then some (rangeDn i j) else none
              | _ :: _ => none))))))
def smallI : D → Bool
  | .int i => decide (-1000000 ≤ i ∧ i ≤ 1000000)
  | _ => false

/-- the items that a thing hands out, and what must stand meanwhile -/
def itemsOf (d : D) (K : List D → (St → Prop) → St → Prop) (σ : St) : Prop :=
  match d with
  | .tup ds => ds.length ≤ lim ∧ K ds (fun _ => True) σ
  | .lst a => ∃ o ds, σ.sto a = some (.list o ds) ∧ ds.length ≤ lim ∧ K ds (fun σ' => ∃ o', σ'.sto a = some (.list o' ds)) σ
  | _ => False

/-- what an iterable's parts hand out -/
def itK (k : ItK) (ds : List D) (K : List D → (St → Prop) → St → Prop) (σ : St) : Prop := match k with
  | .plain => one1 ds fun d => itemsOf d K σ
  | .range => ds.all smallI = true ∧ ∃ items, rangeD ds = some items ∧ K items (fun _ => True) σ
  | .zip => False

def setAll (σ : St) : List Nat → List D → St
  | x :: xs, d :: ds => setAll (σ.set x d) xs ds
  | _, _ => σ

/-- one target, or a tuple of targets -/
def bindT (one : Bool) (xs : List Nat) (d : D) (Q : St → Prop) (σ : St) : Prop :=
  if one then (match xs with | [x] => Q (σ.set x d) | _ => False)
  else ∃ ds, d = .tup ds ∧ ds.length = xs.length ∧ Q (setAll σ xs ds)

def forL (g : St → Prop) (step : D → (Fl → St → Prop) → St → Prop) : List D → (Fl → St → Prop) → St → Prop
  | [], Q, σ => g σ ∧ Q .next σ
  | d :: ds, Q, σ => g σ ∧ step d (fun fl σ' => match fl with
    | .next => forL g step ds Q σ'
    | .cont => forL g step ds Q σ'
    | .brk => Q .next σ'
    | .ret v => Q (.ret v) σ') σ

def compL (step : D → (D → Prop) → Prop) : List D → List D → (List D → Prop) → Prop
  | [], acc, Q => Q acc
  | d :: ds, acc, Q => step d fun r => compL step ds (acc ++ [r]) Q
def noX : Str → St → Prop := fun _ _ => False

def turnW (xs : List (Nat × Str)) (elt : (D → St → Prop) → St → Prop) (P : D → Prop) (σ : St) (d : D) (K : D → Prop) : Prop :=
  bindT (xs.length == 1) (xs.map (·.1)) d (fun σ₂ => elt (fun r _ => P r ∧ K r) σ₂) σ.ro
/-- a comprehension's turns: each from the state ahead of it -/
def compW (xs : List (Nat × Str)) (elt : (D → St → Prop) → St → Prop) (P : D → Prop) (Q : D → St → Prop) (items : List D) (σ : St) : Prop :=
  items.length ≤ lim ∧ compL (turnW xs elt P σ) items [] fun acc => ∀ l, σ.sto l = none → Q (.lst l) (σ.put l (.list true acc))
def isI (d : D) : Bool := match d with
  | .int _ => true
  | _ => false
/-- an int, or a tuple of ints -/
def flatD (d : D) : Bool := match d with
  | .int _ => true
  | .tup ds => ds.all isI
  | _ => false
def isTup (d : D) : Bool := match d with
  | .tup _ => true
  | _ => false
def compK (k : ItK) (xs : List (Nat × Str)) (elt : (D → St → Prop) → St → Prop) (Q : D → St → Prop) (ds : List D) (σ : St) : Prop := match k with
  | .plain => one1 ds fun d => itemsOf d (fun items _ σ₂ => compW xs elt (fun _ => True) Q items σ₂) σ
  | .range => ds.all smallI = true ∧ ∃ items, rangeD ds = some items ∧ compW xs elt (fun _ => True) Q items σ
  | .zip => two2 ds fun x y => ∃ a b o us o' vs, x = .lst a ∧ y = .lst b ∧ σ.sto a = some (.list o us) ∧ σ.sto b = some (.list o' vs) ∧ us.all isTup = true ∧ us.all flatD = true ∧ vs.all flatD = true ∧ (xs.length == 1) = false ∧ compW xs elt (fun r => flatD r = true) Q (List.zipWith (fun u v => D.tup [u, v]) us vs) σ
/-! the weakest preconditions; q: no exception is being handled -/
mutual
def wE (c : Cx) (n : Nat) (q : Bool) : E → (D → St → Prop) → (Str → St → Prop) → St → Prop
  | .cnone, Q, X, σ => Q .none σ
  | .cbool b, Q, X, σ => Q (.bool b) σ
  | .cint i, Q, X, σ => Q (.int i) σ
  | .cstr s, Q, X, σ => Q (.str s) σ
  | .var i, Q, X, σ => ∃ d, σ.loc i = some d ∧ Q d σ
  | .glob x, Q, X, σ => ∃ d, c.cs x = some d ∧ Q d σ
  | .bin op a b, Q, X, σ => wE c n q a (fun x σ₁ => wE c n q b (fun y σ₂ => opBin op x y Q σ₂) X σ₁) X σ
  | .neg a, Q, X, σ => wE c n q a (fun x σ₁ => opNeg x Q σ₁) X σ
  | .not a, Q, X, σ => wE c n q a (fun x σ₁ => wTruth x (fun b σ₂ => Q (.bool (!b)) σ₂) σ₁) X σ
  | .cmp op a b, Q, X, σ => wE c n q a (fun x σ₁ => wE c n q b (fun y σ₂ => opCmp op x y Q σ₂) X σ₁) X σ
  | .bool op es, Q, X, σ => wB c n q op es Q X σ
  | .call f es, Q, X, σ => q = true ∧ IsFn c f ∧ wEs c n q es (fun ds σ₁ => CallOK c n f ds σ₁.sto (fun d sto' => Q d { σ₁ with sto := sto' }) fun k => X k σ₁) X σ
  | .blt f es, Q, X, σ => q = true ∧ wEs c n q es (fun ds σ₁ => opBlt f ds Q σ₁) X σ
  | .isa a t, Q, X, σ => wE c n q a (fun x σ₁ => opIsa c x t Q σ₁) X σ
  | .idx a i, Q, X, σ => wE c n q a (fun x σ₁ => wE c n q i (fun y σ₂ => opIdx x y Q σ₂) X σ₁) X σ
  | .slice a lo hi, Q, X, σ => wE c n q a (fun x σ₁ => wO c n q lo (fun l σ₂ => wO c n q hi (fun h σ₃ => opSlice x l h Q σ₃) X σ₂) X σ₁) X σ
  | .tup es, Q, X, σ => wEs c n q es (fun ds σ₁ => ds.length ≤ lim ∧ Q (.tup ds) σ₁) X σ
  | .lst es, Q, X, σ => wEs c n q es (fun ds σ₁ => ds.length ≤ lim ∧ ∀ l, σ₁.sto l = none → Q (.lst l) (σ₁.put l (.list true ds))) X σ
  | .comp elt xs k es, Q, X, σ => q = true ∧ wEs c n q es (fun ds σ₁ => compK k xs (fun K σ₂ => wE c n q elt K noX σ₂) Q ds σ₁) X σ
  | .append o a, Q, X, σ => q = true ∧ wE c n q o (fun x σ₁ => (∃ l ds, x = .lst l ∧ σ₁.sto l = some (.list true ds)) ∧ wE c n q a (fun d σ₂ => opAppend x d Q σ₂) X σ₁) X σ
def wEs (c : Cx) (n : Nat) (q : Bool) : List E → (List D → St → Prop) → (Str → St → Prop) → St → Prop
  | [], Q, X, σ => Q [] σ
  | e :: es, Q, X, σ => wE c n q e (fun d σ₁ => wEs c n q es (fun ds σ₂ => Q (d :: ds) σ₂) X σ₁) X σ
def wO (c : Cx) (n : Nat) (q : Bool) : Option E → (D → St → Prop) → (Str → St → Prop) → St → Prop
  | none, Q, X, σ => Q .none σ
  | some e, Q, X, σ => wE c n q e Q X σ
def wB (c : Cx) (n : Nat) (q : Bool) (op : BoolOp) : List E → (D → St → Prop) → (Str → St → Prop) → St → Prop
  | [], Q, X, σ => False
  | [e], Q, X, σ => wE c n q e Q X σ
  | e :: es, Q, X, σ => wE c n q e (fun d σ₁ => wTruth d (fun b σ₂ => if b = (op == .Or) then Q d σ₂ else wB c n q op es Q X σ₂) σ₁) X σ
end

/-- what is iterated -/
def wI (c : Cx) (n : Nat) (q : Bool) (k : ItK) (es : List E) (K : List D → (St → Prop) → St → Prop) (X : Str → St → Prop) (σ : St) : Prop := wEs c n q es (fun ds σ₁ => itK k ds K σ₁) X σ

/-! a test -/
mutual
def wT (c : Cx) (n : Nat) (q : Bool) : E → (Bool → St → Prop) → (Str → St → Prop) → St → Prop
  | .not a, Q, X, σ => wT c n q a (fun b σ₁ => Q (!b) σ₁) X σ
  | .bool op es, Q, X, σ => wTs c n q op es Q X σ
  | e, Q, X, σ => wE c n q e (fun d σ₁ => wTruth d Q σ₁) X σ
def wTs (c : Cx) (n : Nat) (q : Bool) (op : BoolOp) : List E → (Bool → St → Prop) → (Str → St → Prop) → St → Prop
  | [], Q, X, σ => Q (op == .And) σ
  | e :: es, Q, X, σ => wT c n q e (fun b σ₁ => if b = (op == .Or) then Q b σ₁ else wTs c n q op es Q X σ₁) X σ
end

mutual
def wS (c : Cx) (n : Nat) (q : Bool) : S → (Fl → St → Prop) → (Str → St → Prop) → St → Prop
  | .expr e, Q, X, σ => wE c n q e (fun _ σ₁ => Q .next σ₁) X σ
  | .assign x e, Q, X, σ => wE c n q e (fun d σ₁ => Q .next (σ₁.set x d)) X σ
  | .unpack xs e, Q, X, σ => q = true ∧ wE c n q e (fun d σ₁ => ∃ ds, d = .tup ds ∧ ds.length = xs.length ∧ Q .next (setAll σ₁ xs ds)) X σ
  | .swap xs es, Q, X, σ => q = true ∧ wE c n q (.tup es) (fun d σ₁ => ∃ ds, d = .tup ds ∧ ds.length = xs.length ∧ Q .next (setAll σ₁ xs ds)) X σ
  | .setitem o i e, Q, X, σ => wE c n q e (fun d σ₁ => wE c n q o (fun x σ₂ => wE c n q i (fun k σ₃ => opSet x k d (Q .next) σ₃) X σ₂) X σ₁) X σ
  | .ifs t a b, Q, X, σ => wT c n q t (fun r σ₁ => if r = true then wSs c n q a Q X σ₁ else wSs c n q b Q X σ₁) X σ
  | .whiles t b, Q, X, σ => ∃ (I : St → Prop) (m : St → Nat), I σ ∧ ∀ σ', I σ' → wT c n q t (fun r σ₁ => if r = true then wSs c n q b (fun fl σ₂ => match fl with
      | .next => I σ₂ ∧ m σ₂ < m σ'
      | .cont => I σ₂ ∧ m σ₂ < m σ'
      | .brk => Q .next σ₂
      | .ret d => Q (.ret d) σ₂) noX σ₁ else Q .next σ₁) noX σ'
  | .fors xs one k es b, Q, X, σ => q = true ∧ wI c n q k es (fun items g σ₁ => forL g (fun d K σ₂ => bindT one xs d (fun σ₃ => wSs c n q b K noX σ₃) σ₂) items Q σ₁) X σ
  | .ret e, Q, X, σ => wE c n q e (fun d σ₁ => Q (.ret d) σ₁) X σ
  | .raise k _, Q, X, σ => q = true ∧ (∃ C, c.cls k = some C) ∧ X k σ
  | .tryx b k x h, Q, X, σ => q = true ∧ (∃ C, c.cls k = some C) ∧ wSs c n q b Q (fun e σ₁ => c.sub e k = true ∧ match x with
      | none => wSs c n false h Q noX σ₁
      | some i => ∀ a C, c.cls e = some C → wSs c n false h (fun fl σ₂ => Q fl (σ₂.del i)) noX (σ₁.set i (.exc a e C))) σ
  | .pass, Q, X, σ => Q .next σ
  | .any, Q, X, σ => False
def wSs (c : Cx) (n : Nat) (q : Bool) : List S → (Fl → St → Prop) → (Str → St → Prop) → St → Prop
  | [], Q, X, σ => Q .next σ
  | s :: ss, Q, X, σ => wS c n q s (fun fl σ₁ => match fl with
    | .next => wSs c n q ss Q X σ₁
    | fl => Q fl σ₁) X σ
end

end Mine

namespace Mine
example (c n q Q X σ) : wE c n q (.bin .Add (.cint 1) (.cint 2)) Q X σ = Q (.int (1+2)) σ := rfl
end Mine

/-! ## M3 -/
namespace Mine
open PySem

inductive Loc where
  | ns (L : Addr) (x : Str)
  | cell (a : Addr)
def Loc.addr : Loc → Addr
  | .ns L _ => L
  | .cell a => a
def Loc.holds (h : Heap) : Loc → Value → Prop
  | .ns L x, v => ∃ m, h.Ns L m ∧ m x = some v
  | .cell a, v => h.IsCell a (some v)
def Loc.there (h : Heap) : Loc → Prop
  | .ns L _ => ∃ m, h.Ns L m
  | .cell a => ∃ v, h.IsCell a v

/-- a running frame -/
structure Fm where
  A : Around
  fenv : Env
  outer : List Env
  hE : Heap
  s0 : Shared
  loc : Nat → Option Loc
  /-- frames that stood at the start: their slots may turn -/
  fs : List Addr
def Fm.fs1 (F : Fm) : List Addr := fsOf (F.fenv :: F.outer)

structure Inv (c : Cx) (F : Fm) (σ : St) (s : Shared) : Prop where
  same : SameSh F.s0 s
  base : c.B.StaysIn s.heap
  kept : Kept F.fs F.hE s.heap
  frames : FramesOK c.B s.heap (F.fenv :: F.outer)
  vars : ∀ i d, σ.loc i = some d → ∃ l v, F.loc i = some l ∧ l.holds s.heap v ∧ Rep s.heap v d
  places : ∀ i l, F.loc i = some l → l.there s.heap
  sto : ∀ a k, σ.sto a = some k → CellOK s.heap F.hE a k

/-- what does not change of a frame -/
structure FmOK (c : Cx) (n : Nat) (q : Bool) (F : Fm) : Prop where
  frames : F.A.frames = some (F.fenv :: F.outer)
  handled : q = true → F.A.handled = none
  depth : F.A.depth + n < 800
  units : F.A.units + 4 * n < 9000
  globals : F.fenv.globals = mainGlobals
  builtins : F.fenv.builtins = builtinsNs
  gen : F.fenv.scope.isGenerator = false
  co : F.fenv.scope.isCoroutine = false
  bh : c.B.StaysIn F.hE
  back : ∀ b o, F.hE.get? b = some o → b ∈ F.fs1 → b ∈ F.fs
  tab : ∃ L, F.fenv.frame = some L
/-- the places of a frame that may be written -/
structure FmW (F : Fm) : Prop where
  fresh : ∀ i l, F.loc i = some l → F.hE.get? l.addr = none
  apart : ∀ i j l, F.loc i = some l → F.loc j = some l → i = j

/-- the top -/
structure CxOK (c : Cx) : Prop where
  g : c.B.Ns mainGlobals c.mg
  b : ∃ mb, c.B.Ns builtinsNs mb ∧ ∀ x : Str, x ≠ "__name__" → mb x = bootBuiltins x
  lim : c.B.NoLimit
  seer : c.B.NoSeer
  tree : c.prog.given.tree = none
  cs : ∀ x d, c.cs x = some d → ∃ v, c.mg x = some v ∧ Rep c.B v d
  cls : ∀ x C, c.cls x = some C → c.mg x = some (.ref C)
  free : ∀ x ∈ (["len", "abs", "max", "min", "int", "list", "tuple", "sum", "isinstance", "bool", "ValueError", "range", "zip"] : List String), c.mg (Str.ofString x) = none

section
variable {c : Cx} {F : Fm} {σ : St} {s : Shared}

/-- objects that are no records stay, frames up to their slots -/
def Nf (fs : List Addr) (h h' : Heap) : Prop := (∀ b o, h.get? b = some o → (∀ vs, o.data ≠ .fields vs) → ∃ sl, h'.get? b = some { o with slots := sl } ∧ (b ∉ fs ∨ noDict o → sl = o.slots)) ∧
  ∀ b o C vs, h.get? b = some o → o.cls = .ref C → o.data = .fields vs → h'.get? b = some o
theorem Nf.of_kept {fs : List Addr} {h h' : Heap} (k : Kept fs h h') : Nf fs h h' := ⟨fun b o e _ => k b o e, fun b o C vs e _ d => k.exact e (.inr fun es n q => by rw [d] at q; cases q)⟩
theorem Nf.of_keeps {fs : List Addr} {h h' : Heap} (k : ∀ b o, h.get? b = some o → h'.get? b = some o) : Nf fs h h' := ⟨fun b o e _ => ⟨o.slots, k b o e, fun _ => rfl⟩, fun b o _ _ e _ _ => k b o e⟩

theorem Nf.ns {fs : List Addr} {h h' : Heap} (x : Nf fs h h') {a : Addr} {m : Str → Option Value} (n : h.Ns a m) : h'.Ns a m := by
  obtain ⟨o, es, ep, ho, hd, r⟩ := n
  obtain ⟨sl, e, _⟩ := x.1 a o ho (fun vs q => by rw [hd] at q; cases q)
  exact ⟨_, es, ep, e, hd, r⟩
theorem Nf.cell {fs : List Addr} {h h' : Heap} (x : Nf fs h h') {a : Addr} {v : Option Value} (n : h.IsCell a v) : h'.IsCell a v := by
  obtain ⟨o, ho, hd⟩ := n
  obtain ⟨sl, e, _⟩ := x.1 a o ho (fun vs q => by rw [hd] at q; cases q)
  exact ⟨_, e, hd⟩
theorem Nf.list {fs : List Addr} {h h' : Heap} (x : Nf fs h h') {a : Addr} {xs : Array Value} (n : h.IsList a xs) : h'.IsList a xs := by
  obtain ⟨o, ho, hc, m, hd⟩ := n
  obtain ⟨sl, e, _⟩ := x.1 a o ho (fun vs q => by rw [hd] at q; cases q)
  exact ⟨_, e, hc, m, hd⟩
theorem Nf.tuple {fs : List Addr} {h h' : Heap} (x : Nf fs h h') {a : Addr} {xs : Array Value} {k : Nat} (n : IsT h a xs k) : IsT h' a xs k := by
  obtain ⟨sl, e, q⟩ := x.1 a _ n (fun vs q => by cases q)
  rw [q (.inr fun es n q => by cases q)] at e
  exact e
mutual
theorem Rep.nf {fs : List Addr} {h h' : Heap} (g : Nf fs h h') : ∀ {v : Value} {d : D}, Rep h v d → Rep h' v d
  | _, _, .none => .none
  | _, _, .bool b => .bool b
  | _, _, .int i t => .int i t
  | _, _, .str s t => .str s t
  | _, _, .tup x y => .tup (g.tuple x) (Reps.nf g y)
  | _, _, .lst a => .lst a
  | _, _, .exc x y z => .exc (g.2 _ _ _ _ x y z) y z
theorem Reps.nf {fs : List Addr} {h h' : Heap} (g : Nf fs h h') : ∀ {vs : List Value} {ds : List D}, Reps h vs ds → Reps h' vs ds
  | _, _, .nil => .nil
  | _, _, .cons x y => .cons (Rep.nf g x) (Reps.nf g y)
end
theorem Nf.frames {fs : List Addr} {B h h' : Heap} {l : List Env} (x : Nf fs h h') (f : FramesOK B h l) : FramesOK B h' l := fun env he => by
  obtain ⟨k, L, m, e1, e2, e3⟩ := f env he
  exact ⟨k, L, m, e1, e2, x.ns e3⟩
theorem Nf.plain {fs : List Addr} {h h' : Heap} (x : Nf fs h h') {a : Addr} {xs : Array Value} (n : h.PlainList a xs) : h'.PlainList a xs := by
  obtain ⟨m, ho⟩ := n
  obtain ⟨sl, e, q⟩ := x.1 a _ ho (fun vs q => by cases q)
  rw [q (.inr fun es n q => by cases q)] at e
  exact ⟨m, e⟩
theorem Loc.holds_nf {fs : List Addr} {h h' : Heap} (x : Nf fs h h') {l : Loc} {v : Value} (p : l.holds h v) : l.holds h' v := by
  cases l with
  | ns L y => obtain ⟨m, n, e⟩ := p; exact ⟨m, x.ns n, e⟩
  | cell a => exact x.cell p
theorem Loc.there_nf {fs : List Addr} {h h' : Heap} (x : Nf fs h h') {l : Loc} (p : l.there h) : l.there h' := by
  cases l with
  | ns L y => obtain ⟨m, n⟩ := p; exact ⟨m, x.ns n⟩
  | cell a => obtain ⟨v, n⟩ := p; exact ⟨v, x.cell n⟩

/-- a frame's address holds a dict -/
theorem FramesOK.mem {B h : Heap} {l : List Env} (f : FramesOK B h l) {a : Addr} (m : a ∈ fsOf l) : B.get? a = none ∧ ∃ o es n, h.get? a = some o ∧ o.data = .dict es n := by
  obtain ⟨env, he, hf⟩ := List.mem_filterMap.mp m
  obtain ⟨_, L, mm, e1, e2, ⟨o, es, ep, ho, hd, _⟩⟩ := f env he
  rw [hf] at e1; cases e1
  exact ⟨e2, o, es, ep, ho, hd⟩
theorem CellOK.nf {fs : List Addr} {h h' hE : Heap} {a : Addr} {k : Cell} (x : Nf fs h h') (p : CellOK h hE a k) : CellOK h' hE a k := by
  cases k with
  | list own ds =>
    obtain ⟨vs, h1, h2, h3⟩ := p
    exact ⟨vs, x.list h1, fun o => ⟨x.plain (h2 o).1, (h2 o).2⟩, Reps.nf x h3⟩
  | dict ps => exact p

/-- the state goes on: nothing but records and frames' slots may have turned -/
theorem Inv.nf (I : Inv c F σ s) {h' : Heap} {t : Nat} (hb : c.B.StaysIn h') (hk : Kept F.fs F.hE h') (x : Nf F.fs1 s.heap h') : Inv c F σ { s with heap := h', toks := t } where
  same := I.same.trans ⟨_, _, rfl⟩
  base := hb
  kept := hk
  frames := x.frames I.frames
  vars := fun i d e => by
    obtain ⟨l, v, e1, e2, e3⟩ := I.vars i d e
    exact ⟨l, v, e1, Loc.holds_nf x e2, Rep.nf x e3⟩
  places := fun i l e => Loc.there_nf x (I.places i l e)
  sto := fun a k e => CellOK.nf x (I.sto a k e)

/-- the heap has grown -/
theorem Inv.keeps (I : Inv c F σ s) {h' : Heap} {t : Nat} (k : ∀ b o, s.heap.get? b = some o → h'.get? b = some o) : Inv c F σ { s with heap := h', toks := t } :=
  I.nf (fun b o e => k b o (I.base b o e)) (I.kept.trans (Kept.of_keeps k)) (Nf.of_keeps k)
theorem Inv.tok (I : Inv c F σ s) (t : Nat) : Inv c F σ { s with toks := t } := I.keeps (h' := s.heap) fun _ _ e => e
theorem grow_of_keeps {h h' : Heap} (k : ∀ b o, h.get? b = some o → h'.get? b = some o) : Grow h h' := fun b o e _ => k b o e
end

/-- names in an environment -/
def Res (F : Fm) (env : Env) (i : Nat) (x : Str) : Prop :=
  (env.kindOf x = some .local ∧ F.loc i = some (.ns env.locals x)) ∨ (env.kindOf x = some .cell ∧ ∃ a, env.cells.lookup x = some a ∧ F.loc i = some (.cell a))

structure EnvOK (F : Fm) (env : Env) (K : Str → Option NameKind) (ns : Nat → Option Str) : Prop where
  kind : env.scope.kind = .function
  globals : env.globals = mainGlobals
  builtins : env.builtins = builtinsNs
  kinds : ∀ x, env.kindOf x = K x
  res : ∀ i x, ns i = some x → Res F env i x
  cells : ∀ x, K x = some .cell → ∃ a, env.cells.lookup x = some a

section
variable {c : Cx} {F : Fm} {σ : St} {s : Shared} {env : Env} {K : Str → Option NameKind} {ns : Nat → Option Str} {n : Nat} {q : Bool}

theorem load_var {M : Model} {A : Around} {E : Value → Shared → Prop} {i : Nat} {x : Str} {d : D} {pos : Pos} {Q : Value → Shared → Prop} (I : Inv c F σ s) (O : EnvOK F env K ns) (hx : ns i = some x) (hd : σ.loc i = some d) (nd : (x == ("__debug__" : Str)) = false)
    (h : ∀ v, Rep s.heap v d → Q v s) : wpAny M A (eval (.Name x pos) env) Q E s := by
  obtain ⟨l, v, e1, e2, e3⟩ := I.vars i d hd
  refine wpAny_Name ?_ nd
  rcases O.res i x hx with ⟨hk, hl⟩ | ⟨hk, a, hc, hl⟩
  · rw [hl] at e1; cases e1
    obtain ⟨m, hn, hv⟩ := e2
    exact wpAny_loadName_local O.kind hk hn hv (h v e3)
  · rw [hl] at e1; cases e1
    exact wpAny_loadName_cell O.kind hk hc e2 (h v e3)


/-- one place of the frame has been stored: the object there, and none else, has turned; it is no sequence and no record -/
theorem Inv.stored (I : Inv c F σ s) (O : FmOK c n q F) (Wr : FmW F) {i : Nat} {l : Loc} {d : D} {v : Value} {h' : Heap} {t : Nat} {o : Obj} (hl : F.loc i = some l) (ho : s.heap.get? l.addr = some o)
    (nd : (∀ vs, o.data ≠ .fields vs) ∧ (∀ xs k, o.data ≠ .seq xs k)) (r : Rep s.heap v d)
    (k : ∀ b o, b ≠ l.addr → s.heap.get? b = some o → h'.get? b = some o)
    (hv : l.holds h' v) (hth : ∀ j l', F.loc j = some l' → l'.there h')
    (hoth : ∀ l' w, l' ≠ l → l'.holds s.heap w → l'.holds h' w) (hfr : ∀ m, s.heap.Ns l.addr m → ∃ m', h'.Ns l.addr m') :
    Inv c F (σ.set i d) { s with heap := h', toks := t } ∧ Grow s.heap h' := by
  have fresh := Wr.fresh i l hl
  have nB : c.B.get? l.addr = none := by
    cases e : c.B.get? l.addr with
    | none => rfl
    | some o' => have := O.bh _ _ e; rw [fresh] at this; cases this
  have grow : Grow s.heap h' := fun b o' e st => k b o' (fun z => by
    subst z
    rw [ho] at e; cases e
    rcases st with ⟨xs, m, _, st⟩ | ⟨vs, st⟩
    · exact nd.2 _ _ st
    · exact nd.1 vs st) e
  refine ⟨⟨I.same.trans ⟨_, _, rfl⟩, fun b o' e => k b o' (fun z => by rw [z, nB] at e; cases e) (I.base b o' e), I.kept.but fresh k, fun env he => ?_, fun j d' e => ?_, hth, fun a k' e => ?_⟩, grow⟩
  · obtain ⟨h1, L, m, h2, h3, h4⟩ := I.frames env he
    by_cases z : L = l.addr
    · obtain ⟨m', h5⟩ := hfr m (z ▸ h4)
      exact ⟨h1, L, m', h2, h3, z ▸ h5⟩
    · exact ⟨h1, L, m, h2, h3, h4.at' fun o' e => k L o' z e⟩
  · by_cases z : j = i
    · subst z
      have e' : some d = some d' := by simpa [St.set] using e
      cases e'
      exact ⟨l, v, hl, hv, Rep.grow grow r⟩
    · have e' : σ.loc j = some d' := by simpa [St.set, z] using e
      obtain ⟨l', w, e1, e2, e3⟩ := I.vars j d' e'
      exact ⟨l', w, e1, hoth l' w (fun z' => z (Wr.apart j i l (z' ▸ e1) hl)) e2, Rep.grow grow e3⟩
  · have p := I.sto a k' e
    cases k' with
    | dict ps => exact p
    | list own ds =>
      obtain ⟨vs, h1, h2, h3⟩ := p
      obtain ⟨oa, e1, e2, m, e3⟩ := id h1
      have na : a ≠ l.addr := fun z => by rw [z, ho] at e1; cases e1; exact nd.2 _ _ e3
      exact ⟨vs, ⟨oa, k a oa na e1, e2, m, e3⟩, fun w => ⟨(h2 w).1.at fun o' e' => k a o' na e', (h2 w).2⟩, Reps.grow grow h3⟩

theorem store_var {M : Model} {A : Around} {E : Value → Shared → Prop} {i : Nat} {x : Str} {d : D} {v : Value} {Q : Unit → Shared → Prop} (I : Inv c F σ s) (FO : FmOK c n q F) (Wr : FmW F) (O : EnvOK F env K ns) (hx : ns i = some x) (r : Rep s.heap v d)
    (h : ∀ s', SameSh s s' → Grow s.heap s'.heap → Inv c F (σ.set i d) s' → Q () s') : wpAny M A (storeName env x v) Q E s := by
  rcases O.res i x hx with ⟨hk, hl⟩ | ⟨hk, a, hc, hl⟩
  · obtain ⟨m, hn⟩ := I.places i _ hl
    refine wpAny_storeName_local hk hn (fun h' hn' hs' => ?_) (by rw [O.kind]; rfl)
    obtain ⟨o, es, ep, ho, hd, rr⟩ := id hn
    have kk : ∀ b o, b ≠ env.locals → s.heap.get? b = some o → h'.get? b = some o := fun b o nb e => hs'.extBut b o nb e
    have oth : ∀ (l' : Loc) w, l' ≠ .ns env.locals x → l'.holds s.heap w → l'.holds h' w := fun l' w ne p => by
      cases l' with
      | ns L y =>
        obtain ⟨m₁, hn₁, hv₁⟩ := p
        by_cases z : L = env.locals
        · subst z
          have := Ns.unique hn hn₁
          subst this
          refine ⟨_, hn', ?_⟩
          rw [if_neg (fun e => ne (by rw [e]))]; exact hv₁
        · exact ⟨m₁, hn₁.at' fun o e => kk L o z e, hv₁⟩
      | cell a =>
        obtain ⟨oa, e1, e2⟩ := p
        exact ⟨oa, kk a oa (fun z => by rw [z, ho] at e1; cases e1; rw [hd] at e2; cases e2) e1, e2⟩
    have th : ∀ j l', F.loc j = some l' → l'.there h' := fun j l' e => by
      have p := I.places j l' e
      cases l' with
      | ns L y =>
        obtain ⟨m₁, hn₁⟩ := p
        by_cases z : L = env.locals
        · subst z; exact ⟨_, hn'⟩
        · exact ⟨m₁, hn₁.at' fun o e => kk L o z e⟩
      | cell a =>
        obtain ⟨w, oa, e1, e2⟩ := p
        exact ⟨w, oa, kk a oa (fun z => by rw [z, ho] at e1; cases e1; rw [hd] at e2; cases e2) e1, e2⟩
    obtain ⟨I', g⟩ := I.stored (t := s.toks + 1) FO Wr hl ho ⟨(fun vs e => by rw [hd] at e; cases e), (fun xs k e => by rw [hd] at e; cases e)⟩ r kk ⟨_, hn', by simp⟩ th oth (fun m' _ => ⟨_, hn'⟩)
    exact h _ ⟨_, _, rfl⟩ g I'
  · obtain ⟨w₀, hc₀⟩ := I.places i _ hl
    refine wpAny_storeName_cell O.kind hk hc hc₀ fun h' hc' hs' => ?_
    obtain ⟨o, ho, hd⟩ := id hc₀
    have kk : ∀ b o, b ≠ a → s.heap.get? b = some o → h'.get? b = some o := fun b o nb e => hs'.extBut b o nb e
    have oth : ∀ (l' : Loc) w, l' ≠ .cell a → l'.holds s.heap w → l'.holds h' w := fun l' w ne p => by
      cases l' with
      | ns L y =>
        obtain ⟨m₁, ⟨o₁, es₁, ep₁, ho₁, hd₁, r₁⟩, hv₁⟩ := p
        exact ⟨m₁, ⟨o₁, es₁, ep₁, kk L o₁ (fun z => by rw [z, ho] at ho₁; cases ho₁; rw [hd] at hd₁; cases hd₁) ho₁, hd₁, r₁⟩, hv₁⟩
      | cell b =>
        obtain ⟨oa, e1, e2⟩ := p
        exact ⟨oa, kk b oa (fun z => ne (by rw [z])) e1, e2⟩
    have th : ∀ j l', F.loc j = some l' → l'.there h' := fun j l' e => by
      have p := I.places j l' e
      cases l' with
      | ns L y =>
        obtain ⟨m₁, o₁, es₁, ep₁, ho₁, hd₁, r₁⟩ := p
        exact ⟨m₁, o₁, es₁, ep₁, kk L o₁ (fun z => by rw [z, ho] at ho₁; cases ho₁; rw [hd] at hd₁; cases hd₁) ho₁, hd₁, r₁⟩
      | cell b =>
        by_cases z : b = a
        · subst z; exact ⟨_, hc'⟩
        · obtain ⟨w, oa, e1, e2⟩ := p
          exact ⟨w, oa, kk b oa z e1, e2⟩
    obtain ⟨I', g⟩ := I.stored (t := s.toks) FO Wr hl ho ⟨(fun vs e => by rw [hd] at e; cases e), (fun xs k e => by rw [hd] at e; cases e)⟩ r kk hc' th oth (fun m' hm => by
      obtain ⟨o₁, es₁, ep₁, ho₁, hd₁, r₁⟩ := hm
      have ho₂ : s.heap.get? a = some o₁ := ho₁
      rw [ho] at ho₂; cases ho₂; rw [hd] at hd₁; cases hd₁)
    exact h _ ⟨_, _, rfl⟩ g I'
end
end Mine

/-! ## M4 -/
namespace Mine
open PySem

/-- how an expression's evaluation ends well -/
def Post (c : Cx) (F : Fm) (h₀ : Heap) (Q : D → St → Prop) : Value → Shared → Prop := fun v s' => ∃ d σ', Grow h₀ s'.heap ∧ Inv c F σ' s' ∧ Rep s'.heap v d ∧ Q d σ'

theorem sizeLine_val : sizeLine = 16777216 := rfl

theorem tup_mul_1 (t : Addr) (items : Array Value) (n : Nat) (u : Tok) :
    Meets (Builtin.«tuple.__mul__» ⟨[.ref t, .int 1 u], []⟩) (fun _ R s => s.heap.get? t = some { cls := .type "tuple", dict := none, data := .seq items n, slots := #[] } ∧ R (.ok (.ret (Value.ref t))) s) :=
  .of_wp fun prog w A R s h => by
    obtain ⟨hp, g, d, tk, os⟩ := s; obtain ⟨hl, h⟩ := h
    wp_walk
    exact ⟨_, rfl, h⟩
theorem tup_mul_0 (t : Addr) (items : Array Value) (n : Nat) (x : Int) (u : Tok) (hx : (decide (x < -2 ^ 63) || decide (x ≥ 2 ^ 63)) = false) (h1 : (items.isEmpty || x == 1) = false) (h2 : (decide (x ≤ 0) || items.isEmpty) = true) :
    Meets (Builtin.«tuple.__mul__» ⟨[.ref t, .int x u], []⟩) (fun _ R s => s.heap.get? t = some { cls := .type "tuple", dict := none, data := .seq items n, slots := #[] } ∧ R (.ok (.ret (Value.ref s.heap.objs.size))) { s with heap := s.heap.push { cls := .type "tuple", data := .seq #[] } }) :=
  .of_wp fun prog w A R s h => by
    obtain ⟨hp, g, d, tk, os⟩ := s; obtain ⟨hl, h⟩ := h
    wp_walk
    refine wpAny_ite_false (by rw [hx]; rfl) ?_
    wp_walk
    exact ⟨_, rfl, h⟩
theorem tup_mul_2 (t : Addr) (items : Array Value) (n : Nat) (x : Int) (u : Tok) (hx : (decide (x < -2 ^ 63) || decide (x ≥ 2 ^ 63)) = false) (h1 : (items.isEmpty || x == 1) = false) (h2 : (decide (x ≤ 0) || items.isEmpty) = false) (h3 : ¬ ((items.size : Int) * x > (2 ^ 63 - 1) / 8)) (h4 : Builtin.Tuple.tupleTooMany (items.size * x) = false) (h5 : (List.foldl (fun x1 x2 => x1 ++ x2) #[] (List.replicate x.toNat items)).size ≤ sizeLine) :
    Meets (Builtin.«tuple.__mul__» ⟨[.ref t, .int x u], []⟩) (fun _ R s => s.heap.get? t = some { cls := .type "tuple", dict := none, data := .seq items n, slots := #[] } ∧ R (.ok (.ret (Value.ref s.heap.objs.size))) { s with heap := s.heap.push { cls := .type "tuple", data := .seq (List.foldl (fun x1 x2 => x1 ++ x2) #[] (List.replicate x.toNat items)) } }) :=
  .of_wp fun prog w A R s h => by
    obtain ⟨hp, g, d, tk, os⟩ := s; obtain ⟨hl, h⟩ := h
    wp_walk
    refine wpAny_ite_false (by rw [hx]; rfl) ?_
    wp_walk
    refine wpAny_ite_false (decide_eq_false h3) ?_
    wp_walk
    exact ⟨_, rfl, h⟩
theorem noFill_tup_mul : fillsNumberSlot (.type "tuple") "mul" = pure false :=
  fillsNumberSlot_seq (id := "tuple.__mul__") (r := some (.builtin "tuple.__rmul__")) F.slot_tuple_mul.lookup (by decide +kernel) F.slot_tuple_rmul.lookup (by decide +kernel)
theorem repeat_tup : seqRepeat? (.type "tuple") = pure (some (.builtin "tuple.__mul__")) := by
  unfold seqRepeat?
  rw [seqSlot_of (T := "tuple") (name := "__mul__") (id := "tuple.__mul__") F.slot_tuple_mul.lookup (by decide +kernel), seqSlot_of (T := "tuple") (name := "__rmul__") (id := "tuple.__rmul__") F.slot_tuple_rmul.lookup (by decide +kernel)]
  rfl
theorem int_rmul_tup (a : Int) (t : Tok) (l : Addr) (items : Array Value) (n : Nat) :
    Meets (Builtin.«int.__rmul__» ⟨[.int a t, .ref l], []⟩) (fun _ R s => s.heap.get? l = some { cls := .type "tuple", dict := none, data := .seq items n, slots := #[] } ∧ R (.ok (.ret Value.notImplemented)) s) :=
  .of_wp fun prog w A R s h => by obtain ⟨hp, g, d, tk, os⟩ := s; obtain ⟨hl, h⟩ := h; wp_walk; exact ⟨_, rfl, h⟩
theorem reps_rep {h : Heap} {vs : List Value} {ds : List D} (r : Reps h vs ds) : ∀ k : Nat, Reps h (List.replicate k vs).flatten (List.replicate k ds).flatten
  | 0 => .nil
  | k + 1 => by
    rw [List.replicate_succ, List.replicate_succ, List.flatten_cons, List.flatten_cons]
    exact r.append (reps_rep r k)

section
variable {c : Cx} {F : Fm} {σ : St} {s : Shared} {n : Nat} {q : Bool} {E : Value → Shared → Prop} {Q : D → St → Prop}

theorem post_same (I : Inv c F σ s) {v : Value} {d : D} (r : Rep s.heap v d) (h : Q d σ) : Post c F s.heap Q v s := ⟨d, σ, Grow.refl _, I, r, h⟩
theorem post_tok (I : Inv c F σ s) {v : Value} {d : D} {t : Nat} (r : Rep s.heap v d) (h : Q d σ) : Post c F s.heap Q v { s with toks := t } := ⟨d, σ, Grow.refl _, I.tok t, r, h⟩
theorem post_keeps (I : Inv c F σ s) {h' : Heap} {t : Nat} (k : ∀ b o, s.heap.get? b = some o → h'.get? b = some o) {v : Value} {d : D} (r : Rep h' v d) (h : Q d σ) : Post c F s.heap Q v { s with heap := h', toks := t } :=
  ⟨d, σ, grow_of_keeps k, I.keeps k, r, h⟩

theorem push_keeps (h : Heap) (o : Obj) : ∀ b o', h.get? b = some o' → (h.push o).get? b = some o' := fun b o' e => Heap.get?_push_of_some o e

/-- a new tuple -/
theorem post_tuple (I : Inv c F σ s) {vs : List Value} {ds : List D} {t : Nat} (r : Reps s.heap vs ds) (h : Q (.tup ds) σ) :
    Post c F s.heap Q (.ref s.heap.objs.size) { s with heap := s.heap.push { cls := .type "tuple", data := .seq vs.toArray }, toks := t } :=
  post_keeps I (push_keeps _ _) (.tup (IsT.new s.heap vs.toArray) (Reps.grow (grow_of_keeps (push_keeps _ _)) r)) h

/-- no cell of the store lies at a new address -/
theorem Inv.free (I : Inv c F σ s) {a : Addr} (ha : s.heap.get? a = none) : σ.sto a = none := by
  cases e : σ.sto a with
  | none => rfl
  | some k =>
    have p := I.sto a k e
    cases k with
    | list own ds => obtain ⟨vs, ⟨o, e1, _⟩, _⟩ := p; rw [ha] at e1; cases e1
    | dict ps => exact p.elim
theorem none_at_size (h : Heap) : h.get? h.objs.size = none := by
  cases e : h.get? h.objs.size with
  | none => rfl
  | some o => exact absurd (Heap.lt_size e) (Nat.lt_irrefl _)
theorem kept_none {fs : List Addr} {h h' : Heap} (k : Kept fs h h') {a : Addr} (e : h'.get? a = none) : h.get? a = none := by
  cases q : h.get? a with
  | none => rfl
  | some o => obtain ⟨sl, e1, _⟩ := k a o q; rw [e] at e1; cases e1

/-- a new list, laid somewhere -/
theorem Inv.newList (I : Inv c F σ s) {h' : Heap} {t : Nat} {a : Addr} {vs : List Value} {ds : List D} (ha : s.heap.get? a = none) (k : ∀ b o, s.heap.get? b = some o → h'.get? b = some o) (hl : h'.PlainList a vs.toArray) (r : Reps s.heap vs ds) :
    Inv c F (σ.put a (.list true ds)) { s with heap := h', toks := t } := by
  have I' := I.keeps (t := t) k
  refine ⟨I'.same, I'.base, I'.kept, I'.frames, I'.vars, I'.places, fun b k' e => ?_⟩
  by_cases z : b = a
  · subst z
    have e' : some (Cell.list true ds) = some k' := by simpa [St.put, Sto.put] using e
    cases e'
    exact ⟨vs, hl.isList, fun _ => ⟨hl, kept_none I.kept ha⟩, Reps.grow (grow_of_keeps k) r⟩
  · exact I'.sto b k' (by simpa [St.put, Sto.put, z] using e)
theorem post_list (I : Inv c F σ s) {h' : Heap} {t : Nat} {a : Addr} {vs : List Value} {ds : List D} (ha : s.heap.get? a = none) (k : ∀ b o, s.heap.get? b = some o → h'.get? b = some o) (hl : h'.PlainList a vs.toArray) (r : Reps s.heap vs ds)
    (h : ∀ l, σ.sto l = none → Q (.lst l) (σ.put l (.list true ds))) : Post c F s.heap Q (.ref a) { s with heap := h', toks := t } :=
  ⟨.lst a, _, grow_of_keeps k, I.newList ha k hl r, .lst a, h a (I.free ha)⟩

theorem add_tup {prog : Program} {w : World} {A : Around} {t b : Addr} {vs ws : List Value} {n₁ n₂ : Nat} {Q : Value → Shared → Prop} (ht : IsT s.heap t vs.toArray n₁) (hb : IsT s.heap b ws.toArray n₂)
    (h0 : vs = [] → Q (.ref b) s) (h1 : vs ≠ [] → ws = [] → Q (.ref t) s)
    (h2 : vs ≠ [] → ws ≠ [] → Q (.ref s.heap.objs.size) { s with heap := s.heap.push { cls := .type "tuple", data := .seq (vs ++ ws).toArray } })
    (hsz : vs.length + ws.length ≤ sizeLine) : wpAny (model prog w) A (binaryOp .Add (.ref t) (.ref b)) Q E s := by
  by_cases hv : vs = []
  · exact concat_meets ⟨_, ht, rfl⟩ ⟨_, hb, rfl⟩ noFill_tuple_add seq_tuple_add PySem.F.slot_tuple_add PySem.F.entry_tuple_add (PySem.F.args_tuple_add_2 _ _) (PyProof.Rows.tuple_addW0 t b vs.toArray ws.toArray n₁ n₂ none none #[] #[] (by simp [hv])) ⟨ht, hb, h0 hv⟩
  · by_cases hw : ws = []
    · exact concat_meets ⟨_, ht, rfl⟩ ⟨_, hb, rfl⟩ noFill_tuple_add seq_tuple_add PySem.F.slot_tuple_add PySem.F.entry_tuple_add (PySem.F.args_tuple_add_2 _ _) (PyProof.Rows.tuple_addW1 t b vs.toArray ws.toArray n₁ n₂ none none #[] #[] (by simpa using hv) (by simp [hw])) ⟨ht, hb, h1 hv hw⟩
    · have e : vs.toArray ++ ws.toArray = (vs ++ ws).toArray := by simp
      have := h2 hv hw
      rw [← e] at this
      exact P.add_tuple ht hb (by simpa using hv) (by simpa using hw) this (by simpa using hsz)

theorem FmOK.room (FO : FmOK c n q F) (CO : CxOK c) (hb : c.B.StaysIn s.heap) : PylongRoom (model c.prog c.w) F.A s :=
  PylongRoom.of (CO.lim.keeps hb) (by have := FO.depth; show F.A.depth + 100 < 1000; omega)
    (SeerAt.of (CO.seer.keeps hb) CO.tree FO.frames FO.gen FO.co FO.builtins FO.globals)

theorem inv_intII {h : Heap} {v w : Value} {x y : D} {K : Int → Int → Prop} (rv : Rep h v x) (rw' : Rep h w y) (k : intII x y K) : ∃ a t b u, v = .int a t ∧ w = .int b u ∧ K a b := by
  cases rv with
  | int a t =>
    cases rw' with
    | int b u => exact ⟨a, t, b, u, rfl, rfl, k⟩
    | _ => exact (show False from k).elim
  | _ => exact (show False from k).elim

theorem s_add (I : Inv c F σ s) {x y : D} {v w : Value} (rv : Rep s.heap v x) (rw' : Rep s.heap w y) (h : opAdd x y Q σ) :
    wpAny (model c.prog c.w) F.A (binaryOp .Add v w) (Post c F s.heap Q) E s := by
  cases rv with
  | int a t =>
    cases rw' with
    | int b u => exact P.add_int (post_tok I (.int _ _) h)
    | _ => exact (show False from h).elim
  | tup ht ra =>
    cases rw' with
    | tup hb rb =>
      obtain ⟨l1, l2, hq⟩ := h
      refine add_tup ht hb (fun e => ?_) (fun _ e => ?_) (fun _ _ => post_tuple I (ra.append rb) hq) (by rw [ra.length, rb.length, sizeLine_val]; unfold lim at l1 l2; omega)
      · subst e; cases ra; exact post_same I (.tup hb rb) hq
      · subst e; cases rb; rw [List.append_nil] at hq; exact post_same I (.tup ht ra) hq
    | _ => exact (show False from h).elim
  | lst a =>
    cases rw' with
    | lst b =>
      obtain ⟨o₁, xs, o₂, ys, e1, e2, l1, l2, hq⟩ := h
      obtain ⟨vs, hl, _, ra⟩ := I.sto _ _ e1
      obtain ⟨ws, hl', _, rb⟩ := I.sto _ _ e2
      obtain ⟨⟨cls, dd, data, sl⟩, ho, hc, m, hd⟩ := id hl
      obtain ⟨⟨cls2, dd2, data2, sl2⟩, ho2, hc2, m2, hd2⟩ := id hl'
      simp only at hc hd hc2 hd2
      subst hc hd hc2 hd2
      refine concat_meets ⟨_, ho, rfl⟩ ⟨_, ho2, rfl⟩ noFill_list_add seq_list_add PySem.F.slot_list_add PySem.F.entry_list_add (PySem.F.args_list_add_2 _ _) (PyProof.Rows.list_addW a b vs.toArray ws.toArray m m2 dd dd2 sl sl2 ?_) ⟨ho, ho2, ?_⟩
      · simp only [List.size_toArray]; rw [ra.length, rb.length, sizeLine_val]; unfold lim at l1 l2; omega
      · have e : vs.toArray ++ ws.toArray = (vs ++ ws).toArray := by simp
        rw [e]
        exact post_list I (none_at_size _) (push_keeps _ _) ⟨0, Heap.get?_push_size _ rfl⟩ (ra.append rb) hq
    | _ => exact (show False from h).elim
  | _ => exact (show False from h).elim

theorem s_mul (I : Inv c F σ s) {x y : D} {v w : Value} (rv : Rep s.heap v x) (rw' : Rep s.heap w y) (h : opMul x y Q σ) :
    wpAny (model c.prog c.w) F.A (binaryOp .Mult v w) (Post c F s.heap Q) E s := by
  cases rv with
  | int a t =>
    cases rw' with
    | int b u => exact P.mul_int (post_tok I (.int _ _) h.2) h.1
    | _ => exact (show False from h).elim
  | @tup a m vs ds ht ra =>
    cases rw' with
    | int b u =>
      obtain ⟨h0, h1, h2, h3, hq⟩ := h
      have hl := ra.length
      have hne : vs.toArray.isEmpty = false := by
        cases vs with
        | nil => rw [← hl] at h0; cases h0
        | cons => rfl
      have hsz : vs.toArray.size * b ≤ 1000000 := by
        have e1 : ((vs.toArray.size : Nat) : Int) ≤ 100 := by rw [List.size_toArray, hl]; exact Int.ofNat_le.mpr h1
        exact Int.le_trans (Int.mul_le_mul e1 h3 h2 (by decide)) (by decide)
      refine wpAny_binaryOp_repeat_ref (T := "tuple") (U := "int") (by decide) ⟨_, ht, rfl⟩ (fun s' => typeIs_int s' b u) noFill_tup_mul PySem.F.fills_int_mul PySem.F.slot_int_rmul repeat_tup PySem.F.slot_int_index.lookup
        (call_meets PySem.F.slot_int_rmul (typeIs_int s b u) PySem.F.entry_int_rmul (PySem.F.args_int_rmul_2 _ _) (int_rmul_tup b u a vs.toArray m) ⟨ht, rfl, ⟨_, ht, rfl⟩, ?_⟩)
      have hx : (decide (b < -2 ^ 63) || decide (b ≥ 2 ^ 63)) = false := by
        rw [decide_eq_false (show ¬ b < -2 ^ 63 by omega), decide_eq_false (show ¬ b ≥ 2 ^ 63 by omega)]; rfl
      by_cases e1 : b = 1
      · subst e1
        refine call_meets PySem.F.slot_tuple_mul ⟨_, ht, rfl⟩ PySem.F.entry_tuple_mul (PySem.F.args_tuple_mul_2 _ _) (tup_mul_1 a vs.toArray m u) ⟨ht, ?_⟩
        have e : repL 1 ds = ds := List.append_nil ds
        rw [e] at hq
        exact post_same I (.tup ht ra) hq
      have e1' : (vs.toArray.isEmpty || b == 1) = false := by rw [hne, beq_eq_false_iff_ne.mpr e1]; rfl
      by_cases e0 : b ≤ 0
      · obtain rfl : b = 0 := by omega
        refine call_meets PySem.F.slot_tuple_mul ⟨_, ht, rfl⟩ PySem.F.entry_tuple_mul (PySem.F.args_tuple_mul_2 _ _) (tup_mul_0 a vs.toArray m 0 u hx e1' rfl) ⟨ht, ?_⟩
        exact post_tuple (t := s.toks) I .nil hq
      · have e2 : (decide (b ≤ 0) || vs.toArray.isEmpty) = false := by rw [hne, decide_eq_false e0]; rfl
        have ef : List.foldl (fun x1 x2 => x1 ++ x2) #[] (List.replicate b.toNat vs.toArray) = (repL b vs).toArray := PyProof.Rows.listMul_foldl vs.toArray b.toNat #[]
        refine call_meets PySem.F.slot_tuple_mul ⟨_, ht, rfl⟩ PySem.F.entry_tuple_mul (PySem.F.args_tuple_mul_2 _ _) (tup_mul_2 a vs.toArray m b u hx e1' e2 (by omega) (decide_eq_false (by rw [sizeLine_val]; omega)) ?_) ⟨ht, ?_⟩
        · rw [ef, List.size_toArray, sizeLine_val]
          unfold repL
          rw [PyProof.Rows.lm_len_rep_flat]
          have : b.toNat * vs.length ≤ 10000 * 100 := Nat.mul_le_mul (by omega) (by rw [hl]; exact h1)
          omega
        · rw [ef]
          exact post_tuple (t := s.toks) I (reps_rep ra b.toNat) hq
    | _ => exact (show False from h).elim
  | lst a =>
    cases rw' with
    | int b u =>
      obtain ⟨xs, e, h1, h2, h3, hq⟩ := h
      obtain ⟨vs, _, hp, ra⟩ := I.sto a _ e
      obtain ⟨m, hl⟩ := (hp rfl).1
      have hlen := ra.length
      have hsz : vs.toArray.size * b.toNat ≤ 100 * 10000 := Nat.mul_le_mul (by rw [List.size_toArray, hlen]; exact h1) (by omega)
      refine wpAny_binaryOp_repeat_ref (T := "list") (U := "int") (by decide) ⟨_, hl, rfl⟩ (fun s' => typeIs_int s' b u) noFill_list_mul PySem.F.fills_int_mul PySem.F.slot_int_rmul repeat_list PySem.F.slot_int_index.lookup
        (call_meets PySem.F.slot_int_rmul (typeIs_int s b u) PySem.F.entry_int_rmul (PySem.F.args_int_rmul_2 _ _) (int___rmul___int_list b u a vs.toArray m)
          ⟨hl, rfl, ⟨_, hl, rfl⟩, call_meets PySem.F.slot_list_mul ⟨_, hl, rfl⟩ PySem.F.entry_list_mul (PySem.F.args_list_mul_2 _ _)
            (AutoListH.list___mul___list_int_3 a vs.toArray m b u (by simp [Builtin.List.listFitsIndex]; omega) (by omega) (by simp [Builtin.List.listTooLong, sizeLine]; simp at hsz; omega)) ⟨hl, ?_⟩⟩)
      rw [PyProof.Rows.listMul_foldl_if]
      exact post_list (t := s.toks) I (none_at_size _) (push_keeps _ _) ⟨0, Heap.get?_push_size _ rfl⟩ (reps_rep ra b.toNat) hq
    | _ => exact (show False from h).elim
  | _ => exact (show False from h).elim

theorem s_bin (I : Inv c F σ s) (FO : FmOK c n q F) (CO : CxOK c) {op : Operator} {x y : D} {v w : Value} (rv : Rep s.heap v x) (rw' : Rep s.heap w y) (h : opBin op x y Q σ) :
    wpAny (model c.prog c.w) F.A (binaryOp op v w) (Post c F s.heap Q) E s := by
  cases op with
  | Add => exact s_add I rv rw' h
  | Mult => exact s_mul I rv rw' h
  | Sub => obtain ⟨a, t, b, u, rfl, rfl, h⟩ := inv_intII rv rw' h; exact P.sub_int (post_tok I (.int _ _) h)
  | FloorDiv => obtain ⟨a, t, b, u, rfl, rfl, h⟩ := inv_intII rv rw' h; exact PyProof.Rows.floordiv_int h.1 (post_tok I (.int _ _) h.2) (.inr (FO.room CO I.base))
  | Mod => obtain ⟨a, t, b, u, rfl, rfl, h⟩ := inv_intII rv rw' h; exact PyProof.Rows.mod_int' h.1 (post_tok I (.int _ _) h.2)
  | Pow => obtain ⟨a, t, b, u, rfl, rfl, h⟩ := inv_intII rv rw' h; exact PyProof.Rows.pow_int_small h.1 (by have := h.2.1; omega) h.2.2.1 (post_tok I (.int _ _) h.2.2.2)
  | _ => exact (show False from h).elim
end
end Mine

/-! ## M5 -/
namespace Mine
open PySem PySem.SeqAt

theorem isT_items {h : Heap} {a : Addr} {vs vs' : List Value} {n n' : Nat} (x : IsT h a vs.toArray n) (y : IsT h a vs'.toArray n') : vs = vs' := by
  have : some ({ cls := .type "tuple", dict := none, data := .seq vs.toArray n, slots := #[] } : Obj) = some { cls := .type "tuple", dict := none, data := .seq vs'.toArray n', slots := #[] } := x.symm.trans y
  injection this with this
  injection this with _ _ this _
  injection this with this _
  injection this

theorem none_some {b : Bool} (h : (none : Option Bool) = some b) {P : Prop} : P := by cases h
theorem eqK_inv {fo : Option (D → D → Option Bool)} {x y : D} {b : Bool} (e : eqK fo x y = some b) : (∃ i j, x = .int i ∧ y = .int j ∧ (i == j) = b) ∨ (∃ p q, x = .bool p ∧ y = .bool q ∧ (p == q) = b) ∨ ∃ f as bs, x = .tup as ∧ y = .tup bs ∧ fo = some f ∧ eqL f as bs = some b := by
  cases x with
  | int i => cases y with
    | int j => exact .inl ⟨i, j, rfl, rfl, Option.some.inj e⟩
    | _ => exact none_some e
  | bool p => cases y with
    | bool j => exact .inr (.inl ⟨p, j, rfl, rfl, Option.some.inj e⟩)
    | _ => exact none_some e
  | tup as => cases y with
    | tup bs => cases fo with
      | none => exact none_some e
      | some f => exact .inr (.inr ⟨f, as, bs, rfl, rfl, rfl, e⟩)
    | _ => exact none_some e
  | _ => exact none_some e
theorem eqL_cons {f : D → D → Option Bool} {x y : D} {xs ys : List D} {b : Bool} (e : eqL f (x :: xs) (y :: ys) = some b) : ∃ p q, f x y = some p ∧ eqL f xs ys = some q ∧ (p && q) = b := by
  have e : (match f x y with | some x => (match eqL f xs ys with | some y => some (x && y) | none => none) | none => none) = some b := e
  cases h1 : f x y with
  | none => rw [h1] at e; exact none_some e
  | some p =>
    rw [h1] at e
    cases h2 : eqL f xs ys with
    | none => rw [h2] at e; exact none_some e
    | some q => rw [h2] at e; exact ⟨p, q, rfl, rfl, Option.some.inj e⟩
theorem rep_int {h : Heap} {v : Value} {i : Int} (r : Rep h v (.int i)) : ∃ t, v = .int i t := by
  cases r; exact ⟨_, rfl⟩
theorem rep_tup {h : Heap} {v : Value} {ds : List D} (r : Rep h v (.tup ds)) : ∃ a n vs, v = .ref a ∧ IsT h a (List.toArray vs) n ∧ Reps h vs ds := by
  cases r with | tup ht rs => exact ⟨_, _, _, rfl, ht, rs⟩
theorem same_items {h : Heap} {f : D → D → Option Bool} (ih : ∀ {v : Value} {d d' : D} {b : Bool}, Rep h v d → Rep h v d' → f d d' = some b → b = true) : ∀ (vs : List Value) (ds ds' : List D) (b : Bool), Reps h vs ds → Reps h vs ds' → eqL f ds ds' = some b → b = true
  | [], _, _, b, .nil, .nil, e => (Option.some.inj e).symm
  | v :: vs, _, _, b, .cons x y, .cons x' y', e => by
    obtain ⟨p, q, hp, hq, rfl⟩ := eqL_cons e
    rw [ih x x' hp, same_items ih vs _ _ _ y y' hq]; rfl
theorem Rep.same_eq (h : Heap) : ∀ (k : Nat) {v : Value} {d d' : D} {b : Bool}, Rep h v d → Rep h v d' → eqD k d d' = some b → b = true := by
  intro k
  induction k with
  | zero =>
    intro v d d' b r r' e
    rcases eqK_inv e with ⟨i, j, rfl, rfl, rfl⟩ | ⟨i, j, rfl, rfl, rfl⟩ | ⟨f, as, bs, rfl, rfl, z, e⟩
    · cases r; cases r'; exact beq_self_eq_true _
    · cases r; cases r'; exact beq_self_eq_true _
    · cases z
  | succ k ih =>
    intro v d d' b r r' e
    rcases eqK_inv e with ⟨i, j, rfl, rfl, rfl⟩ | ⟨i, j, rfl, rfl, rfl⟩ | ⟨f, as, bs, rfl, rfl, z, e⟩
    · cases r; cases r'; exact beq_self_eq_true _
    · cases r; cases r'; exact beq_self_eq_true _
    · cases z
      obtain ⟨a, n, vs, rfl, ht, rs⟩ := rep_tup r
      obtain ⟨a', n', vs', e1, ht', rs'⟩ := rep_tup r'
      cases e1
      have e1 := isT_items ht ht'
      subst e1
      exact same_items ih vs as bs b rs rs' e

def eqAtJ (f : D → D → Option Bool) (as bs : List D) (j : Nat) : Bool := match as[j]?, bs[j]? with | some x, some y => (f x y).getD false | _, _ => false

theorem eqL_all (f : D → D → Option Bool) : ∀ (as bs : List D) (b : Bool), eqL f as bs = some b →
    (∀ (j : Nat) x y, as[j]? = some x → bs[j]? = some y → ∃ r, f x y = some r) ∧
    b = ((List.range (min as.length bs.length)).all (eqAtJ f as bs) && as.length == bs.length)
  | [], [], b, e => by simp [eqL] at e; subst e; simp
  | [], y :: ys, b, e => by simp [eqL] at e; subst e; simp
  | x :: xs, [], b, e => by simp [eqL] at e; subst e; simp
  | x :: xs, y :: ys, b, e => by
    obtain ⟨p, q, hp, hq, rfl⟩ := eqL_cons e
    obtain ⟨h1, h2⟩ := eqL_all f xs ys q hq
    refine ⟨fun j x' y' e1 e2 => ?_, ?_⟩
    · cases j with
      | zero => cases e1; cases e2; exact ⟨p, hp⟩
      | succ j => exact h1 j x' y' e1 e2
    · have hm : min (x :: xs).length (y :: ys).length = min xs.length ys.length + 1 := Nat.succ_min_succ ..
      have hf : (eqAtJ f (x :: xs) (y :: ys)) ∘ Nat.succ = eqAtJ f xs ys := rfl
      have h0 : eqAtJ f (x :: xs) (y :: ys) 0 = p := by show (f x y).getD false = p; rw [hp]; rfl
      rw [hm, List.range_succ_eq_map, List.all_cons, List.all_map, hf, h0, h2]
      simp [Bool.and_assoc]

section
variable {s : Shared}
theorem eqItems {k : Nat} {A : Around} {vs vs' : List Value} {ds ds' : List D} {b : Bool} (ih : ∀ {v v' : Value} {d d' : D} {b : Bool}, Rep s.heap v d → Rep s.heap v' d' → eqD k d d' = some b → EqAt A s v v' b)
    (rs : Reps s.heap vs ds) (rs' : Reps s.heap vs' ds') (e : eqL (eqD k) ds ds' = some b) :
    b = ((List.range (min vs.toArray.size vs'.toArray.size)).all (eqAtJ (eqD k) ds ds') && vs.toArray.size == vs'.toArray.size) ∧
    ∀ j (h1 : j < vs.toArray.size) (h2 : j < vs'.toArray.size), EqAt A s vs.toArray[j] vs'.toArray[j] (eqAtJ (eqD k) ds ds' j) := by
  obtain ⟨h1, h2⟩ := eqL_all _ _ _ _ e
  refine ⟨by simpa only [List.size_toArray, rs.length, rs'.length] using h2, fun j j1 j2 => ?_⟩
  simp only [List.size_toArray] at j1 j2
  have k1 : j < ds.length := by rw [← rs.length]; exact j1
  have k2 : j < ds'.length := by rw [← rs'.length]; exact j2
  obtain ⟨v, e1, r1⟩ := rs.get (List.getElem?_eq_getElem k1)
  obtain ⟨v', e2, r2⟩ := rs'.get (List.getElem?_eq_getElem k2)
  obtain ⟨r, hr⟩ := h1 j _ _ (List.getElem?_eq_getElem k1) (List.getElem?_eq_getElem k2)
  have ev : vs.toArray[j] = v := by rw [List.getElem?_eq_getElem j1] at e1; simpa using e1
  have ev' : vs'.toArray[j] = v' := by rw [List.getElem?_eq_getElem j2] at e2; simpa using e2
  have er : eqAtJ (eqD k) ds ds' j = r := by simp [eqAtJ, k1, k2, hr]
  rw [ev, ev', er]
  exact ih r1 r2 hr

theorem eqAt_tup {k : Nat} (ih : ∀ {v v' : Value} {d d' : D} {b : Bool}, Rep s.heap v d → Rep s.heap v' d' → eqD k d d' = some b → ∀ {A : Around}, A.units + k < cLine → EqAt A s v v' b) {A : Around} (hu : A.units + (k + 1) < cLine)
    {a a' : Addr} {n n' : Nat} {vs vs' : List Value} {ds ds' : List D} {b : Bool} (ht : IsT s.heap a vs.toArray n) (rs : Reps s.heap vs ds) (ht' : IsT s.heap a' vs'.toArray n') (rs' : Reps s.heap vs' ds') (e : eqD (k + 1) (.tup ds) (.tup ds') = some b) :
    EqAt A s (.ref a) (.ref a') b := by
  by_cases z : a = a'
  · subst z
    have := Rep.same_eq s.heap (k + 1) (.tup ht rs) (.tup ht' rs') e
    subst this
    exact EqAt.same _
  · have e' : eqL (eqD k) ds ds' = some b := e
    obtain ⟨h1, h2⟩ := eqItems (A := A.in1) (fun r r' q => ih r r' q (by show A.units + 1 + k < cLine; omega)) rs rs' e'
    rw [h1]
    exact EqAt.of_refs z (RcAt.tuples (IsT.tuple ht) (IsT.tuple ht') (by omega) h2)
theorem eqAt : ∀ (k : Nat) {v v' : Value} {d d' : D} {b : Bool}, Rep s.heap v d → Rep s.heap v' d' → eqD k d d' = some b → ∀ {A : Around}, A.units + k < cLine → EqAt A s v v' b := by
  intro k
  induction k with
  | zero =>
    intro v v' d d' b r1 r2 e A hu'
    rcases eqK_inv e with ⟨i, j, rfl, rfl, rfl⟩ | ⟨i, j, rfl, rfl, rfl⟩ | ⟨f, as, bs, rfl, rfl, z, e⟩
    · cases r1; cases r2; exact EqAt.int_int _ _ _ _
    · cases r1; cases r2; exact EqAt.bool_bool _ _
    · cases z
  | succ k ih =>
    intro v v' d d' b r1 r2 e A hu'
    rcases eqK_inv e with ⟨i, j, rfl, rfl, rfl⟩ | ⟨i, j, rfl, rfl, rfl⟩ | ⟨f, as, bs, rfl, rfl, z, e'⟩
    · cases r1; cases r2; exact EqAt.int_int _ _ _ _
    · cases r1; cases r2; exact EqAt.bool_bool _ _
    · obtain ⟨a, n, vs, rfl, ht, rs⟩ := rep_tup r1
      obtain ⟨a', n', vs', rfl, ht', rs'⟩ := rep_tup r2
      exact eqAt_tup ih hu' ht rs ht' rs' e
end
end Mine

/-! ## M6 -/
namespace Mine
open PySem PySem.SeqAt

section
variable {s : Shared}
theorem rcAt {v v' : Value} {d d' : D} {b : Bool} (r1 : Rep s.heap v d) (r2 : Rep s.heap v' d') (e : eqD 50 d d' = some b) {A : Around} (hu : A.units + 60 < cLine) : RcAt A s v v' b ∧ RcNeAt A s v v' (!b) := by
  rcases eqK_inv (fo := some (eqD 49)) e with ⟨i, j, rfl, rfl, rfl⟩ | ⟨i, j, rfl, rfl, rfl⟩ | ⟨f, as, bs, rfl, rfl, z, e'⟩
  · cases r1; cases r2; exact ⟨RcAt.int_int _ _ _ _, RcNeAt.int_int _ _ _ _⟩
  · cases r1; cases r2; exact ⟨RcAt.bool_bool _ _, RcNeAt.bool_bool _ _⟩
  · cases z
    obtain ⟨a, n, vs, rfl, ht, rs⟩ := rep_tup r1
    obtain ⟨a', n', vs', rfl, ht', rs'⟩ := rep_tup r2
    obtain ⟨h1, h2⟩ := eqItems (A := A.in1) (fun r r' q => eqAt 49 r r' q (by show A.units + 1 + 49 < cLine; omega)) rs rs' e'
    rw [h1]
    exact ⟨RcAt.tuples (IsT.tuple ht) (IsT.tuple ht') (by omega) h2, RcNeAt.tuples (IsT.tuple ht) (IsT.tuple ht') (by omega) h2⟩
end

section
variable {c : Cx} {F : Fm} {σ : St} {s : Shared} {n : Nat} {q : Bool} {E : Value → Shared → Prop} {Q : D → St → Prop}

theorem FmOK.u60 (FO : FmOK c n q F) : F.A.units + 60 < cLine := by have := FO.units; show F.A.units + 60 < 9900; omega

theorem lstOf_some {τ : Sto} {a : Addr} {xs : List D} (h : lstOf τ a = some xs) : ∃ o, τ a = some (.list o xs) := by
  unfold lstOf at h
  cases e : τ a with
  | none => rw [e] at h; cases h
  | some k =>
    rw [e] at h
    cases k with
    | list o ys => cases h; exact ⟨o, rfl⟩
    | dict ps => cases h
theorem s_eqLst (I : Inv c F σ s) (FO : FmOK c n q F) {a a' : Addr} {b : Bool} (e : eqTop σ.sto (.lst a) (.lst a') = some b) : RcAt F.A s (.ref a) (.ref a') b ∧ RcNeAt F.A s (.ref a) (.ref a') (!b) := by
  have hu := FO.u60
  have e : (match lstOf σ.sto a with | some xs => (match lstOf σ.sto a' with | some ys => eqL (eqD 50) xs ys | none => none) | none => none) = some b := e
  cases h1 : lstOf σ.sto a with
  | none => rw [h1] at e; exact none_some e
  | some xs =>
    rw [h1] at e
    cases h2 : lstOf σ.sto a' with
    | none => rw [h2] at e; exact none_some e
    | some ys =>
      rw [h2] at e
      obtain ⟨o₁, h1⟩ := lstOf_some h1
      obtain ⟨o₂, h2⟩ := lstOf_some h2
      obtain ⟨vs, hl, _, ra⟩ := I.sto _ _ h1
      obtain ⟨ws, hl', _, rb⟩ := I.sto _ _ h2
      by_cases z : xs.length = ys.length
      · obtain ⟨e1, e2⟩ := eqItems (A := F.A.in1) (fun r r' q => eqAt 50 r r' q (by show F.A.units + 1 + 50 < cLine; omega)) ra rb e
        have hz : vs.toArray.size = ws.toArray.size := by simp only [List.size_toArray, ra.length, rb.length, z]
        have hb : b = (List.range vs.toArray.size).all (eqAtJ (eqD 50) xs ys) := by rw [e1, ← hz]; simp
        rw [hb]
        exact ⟨RcAt.lists hl hl' hz (by omega) e2, RcNeAt.lists hl hl' hz (by omega) e2⟩
      · have hz : (vs.toArray.size != ws.toArray.size) = true := by simp only [List.size_toArray, ra.length, rb.length]; simpa using z
        have hb : b = false := by rw [(eqL_all _ _ _ _ e).2]; simp [z]
        subst hb
        exact ⟨RcAt.lists_lengths hl hl' hz (by omega), RcNeAt.lists_lengths hl hl' hz (by omega)⟩
theorem s_eqTop (I : Inv c F σ s) (FO : FmOK c n q F) {x y : D} {v w : Value} {b : Bool} (rv : Rep s.heap v x) (rw' : Rep s.heap w y) (e : eqTop σ.sto x y = some b) : RcAt F.A s v w b ∧ RcNeAt F.A s v w (!b) := by
  cases x with
  | lst a =>
    cases y with
    | lst a' => cases rv; cases rw'; exact s_eqLst I FO e
    | _ => exact none_some (show eqD 50 (.lst a) _ = some b from e)
  | _ => exact rcAt rv rw' e FO.u60

theorem intII_inv {x y : D} {K : Int → Int → Prop} (h : intII x y K) : ∃ a b, x = .int a ∧ y = .int b ∧ K a b := by
  cases x with
  | int a => cases y with
    | int b => exact ⟨a, b, rfl, rfl, h⟩
    | _ => exact (show False from h).elim
  | _ => exact (show False from h).elim
theorem boolBB_inv {x y : D} {K : Bool → Bool → Prop} (h : boolBB x y K) : ∃ a b, x = .bool a ∧ y = .bool b ∧ K a b := by
  cases x with
  | bool a => cases y with
    | bool b => exact ⟨a, b, rfl, rfl, h⟩
    | _ => exact (show False from h).elim
  | _ => exact (show False from h).elim
theorem boolEq (a b : Bool) : (Value.bool a == Value.bool b) = (a == b) := by cases a <;> cases b <;> rfl
theorem s_cmp (I : Inv c F σ s) (FO : FmOK c n q F) {op : CmpOp} {x y : D} {v w : Value} (rv : Rep s.heap v x) (rw' : Rep s.heap w y) (h : opCmp op x y Q σ) :
    wpAny (model c.prog c.w) F.A (compareOp op v w) (Post c F s.heap Q) E s := by
  cases op with
  | Lt => obtain ⟨a, b, rfl, rfl, h⟩ := intII_inv h; cases rv; cases rw'; exact P.lt_int (post_same I (.bool _) h)
  | LtE => obtain ⟨a, b, rfl, rfl, h⟩ := intII_inv h; cases rv; cases rw'; exact P.le_int (post_same I (.bool _) h)
  | Gt => obtain ⟨a, b, rfl, rfl, h⟩ := intII_inv h; cases rv; cases rw'; exact P.gt_int (post_same I (.bool _) h)
  | GtE => obtain ⟨a, b, rfl, rfl, h⟩ := intII_inv h; cases rv; cases rw'; exact P.ge_int (post_same I (.bool _) h)
  | Eq => obtain ⟨b, e, hq⟩ := h; exact PySem.EqBoolInt.of_rc (s_eqTop I FO rv rw' e).1 (post_same I (.bool _) hq)
  | NotEq => obtain ⟨b, e, hq⟩ := h; exact PySem.EqBoolInt.of_rcne (s_eqTop I FO rv rw' e).2 (post_same I (.bool _) hq)
  | Is =>
    obtain ⟨a, b, rfl, rfl, h⟩ := boolBB_inv h; cases rv; cases rw'
    exact wpAny_pure (a := Value.bool (Value.bool a == Value.bool b)) (by rw [boolEq]; exact post_same I (.bool _) h)
  | IsNot =>
    obtain ⟨a, b, rfl, rfl, h⟩ := boolBB_inv h; cases rv; cases rw'
    exact wpAny_pure (a := Value.bool (!(Value.bool a == Value.bool b))) (by rw [boolEq]; exact post_same I (.bool _) h)
  | _ => exact (show False from h).elim

theorem nth_get {vs : List Value} {ds : List D} {i : Int} {d : D} {h : Heap} (r : Reps h vs ds) (e : nth ds i = some d) : ∃ j v, seqIndex? i vs.length = some j ∧ vs[j]? = some v ∧ Rep h v d ∧ (0 ≤ i → j = i.toNat) ∧ (¬ 0 ≤ i → j = (i + vs.length).toNat ∧ -(vs.length : Int) ≤ i) ∧ j < ds.length := by
  unfold nth at e
  split at e
  · rename_i h0
    obtain ⟨v, e1, e2⟩ := r.get e
    have hlt := (List.getElem?_eq_some_iff.mp e).1
    refine ⟨i.toNat, v, ?_, e1, e2, fun _ => rfl, fun z => absurd h0 z, hlt⟩
    unfold seqIndex?
    rw [← r.length] at hlt
    simp only [show ¬ i < 0 by omega, if_false]
    rw [if_pos (by simp; omega)]
  · rename_i h0
    split at e
    · rename_i h1
      obtain ⟨v, e1, e2⟩ := r.get e
      have hlt := (List.getElem?_eq_some_iff.mp e).1
      have ej : ((ds.length : Int) + i).toNat = (i + vs.length).toNat := by rw [r.length]; congr 1; omega
      rw [ej] at e1 hlt
      refine ⟨(i + vs.length).toNat, v, ?_, e1, e2, fun z => absurd z h0, fun _ => ⟨rfl, by rw [r.length]; exact h1⟩, hlt⟩
      unfold seqIndex?
      rw [← r.length] at hlt h1
      simp only [show i < 0 by omega, if_true]
      rw [if_pos (by simp; omega)]
    · cases e

theorem s_idx (I : Inv c F σ s) {value slice : Expr} {x y : D} {v w : Value} (rv : Rep s.heap v x) (rw' : Rep s.heap w y) (h : opIdx x y Q σ) (hs : ∀ o i, subscripted slice false o i = operate [o, i] (getItem o i)) :
    wpAny (model c.prog c.w) F.A (PyProof.Rows.subscriptTail value slice v w) (Post c F s.heap Q) E s := by
  cases y with
  | int i =>
    cases rw' with | int _ t =>
    cases rv with
    | tup ht ra =>
      obtain ⟨hl, d, e, hq⟩ := h
      obtain ⟨j, v, e1, e2, e3, e4, e5, e6⟩ := nth_get ra e
      have hb : -(2 ^ 63) ≤ i ∧ i < 2 ^ 63 := by
        have := ra.length
        unfold lim at hl
        by_cases z : 0 ≤ i
        · have := e4 z; omega
        · have := e5 z; omega
      exact PyProof.Rows.tail_any ⟨_, ht, rfl⟩ PyProof.Rows.slot_tuple_getitem.lookup (P.getItem_tuple ht hb.1 hb.2 (by simpa using e1) (by simpa using e2) (post_same I e3 hq)) (hs _ _)
    | lst a =>
      obtain ⟨o, ds, es, hl, d, e, hq⟩ := h
      obtain ⟨vs, hls, _, ra⟩ := I.sto _ _ es
      obtain ⟨j, v, e1, e2, e3, e4, e5, e6⟩ := nth_get ra e
      have hlen := ra.length
      unfold lim at hl
      refine PyProof.Rows.tail_any hls.typeIs PySem.list_getitem_lookup ?_ (hs _ _)
      by_cases z : 0 ≤ i
      · have := e4 z
        subst this
        exact wpAny_getItem_list hls z (by omega) (by simpa using e2) (post_same I e3 hq)
      · obtain ⟨z1, z2⟩ := e5 z
        subst z1
        exact wpAny_getItem_list_neg hls (by omega) (by simpa using z2) (by omega) (by simpa using e2) (post_same I e3 hq)
    | _ => exact (show False from h).elim
  | _ => exact (show False from h).elim
end
end Mine

/-! ## M7 -/
namespace Mine
open PySem PySem.SeqAt

section
variable {prog : Program} {w : World} {A : Around} {E : Value → Shared → Prop} {s : Shared}
/-- a store into a plain list: what the heap is behind it -/
theorem setItem_plain {l : Addr} {items : Array Value} {k : Int} {t : Tok} {v : Value} {Q : Unit → Shared → Prop} (hl : s.heap.PlainList l items) (h0 : 0 ≤ k) (hfit : k < 2 ^ 63) (hn : k < items.size)
    (hQ : ∀ h', h'.PlainList l (items.setIfInBounds k.toNat v) → Heap.SameBut l s.heap h' → Q () { s with heap := h' }) : wpAny (model prog w) A (setItem (.ref l) (.int k t) v) Q E s := by
  obtain ⟨ne, ho⟩ := id hl
  have hi := hl.isList
  unfold setItem
  try with_reducible refine wpAny_holding ?_
  first | refine wpAny_bind (wpAny_pure ?_) | skip
  refine wpAny_bind (wpAny_sequenceKey hi.typeIs (by decide) ?_)
  refine wpAny_bind (wpAny_callSpecial?_slot (name := Str.ofString "__setitem__") hi.typeIs slot_list_setitem (wpAny_call_entry slot_list_setitem hi.typeIs entry_list_setitem ?_ (args_list_setitem _ _ _)))
  show wpAny _ _ (Builtin.List.listSubscript? (.int k t) >>= _) _ _ s
  refine wpAny_bind (wpAny_listSubscript_int (fitsIndex_of h0 hfit) ?_)
  clear hfit
  obtain ⟨j, rfl⟩ := Int.eq_ofNat_of_zero_le h0
  have hj : j < items.size := by omega
  have hx' : items[j]? = some items[j] := Array.getElem?_eq_getElem hj
  show wpAny _ _ ((seqItemAt l j >>= fun r => pure (r.map (j, ·))) >>= _) _ _ s
  refine wpAny_bind (wpAny_bind (wpAny_seqItemAt ho rfl (wpAny_pure ?_)))
  rw [hx']
  show wpAny _ _ (setSeqItemAt l j v >>= _) _ _ s
  have hm : Obj.mapSeq (·.setIfInBounds j v) { cls := .type "list", data := .seq items ne } = { cls := .type "list", data := .seq (items.setIfInBounds j v) ne } := by simp [Obj.mapSeq]
  have hfin : (s.heap.update l (Obj.mapSeq (·.setIfInBounds j v))).PlainList l (items.setIfInBounds j v) := ⟨ne, by rw [Heap.get?_update_self _ ho (by rw [hm]; rfl), hm]⟩
  refine wpAny_bind (wpAny_setSeqItemAt ho rfl ?_)
  first
    | exact wpAny_bind (wpAny_pure (wpAny_pure ⟨.none, rfl, wpAny_pure (hQ _ hfin (Heap.SameBut.update ..))⟩))
    | exact wpAny_pure ⟨.none, rfl, wpAny_pure (hQ _ hfin (Heap.SameBut.update ..))⟩
end

section
variable {c : Cx} {F : Fm} {σ : St} {s : Shared} {n : Nat} {q : Bool} {E : Value → Shared → Prop} {Q : D → St → Prop}

/-- a list of this frame's own has turned -/
theorem Inv.relist (I : Inv c F σ s) (FO : FmOK c n q F) {h' : Heap} {t : Nat} {a : Addr} {ds ds' : List D} {vs' : List Value} (e : σ.sto a = some (.list true ds)) (k : Heap.SameBut a s.heap h') (hl : h'.PlainList a vs'.toArray) (r : Reps s.heap vs' ds') :
    Inv c F (σ.put a (.list true ds')) { s with heap := h', toks := t } ∧ Grow s.heap h' := by
  obtain ⟨vs, hls, hp, rs⟩ := I.sto a _ e
  obtain ⟨hp1, hp2⟩ := hp rfl
  obtain ⟨m, ho⟩ := id hp1
  have kk : ∀ b o, b ≠ a → s.heap.get? b = some o → h'.get? b = some o := fun b o nb e => k.extBut b o nb e
  have nB : c.B.get? a = none := by
    cases e' : c.B.get? a with
    | none => rfl
    | some o' => have := FO.bh _ _ e'; rw [hp2] at this; cases this
  have grow : Grow s.heap h' := fun b o' eb st => kk b o' (fun z => by
    rw [z, ho] at eb; cases eb
    rcases st with ⟨xs, m, st, _⟩ | ⟨vs, st⟩
    · simp at st
    · cases st) eb
  have nsk : ∀ {L m}, s.heap.Ns L m → h'.Ns L m := fun {L m} hn => by
    obtain ⟨o, es, ep, ho', hd, r⟩ := id hn
    exact hn.at' fun o' e' => kk L o' (fun z => by rw [z, ho] at ho'; cases ho'; cases hd) e'
  have clk : ∀ {b v}, s.heap.IsCell b v → h'.IsCell b v := fun {b v} ⟨o, ho', hd⟩ => ⟨o, kk b o (fun z => by rw [z, ho] at ho'; cases ho'; cases hd) ho', hd⟩
  refine ⟨⟨I.same.trans ⟨_, _, rfl⟩, fun b o' e => kk b o' (fun z => by rw [z, nB] at e; cases e) (I.base b o' e), I.kept.but hp2 kk, fun env he => ?_, fun j d' e => ?_, fun j l e => ?_, fun b k' e' => ?_⟩, grow⟩
  · obtain ⟨h1, L, m, h2, h3, h4⟩ := I.frames env he
    exact ⟨h1, L, m, h2, h3, nsk h4⟩
  · obtain ⟨l, v, e1, e2, e3⟩ := I.vars j d' e
    refine ⟨l, v, e1, ?_, Rep.grow grow e3⟩
    cases l with
    | ns L x => obtain ⟨m, hn, hv⟩ := e2; exact ⟨m, nsk hn, hv⟩
    | cell b => exact clk e2
  · have p := I.places j l e
    cases l with
    | ns L x => obtain ⟨m, hn⟩ := p; exact ⟨m, nsk hn⟩
    | cell b => obtain ⟨v, hn⟩ := p; exact ⟨v, clk hn⟩
  · by_cases z : b = a
    · subst z
      have e'' : some (Cell.list true ds') = some k' := by simpa [St.put, Sto.put] using e'
      cases e''
      exact ⟨vs', hl.isList, fun _ => ⟨hl, hp2⟩, Reps.grow grow r⟩
    · have p := I.sto b k' (by simpa [St.put, Sto.put, z] using e')
      cases k' with
      | dict ps => exact p
      | list own xs =>
        obtain ⟨ws, h1, h2, h3⟩ := p
        exact ⟨ws, h1.at fun o e => kk b o z e, fun w => ⟨(h2 w).1.at fun o e => kk b o z e, (h2 w).2⟩, Reps.grow grow h3⟩

theorem s_set (I : Inv c F σ s) (FO : FmOK c n q F) {x i d : D} {v w u : Value} {Q : St → Prop} (rv : Rep s.heap v x) (rw' : Rep s.heap w i) (ru : Rep s.heap u d) (h : opSet x i d Q σ) :
    wpAny (model c.prog c.w) F.A (setItem v w u) (fun _ s' => ∃ σ', Grow s.heap s'.heap ∧ Inv c F σ' s' ∧ Q σ') E s := by
  cases x with
  | lst a =>
    cases i with
    | int k =>
    cases rv; cases rw'
    obtain ⟨ds, e, hl, h0, hk, hq⟩ := h
    obtain ⟨vs, hls, hp, rs⟩ := I.sto a _ e
    have hlen := rs.length
    unfold lim at hl
    refine setItem_plain (hp rfl).1 h0 (by omega) (by simp; omega) fun h' hl' hs' => ?_
    obtain ⟨I', g⟩ := I.relist (t := s.toks) FO e hs' (vs' := vs.set k.toNat u) (by simpa using hl') (Reps.set ru rs)
    exact ⟨_, g, I', hq⟩
    | _ => exact (show False from h).elim
  | _ => exact (show False from h).elim

theorem s_append (I : Inv c F σ s) (FO : FmOK c n q F) {a : Addr} {d : D} {u : Value} (ru : Rep s.heap u d) (h : opAppend (.lst a) d Q σ) :
    wpAny (model c.prog c.w) F.A (call (.builtin "list.append") [.ref a, u]) (Post c F s.heap Q) E s := by
  obtain ⟨ds, e, hl, hq⟩ := h
  obtain ⟨vs, hls, hp, rs⟩ := I.sto a _ e
  have hlen := rs.length
  unfold lim at hl
  refine wpAny_list_append_plain (hp rfl).1 (fun h' hl' hs' => ?_) (by rw [List.size_toArray, sizeLine_val]; omega)
  obtain ⟨I', g⟩ := I.relist (t := s.toks) FO e hs' (vs' := vs ++ [u]) (by simpa using hl') (Reps.append rs (.cons ru .nil))
  exact ⟨.none, _, g, I', .none, hq⟩

theorem s_truth {d : D} {v : Value} {Q : Bool → St → Prop} (I : Inv c F σ s) (rv : Rep s.heap v d) (h : wTruth d Q σ) :
    wpAny (model c.prog c.w) F.A (truthy v) (fun b s' => ∃ σ', Grow s.heap s'.heap ∧ Inv c F σ' s' ∧ Q b σ') E s := by
  obtain ⟨b, e, hq⟩ := h
  cases rv <;> simp [truth] at e
  · subst e; exact wpAny_pure ⟨σ, Grow.refl _, I, hq⟩
  · subst e; exact wpAny_truthy_bool ⟨σ, Grow.refl _, I, hq⟩
  · subst e; exact P.truthy_int ⟨σ, Grow.refl _, I, hq⟩

theorem slicePick_cut (vs : List Value) (lo hi : Option Int) : slicePick vs.toArray lo hi none = (cutL vs lo hi).toArray := by
  have hb : sliceBounds lo hi none vs.length = (((cutAt vs.length 0 lo : Nat) : Int), ((cutAt vs.length vs.length hi : Nat) : Int), 1) := by
    simp only [sliceBounds, Option.getD_none, show (1 : Int) > 0 by decide, if_true]
    congr 1
    · cases lo with
      | none => rfl
      | some i => simp only [cutAt]; split <;> split <;> omega
    · congr 1
      cases hi with
      | none => rfl
      | some i => simp only [cutAt]; split <;> split <;> omega
  unfold slicePick
  rw [List.size_toArray, hb]
  simp only [sliceRange_one, pick_run]
  congr 1
  unfold cutL
  rw [List.drop_take]
end
end Mine

/-! ## M8 -/
namespace Mine
open PySem PySem.SeqAt

def Blt.name : Blt → String
  | .len => "len" | .abs => "abs" | .max => "max" | .min => "min" | .int => "int" | .list => "list" | .tuple => "tuple" | .sum => "sum"
def Blt.val : Blt → Value
  | .len => .builtin "len" | .abs => .builtin "abs" | .max => .builtin "max" | .min => .builtin "min" | .int => .type "int" | .list => .type "list" | .tuple => .type "tuple" | .sum => .builtin "sum"
theorem Blt.boot (f : Blt) : bootBuiltins (Str.ofString f.name) = some f.val := by
  cases f
  · exact PyProof.Rows.Boot.«len»
  · exact PyProof.Rows.Boot.«abs»
  · exact PyProof.Rows.Boot.«max»
  · exact PyProof.Rows.Boot.«min»
  · exact PyProof.Rows.Boot.«int»
  · exact PyProof.Rows.Boot.«list»
  · exact PyProof.Rows.Boot.«tuple»
  · exact PyProof.Rows.Boot.«sum»

section
variable {c : Cx} {F : Fm} {σ : St} {s : Shared} {n : Nat} {E : Value → Shared → Prop} {Q : D → St → Prop}

theorem inv_one1 {h : Heap} {vs : List Value} {ds : List D} {K : D → Prop} (rs : Reps h vs ds) (k : one1 ds K) : ∃ v d, vs = [v] ∧ Rep h v d ∧ K d := by
  cases rs with
  | nil => exact (show False from k).elim
  | cons r rs =>
    cases rs with
    | nil => exact ⟨_, _, rfl, r, k⟩
    | cons _ _ => exact (show False from k).elim
theorem inv_two2 {h : Heap} {vs : List Value} {ds : List D} {K : D → D → Prop} (rs : Reps h vs ds) (k : two2 ds K) : ∃ v w x y, vs = [v, w] ∧ Rep h v x ∧ Rep h w y ∧ K x y := by
  cases rs with
  | nil => exact (show False from k).elim
  | cons r rs =>
    obtain ⟨w, y, rfl, r', k⟩ := inv_one1 rs k
    exact ⟨_, _, _, _, rfl, r, r', k⟩

theorem s_len (I : Inv c F σ s) {d : D} {v : Value} (r : Rep s.heap v d) (h : bLen d Q σ) : wpAny (model c.prog c.w) F.A (call Blt.len.val [v]) (Post c F s.heap Q) E s := by
  cases r with
  | tup ht ra =>
    obtain ⟨hl, hq⟩ := h
    unfold lim at hl
    have hlen := ra.length
    refine P.len_tuple ht (by simp only [List.size_toArray]; omega) ?_
    simp only [List.size_toArray, hlen]
    exact post_tok I (.int _ _) hq
  | lst a =>
    obtain ⟨o, xs, e, hl, hq⟩ := h
    obtain ⟨vs, hls, _, ra⟩ := I.sto _ _ e
    unfold lim at hl
    have hlen := ra.length
    refine Calls.call_len_list hls (by simp only [List.size_toArray]; omega) ?_
    simp only [List.size_toArray, hlen]
    exact post_tok I (.int _ _) hq
  | _ => exact (show False from h).elim
theorem s_list (I : Inv c F σ s) {d : D} {v : Value} (r : Rep s.heap v d) (h : bList d Q σ) : wpAny (model c.prog c.w) F.A (call Blt.list.val [v]) (Post c F s.heap Q) E s := by
  cases r with
  | tup ht ra =>
    obtain ⟨hl, hq⟩ := h
    unfold lim at hl
    have hlen := ra.length
    exact call_list_seq _ (.inr rfl) ht rfl rfl (fun h' c' k hD => post_list (t := s.toks) I (none_at_size _) k ⟨c', hD⟩ ra hq) (by rw [List.size_toArray, sizeLine_val]; omega)
  | lst a =>
    obtain ⟨o, xs, e, hl, hq⟩ := h
    obtain ⟨vs, ⟨ob, ho, hc, m, hd⟩, _, ra⟩ := I.sto _ _ e
    unfold lim at hl
    have hlen := ra.length
    exact call_list_seq _ (.inl rfl) ho hc hd (fun h' c' k hD => post_list (t := s.toks) I (none_at_size _) k ⟨c', hD⟩ ra hq) (by rw [List.size_toArray, sizeLine_val]; omega)
  | _ => exact (show False from h).elim
theorem s_tuple (I : Inv c F σ s) {d : D} {v : Value} (r : Rep s.heap v d) (h : bTuple d Q σ) : wpAny (model c.prog c.w) F.A (call Blt.tuple.val [v]) (Post c F s.heap Q) E s := by
  cases r with
  | tup ht ra => exact call_tuple_same (IsT.tuple ht) (post_same I (.tup ht ra) h)
  | lst a =>
    obtain ⟨o, xs, e, hl, hq⟩ := h
    obtain ⟨vs, hls, _, ra⟩ := I.sto _ _ e
    unfold lim at hl
    have hlen := ra.length
    refine call_tuple_list hls (fun h' k => ?_) (by rw [List.size_toArray, sizeLine_val]; omega)
    have k' : ∀ b o, s.heap.get? b = some o → (h'.push { cls := .type "tuple", data := .seq vs.toArray }).get? b = some o := fun b o e => Heap.get?_push_of_some _ (k b o e)
    exact post_keeps (t := s.toks) I k' (.tup (IsT.new h' vs.toArray) (Reps.grow (grow_of_keeps k') ra)) hq
  | _ => exact (show False from h).elim
theorem s_blt (I : Inv c F σ s) (FO : FmOK c n true F) {f : Blt} {ds : List D} {vs : List Value} (rs : Reps s.heap vs ds) (h : opBlt f ds Q σ) :
    wpAny (model c.prog c.w) F.A (call f.val vs) (Post c F s.heap Q) E s := by
  have hh := FO.handled rfl
  cases f with
  | len => obtain ⟨v, d, rfl, r, h⟩ := inv_one1 rs h; exact s_len I r h
  | list => obtain ⟨v, d, rfl, r, h⟩ := inv_one1 rs h; exact s_list I r h
  | tuple => obtain ⟨v, d, rfl, r, h⟩ := inv_one1 rs h; exact s_tuple I r h
  | sum => exact (show False from h).elim
  | abs =>
    obtain ⟨v, d, rfl, r, h⟩ := inv_one1 rs h
    cases r with
    | int i t =>
      refine PyProof.Rows.call_abs_int fun u tk => ?_
      have e : (if i < 0 then -i else i) = (i.natAbs : Int) := by split <;> omega
      rw [e]
      exact post_tok I (.int _ _) h
    | _ => exact (show False from h).elim
  | int =>
    obtain ⟨v, d, rfl, r, h⟩ := inv_one1 rs h
    cases r with
    | bool b => exact call_int_bool (post_tok I (.int _ _) h)
    | _ => exact (show False from h).elim
  | max =>
    obtain ⟨v, w, x, y, rfl, r, r', h⟩ := inv_two2 rs h
    obtain ⟨a, t, b, u, rfl, rfl, h⟩ := inv_intII r r' h
    refine max_two_ints hh fun h' tk k => ?_
    have e : max a b = if b > a then b else a := by split <;> omega
    rw [e] at h
    split
    · rename_i z; rw [if_pos z] at h; exact post_keeps I k (.int _ _) h
    · rename_i z; rw [if_neg z] at h; exact post_keeps I k (.int _ _) h
  | min =>
    obtain ⟨v, w, x, y, rfl, r, r', h⟩ := inv_two2 rs h
    obtain ⟨a, t, b, u, rfl, rfl, h⟩ := inv_intII r r' h
    refine min_two_ints hh fun h' tk k => ?_
    have e : min a b = if b < a then b else a := by split <;> omega
    rw [e] at h
    split
    · rename_i z; rw [if_pos z] at h; exact post_keeps I k (.int _ _) h
    · rename_i z; rw [if_neg z] at h; exact post_keeps I k (.int _ _) h

end
end Mine

/-! ## M9 -/
namespace Mine
open PySem PySem.SeqAt

section
variable {prog : Program} {w : World} {A : Around} {E : Value → Shared → Prop} {s : Shared}
theorem isa_none_int {Q : Value → Shared → Prop} (h : Q (.bool false) { s with toks := s.toks + 1 }) : wpAny (model prog w) A (call (.builtin "isinstance") [.none, .type "int"]) Q E s :=
  call_isinstance (isinstance_false_none (by decide +kernel) (by kernel_rfl) (by rw [isSubtype_type]; kernel_rfl)) h
theorem isa_bool_int {b : Bool} {Q : Value → Shared → Prop} (h : Q (.bool true) s) : wpAny (model prog w) A (call (.builtin "isinstance") [(.bool b), .type "int"]) Q E s :=
  call_isinstance (isinstance_true (Tx := "bool") (by kernel_rfl) (by rw [isSubtype_type]; kernel_rfl)) ⟨(typeIs_bool s b), h⟩
theorem isa_int_int {i : Int} {t : Tok} {Q : Value → Shared → Prop} (h : Q (.bool true) s) : wpAny (model prog w) A (call (.builtin "isinstance") [(.int i t), .type "int"]) Q E s :=
  call_isinstance (isinstance_true (Tx := "int") (by kernel_rfl) (by rw [isSubtype_type]; kernel_rfl)) ⟨(typeIs_int s i t), h⟩
theorem isa_str_int {x : Str} {t : Tok} {Q : Value → Shared → Prop} (h : Q (.bool false) { s with toks := s.toks + 1 }) : wpAny (model prog w) A (call (.builtin "isinstance") [(.str x t), .type "int"]) Q E s :=
  call_isinstance (isinstance_false_str (by decide +kernel) (by kernel_rfl) (by rw [isSubtype_type]; kernel_rfl)) h
theorem isa_tup_int {a : Addr} {o : Obj} (ho : s.heap.get? a = some o) (hc : o.cls = .type "tuple") {Q : Value → Shared → Prop} (h : Q (.bool false) { s with toks := s.toks + 1 }) : wpAny (model prog w) A (call (.builtin "isinstance") [(.ref a), .type "int"]) Q E s :=
  call_isinstance (isinstance_false_tuple (by decide +kernel) (by kernel_rfl) (by rw [isSubtype_type]; kernel_rfl)) ⟨⟨o, ho, hc⟩, h⟩
theorem isa_lst_int {a : Addr} {o : Obj} (ho : s.heap.get? a = some o) (hc : o.cls = .type "list") {Q : Value → Shared → Prop} (h : Q (.bool false) { s with toks := s.toks + 1 }) : wpAny (model prog w) A (call (.builtin "isinstance") [(.ref a), .type "int"]) Q E s :=
  call_isinstance (isinstance_false_list (by decide +kernel) (by kernel_rfl) (by rw [isSubtype_type]; kernel_rfl)) ⟨⟨o, ho, hc⟩, h⟩
theorem isa_none_bool {Q : Value → Shared → Prop} (h : Q (.bool false) { s with toks := s.toks + 1 }) : wpAny (model prog w) A (call (.builtin "isinstance") [.none, .type "bool"]) Q E s :=
  call_isinstance (isinstance_false_none (by decide +kernel) (by kernel_rfl) (by rw [isSubtype_type]; kernel_rfl)) h
theorem isa_bool_bool {b : Bool} {Q : Value → Shared → Prop} (h : Q (.bool true) s) : wpAny (model prog w) A (call (.builtin "isinstance") [(.bool b), .type "bool"]) Q E s :=
  call_isinstance (isinstance_true (Tx := "bool") (by kernel_rfl) (by rw [isSubtype_type]; kernel_rfl)) ⟨(typeIs_bool s b), h⟩
theorem isa_int_bool {i : Int} {t : Tok} {Q : Value → Shared → Prop} (h : Q (.bool false) { s with toks := s.toks + 1 }) : wpAny (model prog w) A (call (.builtin "isinstance") [(.int i t), .type "bool"]) Q E s :=
  call_isinstance (isinstance_false_int (by decide +kernel) (by kernel_rfl) (by rw [isSubtype_type]; kernel_rfl)) h
theorem isa_str_bool {x : Str} {t : Tok} {Q : Value → Shared → Prop} (h : Q (.bool false) { s with toks := s.toks + 1 }) : wpAny (model prog w) A (call (.builtin "isinstance") [(.str x t), .type "bool"]) Q E s :=
  call_isinstance (isinstance_false_str (by decide +kernel) (by kernel_rfl) (by rw [isSubtype_type]; kernel_rfl)) h
theorem isa_tup_bool {a : Addr} {o : Obj} (ho : s.heap.get? a = some o) (hc : o.cls = .type "tuple") {Q : Value → Shared → Prop} (h : Q (.bool false) { s with toks := s.toks + 1 }) : wpAny (model prog w) A (call (.builtin "isinstance") [(.ref a), .type "bool"]) Q E s :=
  call_isinstance (isinstance_false_tuple (by decide +kernel) (by kernel_rfl) (by rw [isSubtype_type]; kernel_rfl)) ⟨⟨o, ho, hc⟩, h⟩
theorem isa_lst_bool {a : Addr} {o : Obj} (ho : s.heap.get? a = some o) (hc : o.cls = .type "list") {Q : Value → Shared → Prop} (h : Q (.bool false) { s with toks := s.toks + 1 }) : wpAny (model prog w) A (call (.builtin "isinstance") [(.ref a), .type "bool"]) Q E s :=
  call_isinstance (isinstance_false_list (by decide +kernel) (by kernel_rfl) (by rw [isSubtype_type]; kernel_rfl)) ⟨⟨o, ho, hc⟩, h⟩
theorem isa_none_tuple {Q : Value → Shared → Prop} (h : Q (.bool false) { s with toks := s.toks + 1 }) : wpAny (model prog w) A (call (.builtin "isinstance") [.none, .type "tuple"]) Q E s :=
  call_isinstance (isinstance_false_none (by decide +kernel) (by kernel_rfl) (by rw [isSubtype_type]; kernel_rfl)) h
theorem isa_bool_tuple {b : Bool} {Q : Value → Shared → Prop} (h : Q (.bool false) { s with toks := s.toks + 1 }) : wpAny (model prog w) A (call (.builtin "isinstance") [(.bool b), .type "tuple"]) Q E s :=
  call_isinstance (isinstance_false_bool (by decide +kernel) (by kernel_rfl) (by rw [isSubtype_type]; kernel_rfl)) h
theorem isa_int_tuple {i : Int} {t : Tok} {Q : Value → Shared → Prop} (h : Q (.bool false) { s with toks := s.toks + 1 }) : wpAny (model prog w) A (call (.builtin "isinstance") [(.int i t), .type "tuple"]) Q E s :=
  call_isinstance (isinstance_false_int (by decide +kernel) (by kernel_rfl) (by rw [isSubtype_type]; kernel_rfl)) h
theorem isa_str_tuple {x : Str} {t : Tok} {Q : Value → Shared → Prop} (h : Q (.bool false) { s with toks := s.toks + 1 }) : wpAny (model prog w) A (call (.builtin "isinstance") [(.str x t), .type "tuple"]) Q E s :=
  call_isinstance (isinstance_false_str (by decide +kernel) (by kernel_rfl) (by rw [isSubtype_type]; kernel_rfl)) h
theorem isa_tup_tuple {a : Addr} {o : Obj} (ho : s.heap.get? a = some o) (hc : o.cls = .type "tuple") {Q : Value → Shared → Prop} (h : Q (.bool true) s) : wpAny (model prog w) A (call (.builtin "isinstance") [(.ref a), .type "tuple"]) Q E s :=
  call_isinstance (isinstance_true (Tx := "tuple") (by kernel_rfl) (by rw [isSubtype_type]; kernel_rfl)) ⟨⟨o, ho, hc⟩, h⟩
theorem isa_lst_tuple {a : Addr} {o : Obj} (ho : s.heap.get? a = some o) (hc : o.cls = .type "list") {Q : Value → Shared → Prop} (h : Q (.bool false) { s with toks := s.toks + 1 }) : wpAny (model prog w) A (call (.builtin "isinstance") [(.ref a), .type "tuple"]) Q E s :=
  call_isinstance (isinstance_false_list (by decide +kernel) (by kernel_rfl) (by rw [isSubtype_type]; kernel_rfl)) ⟨⟨o, ho, hc⟩, h⟩
theorem isa_none_list {Q : Value → Shared → Prop} (h : Q (.bool false) { s with toks := s.toks + 1 }) : wpAny (model prog w) A (call (.builtin "isinstance") [.none, .type "list"]) Q E s :=
  call_isinstance (isinstance_false_none (by decide +kernel) (by kernel_rfl) (by rw [isSubtype_type]; kernel_rfl)) h
theorem isa_bool_list {b : Bool} {Q : Value → Shared → Prop} (h : Q (.bool false) { s with toks := s.toks + 1 }) : wpAny (model prog w) A (call (.builtin "isinstance") [(.bool b), .type "list"]) Q E s :=
  call_isinstance (isinstance_false_bool (by decide +kernel) (by kernel_rfl) (by rw [isSubtype_type]; kernel_rfl)) h
theorem isa_int_list {i : Int} {t : Tok} {Q : Value → Shared → Prop} (h : Q (.bool false) { s with toks := s.toks + 1 }) : wpAny (model prog w) A (call (.builtin "isinstance") [(.int i t), .type "list"]) Q E s :=
  call_isinstance (isinstance_false_int (by decide +kernel) (by kernel_rfl) (by rw [isSubtype_type]; kernel_rfl)) h
theorem isa_str_list {x : Str} {t : Tok} {Q : Value → Shared → Prop} (h : Q (.bool false) { s with toks := s.toks + 1 }) : wpAny (model prog w) A (call (.builtin "isinstance") [(.str x t), .type "list"]) Q E s :=
  call_isinstance (isinstance_false_str (by decide +kernel) (by kernel_rfl) (by rw [isSubtype_type]; kernel_rfl)) h
theorem isa_tup_list {a : Addr} {o : Obj} (ho : s.heap.get? a = some o) (hc : o.cls = .type "tuple") {Q : Value → Shared → Prop} (h : Q (.bool false) { s with toks := s.toks + 1 }) : wpAny (model prog w) A (call (.builtin "isinstance") [(.ref a), .type "list"]) Q E s :=
  call_isinstance (isinstance_false_tuple (by decide +kernel) (by kernel_rfl) (by rw [isSubtype_type]; kernel_rfl)) ⟨⟨o, ho, hc⟩, h⟩
theorem isa_lst_list {a : Addr} {o : Obj} (ho : s.heap.get? a = some o) (hc : o.cls = .type "list") {Q : Value → Shared → Prop} (h : Q (.bool true) s) : wpAny (model prog w) A (call (.builtin "isinstance") [(.ref a), .type "list"]) Q E s :=
  call_isinstance (isinstance_true (Tx := "list") (by kernel_rfl) (by rw [isSubtype_type]; kernel_rfl)) ⟨⟨o, ho, hc⟩, h⟩
end

def Ty.name : Ty → Str
  | .int => Str.ofString "int" | .bool => Str.ofString "bool" | .tuple => Str.ofString "tuple" | .list => Str.ofString "list" | .valueError => Str.ofString "ValueError" | .own k => k

/-- what isinstance must meet of the text's own exceptions -/
structure ExcOK (c : Cx) : Prop where
  isaOwn : ∀ {e k : Str} {Ce Ck a : Addr} {o : Obj} {A : Around} {E : Value → Shared → Prop} {s : Shared} {Q : Value → Shared → Prop}, c.ie = true → c.cls e = some Ce → c.cls k = some Ck → c.B.StaysIn s.heap → s.heap.get? a = some o → o.cls = .ref Ce →
    (∀ t, Q (.bool (c.sub e k)) { s with toks := t }) → wpAny (model c.prog c.w) A (call (.builtin "isinstance") [.ref a, .ref Ck]) Q E s
  isaVE : ∀ {e : Str} {Ce a : Addr} {o : Obj} {A : Around} {E : Value → Shared → Prop} {s : Shared} {Q : Value → Shared → Prop}, c.ie = true → c.cls e = some Ce → c.B.StaysIn s.heap → s.heap.get? a = some o → o.cls = .ref Ce →
    (∀ t, Q (.bool true) { s with toks := t }) → wpAny (model c.prog c.w) A (call (.builtin "isinstance") [.ref a, .type "ValueError"]) Q E s

def Ty.val (c : Cx) : Ty → Option Value
  | .int => some (.type "int") | .bool => some (.type "bool") | .tuple => some (.type "tuple") | .list => some (.type "list") | .valueError => some (.type "ValueError") | .own k => (c.cls k).map Value.ref

section
variable {c : Cx} {F : Fm} {σ : St} {s : Shared} {n : Nat} {q : Bool} {E : Value → Shared → Prop} {Q : D → St → Prop}
theorem s_isa (I : Inv c F σ s) (EO : ExcOK c) {d : D} {t : Ty} {v w : Value} (rv : Rep s.heap v d) (ht : t.val c = some w) (h : opIsa c d t Q σ) :
    wpAny (model c.prog c.w) F.A (call (.builtin "isinstance") [v, w]) (Post c F s.heap Q) E s := by
  have lst : ∀ {a k}, σ.sto a = some k → ∃ o, s.heap.get? a = some o ∧ o.cls = .type "list" := fun {a k} e => by
    have p := I.sto a k e
    cases k with
    | list own ds => obtain ⟨vs, ⟨o, h1, h2, _⟩, _⟩ := p; exact ⟨o, h1, h2⟩
    | dict ps => exact p.elim
  cases t with
  | own k =>
    cases rv with
    | exc h1 h2 h3 =>
      obtain ⟨ei, e1, ⟨Ck, e2⟩, hq⟩ := h
      have ht : (c.cls k).map Value.ref = some w := ht
      rw [e2] at ht
      cases ht
      exact EO.isaOwn ei e1 e2 I.base h1 h2 fun t => post_tok I (.bool _) hq
    | _ => exact h.1.elim
  | valueError =>
    cases ht
    cases rv with
    | exc h1 h2 h3 =>
      obtain ⟨ei, e1, hq⟩ := h
      exact EO.isaVE ei e1 I.base h1 h2 fun t => post_tok I (.bool _) hq
    | _ => exact h.1.elim
  | int =>
    cases ht
    cases rv with
    | none => exact isa_none_int (post_tok I (.bool _) h.2)
    | bool b => exact isa_bool_int (post_same I (.bool _) h.2)
    | int i t => exact isa_int_int (post_same I (.bool _) h.2)
    | str x t => exact isa_str_int (post_tok I (.bool _) h.2)
    | tup ht ra => exact isa_tup_int ht rfl (post_tok I (.bool _) h.2)
    | lst a => obtain ⟨_, k, e, hq⟩ := h; obtain ⟨o, h1, h2⟩ := lst e; exact isa_lst_int h1 h2 (post_tok I (.bool _) hq)
    | exc => exact (show False from h).elim
  | bool =>
    cases ht
    cases rv with
    | none => exact isa_none_bool (post_tok I (.bool _) h.2)
    | bool b => exact isa_bool_bool (post_same I (.bool _) h.2)
    | int i t => exact isa_int_bool (post_tok I (.bool _) h.2)
    | str x t => exact isa_str_bool (post_tok I (.bool _) h.2)
    | tup ht ra => exact isa_tup_bool ht rfl (post_tok I (.bool _) h.2)
    | lst a => obtain ⟨_, k, e, hq⟩ := h; obtain ⟨o, h1, h2⟩ := lst e; exact isa_lst_bool h1 h2 (post_tok I (.bool _) hq)
    | exc => exact (show False from h).elim
  | tuple =>
    cases ht
    cases rv with
    | none => exact isa_none_tuple (post_tok I (.bool _) h.2)
    | bool b => exact isa_bool_tuple (post_tok I (.bool _) h.2)
    | int i t => exact isa_int_tuple (post_tok I (.bool _) h.2)
    | str x t => exact isa_str_tuple (post_tok I (.bool _) h.2)
    | tup ht ra => exact isa_tup_tuple ht rfl (post_same I (.bool _) h.2)
    | lst a => obtain ⟨_, k, e, hq⟩ := h; obtain ⟨o, h1, h2⟩ := lst e; exact isa_lst_tuple h1 h2 (post_tok I (.bool _) hq)
    | exc => exact (show False from h).elim
  | list =>
    cases ht
    cases rv with
    | none => exact isa_none_list (post_tok I (.bool _) h.2)
    | bool b => exact isa_bool_list (post_tok I (.bool _) h.2)
    | int i t => exact isa_int_list (post_tok I (.bool _) h.2)
    | str x t => exact isa_str_list (post_tok I (.bool _) h.2)
    | tup ht ra => exact isa_tup_list ht rfl (post_tok I (.bool _) h.2)
    | lst a => obtain ⟨_, k, e, hq⟩ := h; obtain ⟨o, h1, h2⟩ := lst e; exact isa_lst_list h1 h2 (post_same I (.bool _) hq)
    | exc => exact (show False from h).elim
end
end Mine

/-! ## M10 -/
namespace Mine
open PySem PySem.SeqAt

def notDebug (x : Str) : Bool := !(x == ("__debug__" : Str))
def isGl (K : Str → Option NameKind) (x : Str) : Bool := (K x == some .globalImplicit) && notDebug x && !(x == ("__name__" : Str))
def emptyS : Str := Str.ofString ""

/-! the parts of a text's expression, by place -/
def genKids : List Comprehension → List Expr
  | [] => []
  | g :: _ => [g.target, g.iter]
def kids (x : Expr) : List Expr := match x with
  | .BoolOp _ vs _ => vs
  | .BinOp l _ r _ => [l, r]
  | .UnaryOp _ y _ => [y]
  | .Compare l _ rs _ => l :: rs
  | .Call f as _ _ => f :: as
  | .Attribute v _ _ => [v]
  | .Subscript v s _ => [v, s]
  | .List xs _ => xs
  | .Tuple xs _ _ => xs
  | .Slice l u _ _ => [l.getD default, u.getD default]
  | .ListComp e gs _ _ => e :: genKids gs
  | _ => []
def kid (x : Expr) (i : Nat) : Expr := (kids x).getD i default
def kOf (x : Expr) : Nat := match x with
  | .Constant _ k _ => k
  | .Tuple _ k _ => k
  | _ => 0
def scOf (x : Expr) : Scope := match x with
  | .ListComp _ _ sc _ => sc
  | _ => default

/-- how names are read: kinds, places, the variables' names -/
structure Vw where
  K : Str → Option NameKind
  ns : Nat → Option Str
  nL : Nat → Str
  us : Nat → Bool
def relK (K : Str → Option NameKind) (names : List (Str × NameKind)) (x : Str) : Option NameKind :=
  (names.map fun (n, k) => if (k == .free && K n == some .cell) then (n, NameKind.cell) else (n, k)).lookup x
/-- within a comprehension -/
def Vw.comp (V : Vw) (xs : List (Nat × Str)) (sc : Scope) : Vw where
  K := relK V.K sc.names
  ns := fun i => if (xs.map (·.1)).contains i then some ((xs.lookup i).getD (V.nL i)) else match V.ns i with
    | some x => if relK V.K sc.names x == some .cell then some x else none
    | none => none
  nL := fun i => (xs.lookup i).getD (V.nL i)
  us := fun i => V.us i || (xs.map (·.1)).contains i
def namesX : List Str → List Expr → List Expr
  | [], _ => []
  | s :: ss, xs => .Name s (xs.headD default).pos :: namesX ss xs.tail
/-- a target: a name, or a tuple of names -/
def tgt (one : Bool) (ss : List Str) (x : Expr) : Expr := match one with
  | true => .Name (ss.headD emptyS) x.pos
  | false => .Tuple (namesX ss (kids x)) (kOf x) x.pos
def rangeS : Str := Str.ofString "range"
def zipS : Str := Str.ofString "zip"
def likeIt (k : ItK) (ys : List Expr) (x : Expr) : Expr := match k with
  | .plain => ys.headD default
  | .range => .Call (.Name rangeS (kid x 0).pos) ys [] x.pos
  | .zip => .Call (.Name zipS (kid x 0).pos) ys [] x.pos
def itArgs (k : ItK) (x : Expr) : List Expr := match k with
  | .plain => [x]
  | _ => (kids x).tail
def endAt (p : Pos) (l : Nat) : Pos := ⟨p.line, p.col, l, p.endCol⟩
def isaS : Str := Str.ofString "isinstance"
def appendS : Str := Str.ofString "append"

mutual
/-- this expression, told in the text's language, with the places of x -/
def like : E → Vw → Expr → Expr
  | .cnone, V, x => .Constant .none (kOf x) x.pos
  | .cbool b, V, x => .Constant (.bool b) (kOf x) x.pos
  | .cint i, V, x => .Constant (.int i) (kOf x) x.pos
  | .cstr s, V, x => .Constant (.str s) (kOf x) x.pos
  | .var i, V, x => .Name (V.nL i) x.pos
  | .glob g, V, x => .Name g x.pos
  | .bin op a b, V, x => .BinOp (like a V (kid x 0)) op (like b V (kid x 1)) x.pos
  | .neg a, V, x => .UnaryOp .USub (like a V (kid x 0)) x.pos
  | .not a, V, x => .UnaryOp .Not (like a V (kid x 0)) x.pos
  | .cmp op a b, V, x => .Compare (like a V (kid x 0)) [op] [like b V (kid x 1)] x.pos
  | .bool op es, V, x => .BoolOp op (likes es V (kids x)) x.pos
  | .call f es, V, x => .Call (.Name f (kid x 0).pos) (likes es V (kids x).tail) [] x.pos
  | .blt f es, V, x => .Call (.Name (Str.ofString f.name) (kid x 0).pos) (likes es V (kids x).tail) [] x.pos
  | .isa a t, V, x => .Call (.Name isaS (kid x 0).pos) [like a V (kid x 1), .Name t.name (kid x 2).pos] [] x.pos
  | .idx a i, V, x => .Subscript (like a V (kid x 0)) (like i V (kid x 1)) x.pos
  | .slice a lo hi, V, x => .Subscript (like a V (kid x 0)) (.Slice (likeO lo V (kid (kid x 1) 0)) (likeO hi V (kid (kid x 1) 1)) none (kid x 1).pos) x.pos
  | .tup es, V, x => .Tuple (likes es V (kids x)) (kOf x) x.pos
  | .lst es, V, x => .List (likes es V (kids x)) x.pos
  | .comp elt xs k es, V, x => .ListComp (like elt (V.comp xs (scOf x)) (kid x 0)) [⟨tgt (xs.length == 1) ((xs.map (·.1)).map (V.comp xs (scOf x)).nL) (kid x 1), likeIt k (likes es V (itArgs k (kid x 2))) (kid x 2), [], 0⟩] (scOf x) x.pos
  | .append o a, V, x => .Call (.Attribute (like o V (kid (kid x 0) 0)) appendS (endAt (kid x 0).pos x.pos.line)) [like a V (kid x 1)] [] x.pos
def likes : List E → Vw → List Expr → List Expr
  | [], V, xs => []
  | e :: es, V, xs => like e V (xs.headD default) :: likes es V xs.tail
def likeO : Option E → Vw → Expr → Option Expr
  | none, V, x => none
  | some e, V, x => some (like e V x)
end

def okScope (V : Vw) (sc : Scope) : Bool :=
  sc.kind == .function && sc.names.all (fun p => !(p.2 == .cell) && (!(p.2 == .local) || sc.names.lookup p.1 == some .local) && (!(p.2 == .free) || (V.K p.1 == some .cell)))
def okComp (V : Vw) (xs : List (Nat × Str)) (sc : Scope) (is : List Nat) (V' : Vw) : Bool :=
  okScope V sc && is.all (fun i => V'.K (V'.nL i) == some .local && V.us i == false) && is.all (fun i => is.all fun j => !(V'.nL i == V'.nL j) || i == j) && !is.isEmpty
def isVar : E → Bool
  | .var _ => true
  | _ => false
def itGl (K : Str → Option NameKind) (k : ItK) (es : List E) : Bool := match k with
  | .plain => es.length == 1
  | .range => isGl K rangeS
  | .zip => isGl K zipS
mutual
/-- are the names of this expression as they must be? -/
def ok : E → Vw → Expr → Bool
  | .cnone, V, x => true
  | .cbool b, V, x => true
  | .cint i, V, x => true
  | .cstr s, V, x => true
  | .var i, V, x => V.ns i == some (V.nL i) && notDebug (V.nL i)
  | .glob g, V, x => isGl V.K g
  | .bin op a b, V, x => ok a V (kid x 0) && ok b V (kid x 1)
  | .neg a, V, x => ok a V (kid x 0)
  | .not a, V, x => ok a V (kid x 0)
  | .cmp op a b, V, x => ok a V (kid x 0) && ok b V (kid x 1)
  | .bool op es, V, x => oks es V (kids x)
  | .call f es, V, x => isGl V.K f && oks es V (kids x).tail
  | .blt f es, V, x => isGl V.K (Str.ofString f.name) && oks es V (kids x).tail
  | .isa a t, V, x => isGl V.K isaS && ok a V (kid x 1) && isGl V.K t.name
  | .idx a i, V, x => ok a V (kid x 0) && ok i V (kid x 1)
  | .slice a lo hi, V, x => ok a V (kid x 0) && okO lo V (kid (kid x 1) 0) && okO hi V (kid (kid x 1) 1)
  | .tup es, V, x => oks es V (kids x)
  | .lst es, V, x => oks es V (kids x)
  | .comp elt xs k es, V, x => ok elt (V.comp xs (scOf x)) (kid x 0) && okComp V xs (scOf x) (xs.map (·.1)) (V.comp xs (scOf x)) && itGl V.K k es && oks es V (itArgs k (kid x 2))
  | .append o a, V, x => ok o V (kid (kid x 0) 0) && ok a V (kid x 1) && isVar o
def oks : List E → Vw → List Expr → Bool
  | [], V, xs => true
  | e :: es, V, xs => ok e V (xs.headD default) && oks es V xs.tail
def okO : Option E → Vw → Expr → Bool
  | none, V, x => true
  | some e, V, x => ok e V x
end

def Up (F : Fm) (hc : Heap) (ea C : Addr) (h : Heap) : Prop :=
  (∃ B' t, (∀ b o, hc.get? b = some o → b ∉ F.fs1 → B'.get? b = some o) ∧ Heap.FlyingW B' (F.fenv :: F.outer) ea (.ref C) t h) ∨ ∃ args, Heap.MadeExcOf hc h ea (.ref C) args
/-- how an expression's evaluation ends in an exception -/
def Exc (c : Cx) (F : Fm) (h₀ : Heap) (X : Str → St → Prop) : Value → Shared → Prop := fun e s' => ∃ ea nm C σ' sc, e = .ref ea ∧ c.cls nm = some C ∧ Grow h₀ sc.heap ∧ Inv c F σ' sc ∧ SameSh sc s' ∧ c.B.StaysIn s'.heap ∧ Kept F.fs1 sc.heap s'.heap ∧ Up F sc.heap ea C s'.heap ∧ X nm σ'
theorem Exc.grow {c : Cx} {F : Fm} {h₀ h₁ : Heap} {X : Str → St → Prop} {e : Value} {s' : Shared} (g : Grow h₀ h₁) (x : Exc c F h₁ X e s') : Exc c F h₀ X e s' := by
  obtain ⟨ea, nm, C, σ', sc, h1, h2, h3, r⟩ := x
  exact ⟨ea, nm, C, σ', sc, h1, h2, g.trans h3, r⟩
theorem Post.grow {c : Cx} {F : Fm} {h₀ h₁ : Heap} {Q : D → St → Prop} {v : Value} {s' : Shared} (g : Grow h₀ h₁) (x : Post c F h₁ Q v s') : Post c F h₀ Q v s' := by
  obtain ⟨d, σ', h1, r⟩ := x
  exact ⟨d, σ', g.trans h1, r⟩
theorem exc_noX {c : Cx} {F : Fm} {h₀ : Heap} {e : Value} {s' : Shared} (x : Exc c F h₀ noX e s') : False := by
  obtain ⟨_, _, _, _, _, _, _, _, _, _, _, _, _, w⟩ := x
  exact w

/-- values in a row -/
def Posts (c : Cx) (F : Fm) (h₀ : Heap) (Q : List D → St → Prop) : List Value → Shared → Prop := fun vs s' => ∃ ds σ', Grow h₀ s'.heap ∧ Inv c F σ' s' ∧ Reps s'.heap vs ds ∧ Q ds σ'

theorem notStar {e : E} {V : Vw} {x : Expr} {rest : List Expr} {env : Env} : starEach (like e V x :: rest) env = (false, eval (like e V x) env) :: starEach rest env := by
  cases e <;> rfl
theorem like_noSet (e : E) (V : Vw) (x : Expr) (op : CmpOp) : behindInMarks op (like e V x) = false := by
  cases e <;> rfl
theorem like_notSlice (e : E) (V : Vw) (x : Expr) (o i : Value) : subscripted (like e V x) false o i = operate [o, i] (getItem o i) := by
  cases e <;> rfl
theorem like_folded (e : E) (V : Vw) (x : Expr) (env : Env) (v : Value) : foldedSetIterable (like e V x) env v = pure v := by
  cases e <;> rfl
theorem var_base {o : E} (h : isVar o = true) (V : Vw) (x : Expr) (env : Env) : attributeBase (like o V x) appendS env (eval (like o V x) env) = eval (like o V x) env := by
  cases o <;> first | exact (Bool.false_ne_true h).elim | rfl
/-- how an expression is run -/
structure Run (c : Cx) (F : Fm) (env : Env) (V : Vw) (n : Nat) (q : Bool) : Prop where
  CO : CxOK c
  EO : ExcOK c
  FO : FmOK c n q F
  O : EnvOK F env V.K V.ns
  U : ∀ i, V.us i = false → F.loc i = none
theorem and2 {a b : Bool} (h : (a && b) = true) : a = true ∧ b = true := (Bool.and_eq_true a b).mp h

end Mine

/-! ## M11 -/
namespace Mine
open PySem PySem.SeqAt

section
variable {c : Cx} {F : Fm} {env : Env} {K : Str → Option NameKind} {ns : Nat → Option Str} {n : Nat} {q : Bool}

theorem isGl_parts {x : Str} (h : isGl K x = true) : K x = some .globalImplicit ∧ (x == ("__debug__" : Str)) = false ∧ x ≠ ("__name__" : Str) := by
  obtain ⟨h1, h2⟩ := and2 h
  obtain ⟨h1, h3⟩ := and2 h1
  refine ⟨beq_iff_eq.mp h1, (Bool.not_eq_true' _).mp h3, fun e => ?_⟩
  rw [e] at h2
  exact Bool.false_ne_true h2
theorem load_global (CO : CxOK c) (O : EnvOK F env K ns) {σ : St} {s : Shared} (I : Inv c F σ s) {A : Around} {E : Value → Shared → Prop} {Q : Value → Shared → Prop} {x : Str} {pos : Pos} {v : Value} (hx : isGl K x = true) (hv : c.mg x = some v) (h : Q v s) :
    wpAny (model c.prog c.w) A (eval (.Name x pos) env) Q E s := by
  obtain ⟨h1, h2, _⟩ := isGl_parts hx
  exact Calls.Name_function_global O.kind ((O.kinds x).trans h1) (Calls.loadGlobal_global (by rw [O.globals]; exact CO.g.keeps I.base) hv h) h2
theorem load_builtin (CO : CxOK c) (O : EnvOK F env K ns) {σ : St} {s : Shared} (I : Inv c F σ s) {A : Around} {E : Value → Shared → Prop} {Q : Value → Shared → Prop} {x : Str} {pos : Pos} {v : Value} (hx : isGl K x = true) (hm : c.mg x = none) (hv : bootBuiltins x = some v) (h : Q v s) :
    wpAny (model c.prog c.w) A (eval (.Name x pos) env) Q E s := by
  obtain ⟨h1, h2, hn⟩ := isGl_parts hx
  obtain ⟨mb, hb, hbb⟩ := CO.b
  exact Calls.Name_function_global O.kind ((O.kinds x).trans h1) (Calls.loadGlobal_builtin (by rw [O.globals]; exact CO.g.keeps I.base) hm (by rw [O.builtins]; exact hb.keeps I.base) ((hbb x hn).trans hv) h) h2

theorem Ty.load (CO : CxOK c) (O : EnvOK F env K ns) {σ : St} {s : Shared} (I : Inv c F σ s) {A : Around} {E : Value → Shared → Prop} {Q : Value → Shared → Prop} {t : Ty} {pos : Pos} {w : Value} (hx : isGl K t.name = true) (hv : t.val c = some w) (h : Q w s) :
    wpAny (model c.prog c.w) A (eval (.Name t.name pos) env) Q E s := by
  cases t with
  | own k =>
    obtain ⟨C, hC, rfl⟩ := Option.map_eq_some_iff.mp hv
    exact load_global CO O I hx (CO.cls _ _ hC) h
  | int => cases hv; exact load_builtin CO O I hx (CO.free "int" (by decide)) PyProof.Rows.Boot.«int» h
  | bool => cases hv; exact load_builtin CO O I hx (CO.free "bool" (by decide)) PyProof.Rows.Boot.«bool» h
  | tuple => cases hv; exact load_builtin CO O I hx (CO.free "tuple" (by decide)) PyProof.Rows.Boot.«tuple» h
  | list => cases hv; exact load_builtin CO O I hx (CO.free "list" (by decide)) PyProof.Rows.Boot.«list» h
  | valueError => cases hv; exact load_builtin CO O I hx (CO.free "ValueError" (by decide)) PyProof.Rows.Boot.«ValueError» h

theorem opIsa_val {d : D} {t : Ty} {Q : D → St → Prop} {σ : St} (h : opIsa c d t Q σ) : ∃ w, t.val c = some w := by
  cases t with
  | own k =>
    cases d <;> first | exact h.1.elim | skip
    obtain ⟨_, _, ⟨Ck, e⟩, _⟩ := h
    exact ⟨.ref Ck, Option.map_eq_some_iff.mpr ⟨Ck, e, rfl⟩⟩
  | _ => exact ⟨_, rfl⟩

theorem evalArgs_any {M : Model} {A : Around} {E : Value → Shared → Prop} {s : Shared} {f : Value} {args : List (Bool × Sem Value)} {Q : Args → Shared → Prop} (hp : args.any (·.1) = false)
    (h : wpAny M A (spliced args) (fun vs s' => Q ⟨vs, []⟩ s') E s) : wpAny M A (evalArgs f true args []) Q E s := by
  cases args with
  | nil =>
    unfold evalArgs
    show wpAny M A (spliced [] >>= _) Q E s
    refine wpAny_bind (wpAny_mono h (fun vs s' h' => ?_) fun _ _ x => x)
    refine wpAny_bind (wpAny_pure ?_)
    refine wpAny_holding ?_
    exact wpAny_bind (wpAny_pure (wpAny_bind (wpAny_pure (wpAny_pure h'))))
  | cons x rest =>
    obtain ⟨b, t⟩ := x
    cases b with
    | false => exact Calls.evalArgs_plain h
    | true => exact (Bool.false_ne_true hp.symm).elim
theorem any_plain : ∀ (xs : List Expr) (env : Env), (xs.map fun x => ((false, eval x env) : Bool × Sem Value)).any (·.1) = false
  | [], _ => rfl
  | _ :: xs, env => any_plain xs env
theorem backTo_plain {pos : Pos} {env : Env} {V : Vw} : ∀ (es : List E) (xs : List Expr), backTo pos (starEach (likes es V xs) env) = (likes es V xs).map fun x => (false, eval x env)
  | [], xs => rfl
  | e :: es, xs => by
    show backTo pos (starEach (like e V (xs.headD default) :: likes es V xs.tail) env) = _
    rw [notStar]
    show (false, eval (like e V (xs.headD default)) env) :: backTo pos (starEach (likes es V xs.tail) env) = _
    rw [backTo_plain es xs.tail]
    rfl

theorem eval_Call_Name (f : Str) (p : Pos) (args : List Expr) (pos : Pos) (env : Env) : eval (.Call (.Name f p) args [] pos) env = (do callWith pos (← eval (.Name f p) env) [] (backTo pos (starEach args env)) []) := rfl
end
end Mine

/-! ## M13 -/
namespace Mine
open PySem PySem.SeqAt

section
variable {c : Cx} {F : Fm} {env : Env} {K : Str → Option NameKind} {ns : Nat → Option Str} {n : Nat} {q : Bool}

theorem bound_part {h : Heap} {v : Value} {d : D} {o : Option Int} (r : Rep h v d) (e : bound d = some o) : IsPart v o := by
  cases r <;> simp [bound] at e
  · subst e; exact .none
  · subst e; exact .int _ _
theorem cutL_reps {h : Heap} {vs : List Value} {ds : List D} (r : Reps h vs ds) (l u : Option Int) : Reps h (cutL vs l u) (cutL ds l u) := by
  unfold cutL
  rw [r.length]
  exact (r.take _).drop _
theorem cutL_len {α : Type} (xs : List α) (l u : Option Int) : (cutL xs l u).length ≤ xs.length := by
  unfold cutL; simp; omega

theorem adjust_cut (lo hi : Option Int) (n : Nat) : Builtin.Slice.sliceAdjust lo hi 1 (n : Int) = (((cutAt n 0 lo : Nat) : Int), ((cutAt n n hi : Nat) : Int)) := by
  unfold Builtin.Slice.sliceAdjust
  have h1 : ¬ ((1 : Int) < 0) := by omega
  simp only [h1, if_false]
  congr 1
  · cases lo with
    | none => rfl
    | some i => simp only [cutAt]; split <;> split <;> omega
  · cases hi with
    | none => rfl
    | some i => simp only [cutAt]; split <;> split <;> omega
theorem places_cut (a b : Nat) : Builtin.Slice.slicePlaces (a : Int) (b : Int) 1 = b - a := by
  unfold Builtin.Slice.slicePlaces
  have h1 : (1 : Int) > 0 := by omega
  simp only [h1, if_true, Int.ediv_one]
  split <;> omega
theorem part_index {prog : Program} {w : World} {A : Around} {E : Value → Shared → Prop} {s : Shared} {v : Value} {o : Option Int} {Q : Option Int → Shared → Prop} (p : IsPart v o) (h : Q o s) : wpAny (model prog w) A (Builtin.Slice.slicePartIndex v) Q E s := by
  cases p with
  | none => exact PyProof.Rows.slicePart_none h
  | int i t => exact PyProof.Rows.slicePart_int h
theorem pick_cut (vs : List Value) (a b : Nat) (hb : b ≤ vs.length) : ((List.range (b - a)).filterMap fun (k : Nat) => vs.toArray[((a : Int) + (k : Int) * 1).toNat]?).toArray = ((vs.take b).drop a).toArray := by
  congr 1
  have e : (fun (k : Nat) => vs.toArray[((a : Int) + (k : Int) * 1).toNat]?) = fun k => vs[a + k]? := by
    funext k
    have : ((a : Int) + (k : Int) * 1).toNat = a + k := by omega
    rw [this]; simp
  rw [e]
  apply List.ext_getElem?
  intro i
  have key : ∀ m, a + m ≤ vs.length → (List.range m).filterMap (fun k => vs[a + k]?) = (vs.drop a).take m := by
    intro m
    induction m with
    | zero => intro _; rfl
    | succ m ih =>
      intro hm
      rw [List.range_succ, List.filterMap_append, ih (by omega), List.take_add_one]
      congr 1
      have : vs[a + m]? = some vs[a + m] := List.getElem?_eq_getElem (by omega)
      simp [this]
  by_cases hab : a ≤ b
  · rw [key (b - a) (by omega), List.drop_take]
  · have : b - a = 0 := by omega
    rw [this, List.drop_eq_nil_of_le (by rw [List.length_take]; omega)]
    rfl
theorem getItem_tuple_slice {prog : Program} {w : World} {A : Around} {E : Value → Shared → Prop} {s : Shared} {t sl : Addr} {vs : List Value} {m : Nat} {vl vu : Value} {lo hi : Option Int} {Q : Value → Shared → Prop} (ht : IsT s.heap t vs.toArray m) (hs : s.heap.IsSliceOf sl vl vu .none) (pl : IsPart vl lo) (pu : IsPart vu hi)
    (h0 : cutL vs lo hi = vs → Q (.ref t) s) (h1 : Q (.ref s.heap.objs.size) { s with heap := s.heap.push { cls := .type "tuple", data := .seq (cutL vs lo hi).toArray } }) (hsz : vs.length ≤ sizeLine) :
    wpAny (model prog w) A (getItem (.ref t) (.ref sl)) Q E s := by
  have hT : s.TypeIs (.ref t) "tuple" := ⟨_, ht, rfl⟩
  obtain ⟨os, hos, hcs, hds⟩ := id hs
  have hTs : s.TypeIs (.ref sl) "slice" := ⟨os, hos, hcs⟩
  have hb : cutAt vs.length vs.length hi ≤ vs.length := by
    unfold cutAt
    cases hi with
    | none => exact Nat.le_refl _
    | some i => dsimp only; split <;> omega
  unfold getItem
  try with_reducible refine wpAny_holding ?_
  first | refine wpAny_bind (wpAny_pure ?_) | skip
  refine wpAny_bind (wpAny_sequenceKey hT (by decide) ?_)
  refine wpAny_bind (wpAny_callSpecial?_slot (name := Str.ofString "__getitem__") hT PyProof.Rows.slot_tuple_getitem
    (wpAny_call_entry PyProof.Rows.slot_tuple_getitem hT PyProof.Rows.entry_tuple_getitem ?_ (PyProof.Rows.args_tuple_getitem _ _)))
  show wpAny _ _ (Builtin.Tuple.tupleItemsOf (.ref t) >>= _) _ _ s
  refine wpAny_bind (PyProof.Rows.tupleItemsOf_ ⟨_, ht, rfl, _, rfl⟩ ?_)
  refine wpAny_bind (wpAny_typeOf hTs ?_)
  rw [if_pos (by decide)]
  refine wpAny_bind (Q := _) ?_
  · unfold Builtin.Slice.sliceApplied Builtin.Slice.sliceFields
    refine wpAny_bind (wpAny_bind (wpAny_field hos hds (x := vl) rfl (wpAny_bind (wpAny_field hos hds (x := vu) rfl (wpAny_bind (wpAny_field hos hds (x := .none) rfl (wpAny_pure ?_)))))))
    refine wpAny_bind (PyProof.Rows.slicePart_none ?_)
    show wpAny _ _ (if ((1 : Int) == 0) = true then _ else _) _ _ s
    rw [if_neg (by decide)]
    refine wpAny_bind (part_index pl (wpAny_bind (part_index pu (wpAny_bind (wpAny_pure ?_)))))
    show wpAny _ _ (match Builtin.Slice.sliceAdjust lo hi 1 (vs.toArray.size : Int) with | (lo, hi) => pure (lo, (1 : Int), Builtin.Slice.slicePlaces lo hi 1)) _ _ s
    rw [List.size_toArray, adjust_cut]
    show wpAny _ _ (pure (((cutAt vs.length 0 lo : Nat) : Int), (1 : Int), Builtin.Slice.slicePlaces ((cutAt vs.length 0 lo : Nat) : Int) ((cutAt vs.length vs.length hi : Nat) : Int) 1)) _ _ s
    rw [places_cut]
    refine wpAny_pure ?_
    show wpAny _ _ (if ((((cutAt vs.length 0 lo : Nat) : Int) == 0 && (1 : Int) == 1 && (cutAt vs.length vs.length hi - cutAt vs.length 0 lo) == vs.toArray.size) = true) then _ else _) _ _ s
    have hcut : (cutL vs lo hi).length ≤ sizeLine := Nat.le_trans (cutL_len vs lo hi) hsz
    by_cases hw : (((cutAt vs.length 0 lo : Nat) : Int) == 0 && (1 : Int) == 1 && (cutAt vs.length vs.length hi - cutAt vs.length 0 lo) == vs.toArray.size) = true
    · rw [if_pos hw]
      have e : cutL vs lo hi = vs := by
        simp at hw
        unfold cutL
        rw [hw.1, List.drop_zero, List.take_of_length_le (by omega)]
      refine wpAny_bind (wpAny_bind (wpAny_typeOf hT (wpAny_pure ?_)))
      rw [if_pos (by decide)]
      exact wpAny_bind (wpAny_rule (wpAny_pure ⟨_, rfl, wpAny_pure (h0 e)⟩))
    · rw [if_neg hw, pick_cut vs _ _ hb]
      have hdrop : sizeOk (.seq ((vs.take (cutAt vs.length vs.length hi)).drop (cutAt vs.length 0 lo)).toArray) := by
        show ((vs.take (cutAt vs.length vs.length hi)).drop (cutAt vs.length 0 lo)).toArray.size ≤ sizeLine
        rw [List.size_toArray]; exact hcut
      first
        | exact wpAny_bind (m := Builtin.Tuple.tupleExact _) (wpAny_newObj_type (wpAny_pure ⟨_, rfl, wpAny_pure h1⟩) hdrop)
        | exact wpAny_bind (m := Builtin.Tuple.tupleExact _) (wpAny_newObj_type (wpAny_bind (wpAny_pure (wpAny_pure ⟨_, rfl, wpAny_pure h1⟩))) hdrop)
        | exact wpAny_bind (wpAny_bind (m := Builtin.Tuple.tupleExact _) (wpAny_newObj_type (wpAny_pure (wpAny_pure ⟨_, rfl, wpAny_pure h1⟩)) hdrop))
        | exact wpAny_bind (wpAny_bind (m := Builtin.Tuple.tupleExact _) (wpAny_newObj_type (wpAny_pure ⟨_, rfl, wpAny_pure h1⟩) hdrop))

theorem s_slice {σ : St} {s : Shared} {E : Value → Shared → Prop} {Q : D → St → Prop} {x lo hi : D} {v vl vu : Value} {value : Expr} {slice : Expr} (I : Inv c F σ s) (rv : Rep s.heap v x) (rl : Rep s.heap vl lo) (ru : Rep s.heap vu hi) (h : opSlice x lo hi Q σ)
    (hs : ∀ o i, subscripted slice false o i = operate [i, o] (getItem o i)) :
    wpAny (model c.prog c.w) F.A (PyProof.Rows.subscriptTail value slice v (.ref s.heap.objs.size)) (Post c F s.heap Q) E { s with heap := s.heap.push { cls := .type "slice", data := .fields #[vl, vu, .none] } } := by
  obtain ⟨l, u, e1, e2, h⟩ := h
  have k := push_keeps s.heap { cls := .type "slice", data := .fields #[vl, vu, .none] }
  have I' : Inv c F σ { s with heap := s.heap.push { cls := .type "slice", data := .fields #[vl, vu, .none] }, toks := s.toks } := I.keeps k
  cases rv with
  | tup ht ra =>
    obtain ⟨hl, hq⟩ := h
    have hlen := ra.length
    unfold lim at hl
    refine PyProof.Rows.tail_any ⟨_, k _ _ ht, rfl⟩ PyProof.Rows.slot_tuple_getitem.lookup (getItem_tuple_slice (k _ _ ht) (Heap.IsSliceOf.new ..) (bound_part rl e1) (bound_part ru e2) (fun e => ?_) ?_ (by rw [sizeLine_val]; omega)) (hs _ _)
    · have := cutL_reps ra l u
      rw [e] at this
      exact ⟨_, σ, grow_of_keeps k, I', .tup (k _ _ ht) (Reps.grow (grow_of_keeps k) this), hq⟩
    · exact Post.grow (grow_of_keeps k) (post_tuple (t := s.toks) I' (cutL_reps (Reps.grow (grow_of_keeps k) ra) l u) hq)
  | lst a =>
    obtain ⟨o, ds, es, hl, hq⟩ := h
    obtain ⟨vs, hls, _, ra⟩ := I'.sto _ _ es
    have hlen := ra.length
    unfold lim at hl
    refine PyProof.Rows.tail_any hls.typeIs PySem.list_getitem_lookup (wpAny_getItem_list_slice hls (Heap.IsSliceOf.new ..) (bound_part rl e1) (bound_part ru e2) .none (by simp) ?_ (by rw [List.size_toArray, sizeLine_val]; omega)) (hs _ _)
    rw [slicePick_cut]
    exact Post.grow (grow_of_keeps k) (post_list (t := s.toks) I' (none_at_size _) (push_keeps _ _) ⟨0, Heap.get?_push_size _ rfl⟩ (cutL_reps ra l u) hq)
  | _ => exact h.elim

/-- an own def, called -/
theorem s_call {σ : St} {s : Shared} {Q : D → St → Prop} {X : Str → St → Prop} {ds : List D} {vs : List Value} (I : Inv c F σ s) (FO : FmOK c n true F) (rs : Reps s.heap vs ds)
    {a : Addr} (hC : CallAt c n a ds σ.sto (fun d sto' => Q d { σ with sto := sto' }) fun k => X k σ) :
    wpAny (model c.prog c.w) F.A (call (.ref a) vs) (Post c F s.heap Q) (Exc c F s.heap X) s := by
  refine wpAny_call (codeAny_mono (hC F.A (F.fenv :: F.outer) s vs FO.frames (FO.handled rfl) FO.depth FO.units I.base I.frames rs fun b k e => ⟨F.hE, I.sto b k e⟩) fun r s' h => ?_)
  obtain ⟨hs, hB, hk, h⟩ := h
  obtain ⟨h', t', rfl⟩ := id hs
  have hkE : Kept F.fs F.hE h' := fun b o e => by
    obtain ⟨s1, e1, q1⟩ := I.kept b o e
    obtain ⟨s2, e2, q2⟩ := hk b _ e1
    exact ⟨s2, e2, fun w => (q2 (w.imp (fun w m => w (FO.back b o e m)) id)).trans (q1 w)⟩
  have I' : Inv c F σ { s with heap := h', toks := t' } := I.nf hB hkE (Nf.of_kept hk)
  match r, h with
  | .ok (.ret v), h =>
    obtain ⟨d, sto', rd, hst, hq⟩ := h
    refine ⟨d, { σ with sto := sto' }, hk.grow, ⟨I'.same, I'.base, I'.kept, I'.frames, I'.vars, I'.places, fun b k e => ?_⟩, rd, hq⟩
    rcases hst b k e with w | ⟨w1, w2⟩
    · exact I'.sto b k w
    · cases k with
      | dict ps => exact w2
      | list own xs =>
        obtain ⟨vs', h1, h2, h3⟩ := w2
        exact ⟨vs', h1, fun z => ⟨(h2 z).1, kept_none I.kept w1⟩, h3⟩
  | .error e, h =>
    obtain ⟨ea, nm, C, t, e1, e2, e3, B', b1, b2⟩ := h
    exact ⟨ea, nm, C, σ, s, e1, e2, Grow.refl _, I, hs, hB, hk, .inl ⟨B', t, b1, b2⟩, e3⟩
end
end Mine

/-! ## M16 -/
namespace Mine
open PySem PySem.SeqAt

section
variable {c : Cx} {F : Fm} {σ : St} {s : Shared}
/-- records of this frame's own have turned -/
theorem Inv.turnedL (I : Inv c F σ s) {h' : Heap} {t : Nat} {wr : List Addr} (hw : ∀ a ∈ wr, (∃ o vs, s.heap.get? a = some o ∧ o.data = .fields vs ∧ ∀ C, o.cls ≠ .ref C) ∧ F.hE.get? a = none ∧ c.B.get? a = none)
    (k : ∀ b o, b ∉ wr → s.heap.get? b = some o → h'.get? b = some o) : Inv c F σ { s with heap := h', toks := t } := by
  refine I.nf (fun b o e => k b o (fun m => by rw [(hw b m).2.2] at e; cases e) (I.base b o e)) (fun b o e => ?_) ⟨fun b o e nf => ⟨o.slots, k b o (fun m => ?_) e, fun _ => rfl⟩, fun b o C ws e hc _ => k b o (fun m => ?_) e⟩
  · obtain ⟨sl, e1, q⟩ := I.kept b o e
    exact ⟨sl, k b _ (fun m => by rw [(hw b m).2.1] at e; cases e) e1, q⟩
  · obtain ⟨⟨o', vs, e1, e2, _⟩, _⟩ := hw b m
    rw [e] at e1; cases e1
    exact nf vs e2
  · obtain ⟨⟨o', vs, e1, _, e3⟩, _⟩ := hw b m
    rw [e] at e1; cases e1
    exact e3 C hc
end

/-- an iterator that hands out these items while g holds -/
structure ItOK (c : Cx) (F : Fm) (items : List D) (g : St → Prop) (it : Value) (wr : List Addr) (At : Nat → Heap → Prop) : Prop where
  next : ∀ {i : Nat} {σ : St} {s : Shared} {E : Value → Shared → Prop} {Q : Option Value → Shared → Prop} {d : D}, Inv c F σ s → g σ → At i s.heap → items[i]? = some d →
    (∀ v h' t, Rep h' v d → At (i + 1) h' → (∀ b o, b ∉ wr → s.heap.get? b = some o → h'.get? b = some o) → Q (some v) { s with heap := h', toks := t }) → wpAny (model c.prog c.w) F.A (pyNext it) Q E s
  last : ∀ {i : Nat} {σ : St} {s : Shared} {E : Value → Shared → Prop} {Q : Option Value → Shared → Prop}, Inv c F σ s → g σ → At i s.heap → i = items.length →
    (∀ h' t, (∀ b o, b ∉ wr → s.heap.get? b = some o → h'.get? b = some o) → Q none { s with heap := h', toks := t }) → wpAny (model c.prog c.w) F.A (pyNext it) Q E s
  goes : ∀ {i : Nat} {s : Shared} {E : Value → Shared → Prop} {Q : Unit → Shared → Prop} {target : Expr} {v : Value}, At i s.heap →
    (∀ h', At i h' → (∀ b o, b ∉ wr → s.heap.get? b = some o → h'.get? b = some o) → Q () { s with heap := h' }) → wpAny (model c.prog c.w) F.A (letOwnedTupleGo target it v) Q E s
  keep : ∀ {i : Nat} {h h' : Heap}, At i h → Grow h h' → At i h'
  own : ∀ {i : Nat} {h : Heap}, At i h → ∀ b ∈ wr, ∃ o vs, h.get? b = some o ∧ o.data = .fields vs ∧ ∀ C, o.cls ≠ .ref C
  fresh : ∀ b ∈ wr, F.hE.get? b = none ∧ c.B.get? b = none
  self : ∀ {i : Nat} {s : Shared} {E : Value → Shared → Prop} {Q : Value → Shared → Prop}, At i s.heap → Q it s → wpAny (model c.prog c.w) F.A (pyIter it) Q E s

theorem owned_plain {prog : Program} {w : World} {A : Around} {E : Value → Shared → Prop} {s : Shared} {T : String} {o : Obj} {I : Addr} {target : Expr} {v : Value} {vs : Array Value} {Q : Unit → Shared → Prop} (ho : s.heap.get? I = some o) (hc : o.cls = .type T) (hd : o.data = .fields vs)
    (hT : (["enumerate", "zip", "dict_itemiterator", "dict_reverseitemiterator", "odict_iterator", "itertools.zip_longest", "itertools.pairwise"].contains T) = false) (hq : Q () s) : wpAny (model prog w) A (letOwnedTupleGo target (.ref I) v) Q E s := by
  have main : ∀ a, wpAny (model prog w) A (do
      let o ← load I
      match o.cls, o.data with
      | .type n, .fields vs =>
        if ["enumerate", "zip", "dict_itemiterator", "dict_reverseitemiterator", "odict_iterator", "itertools.zip_longest", "itertools.pairwise"].contains n && vs[0]? == some (rawInt a) then
          rule "for.unpacks-the-owned-tuple"
          updateField I 0 .none
      | _, _ => pure ()) Q E s := fun a => by
    refine wpAny_bind (wpAny_load ho ?_)
    rw [hc, hd]
    dsimp only
    rw [if_neg (by rw [hT]; simp)]
    exact wpAny_pure hq
  cases target <;> first | exact wpAny_pure hq | (cases v <;> first | exact main _ | exact wpAny_pure hq)

section
variable {c : Cx} {F : Fm} {σ : St} {s : Shared} {n : Nat} {E : Value → Shared → Prop}

/-- a record laid just now is this frame's own -/
theorem fresh_rec (I : Inv c F σ s) {a : Addr} (ha : s.heap.get? a = none) : F.hE.get? a = none ∧ c.B.get? a = none := by
  refine ⟨kept_none I.kept ha, ?_⟩
  cases e : c.B.get? a with
  | none => rfl
  | some o => have := I.base a o e; rw [ha] at this; cases this

theorem it_list (hh : F.A.handled = none) {I ax : Addr} {ds : List D} (hf : F.hE.get? I = none ∧ c.B.get? I = none) : ItOK c F ds (fun σ => ∃ o, σ.sto ax = some (.list o ds)) (.ref I) [I] (fun i h => h.IsListIter I ax i) where
  next := fun {i σ s E Q d} Iv hg hat hd hQ => by
    obtain ⟨o, hg⟩ := hg
    obtain ⟨vs, hl, _, rs⟩ := Iv.sto _ _ hg
    obtain ⟨v, e1, r⟩ := rs.get hd
    refine wpAny_pyNext_list_item hat hl (by simpa using e1) fun h' hit' hs' => ?_
    refine hQ v h' s.toks (Rep.nf (fs := []) ⟨fun b o e nf => ⟨o.slots, hs'.extBut b o (fun z => ?_) e, fun _ => rfl⟩, fun b o C ws e hc _ => hs'.extBut b o (fun z => ?_) e⟩ r) hit' fun b o hb e => hs'.extBut b o (by simpa using hb) e
    · obtain ⟨oi, h1, h2, h3⟩ := hat
      subst z; rw [e] at h1; cases h1; exact nf _ h3
    · obtain ⟨oi, h1, h2, h3⟩ := hat
      subst z; rw [e] at h1; cases h1; rw [h2] at hc; cases hc
  last := fun {i σ s E Q} Iv hg hat hi hQ => by
    obtain ⟨o, hg⟩ := hg
    obtain ⟨vs, hl, _, rs⟩ := Iv.sto _ _ hg
    exact wpAny_pyNext_list_end hh hat hl (by simp [hi, rs.length]) fun h' he => hQ h' s.toks fun b o hb e => he b o (by simpa using hb) e
  goes := fun {i s E Q target v} hat hQ => by
    obtain ⟨oi, h1, h2, h3⟩ := id hat
    exact owned_plain h1 h2 h3 (by decide) (hQ s.heap hat fun _ _ _ e => e)
  keep := fun {i h h'} hat g => hat.at fun o e => by
    obtain ⟨oi, h1, h2, h3⟩ := hat
    rw [e] at h1; cases h1
    exact g _ _ e (.inr ⟨_, h3⟩)
  own := fun {i h} hat b hb => by
    obtain ⟨oi, h1, h2, h3⟩ := hat
    obtain rfl : b = I := by simpa using hb
    exact ⟨oi, _, h1, h3, fun C z => by rw [h2] at z; cases z⟩
  fresh := fun b hb => by
    obtain rfl : b = I := by simpa using hb
    exact hf
  self := fun {i s E Q} hat hq => wpAny_pyIter_listiter hat hq

theorem it_tuple (hh : F.A.handled = none) {I ax : Addr} {ds : List D} {vs : List Value} {m : Nat} (hf : F.hE.get? I = none ∧ c.B.get? I = none) : ItOK c F ds (fun _ => True) (.ref I) [I] (fun i h => h.IsTupleIter I ax i ∧ IsT h ax vs.toArray m ∧ Reps h vs ds) where
  next := fun {i σ s E Q d} Iv hg hat hd hQ => by
    obtain ⟨hat, ht, rs⟩ := hat
    obtain ⟨v, e1, r⟩ := rs.get hd
    refine wpAny_pyNext_tuple_item hat (IsT.tuple ht) (by simpa using e1) fun h' hit' hs' => ?_
    have nf : Nf [] s.heap h' := by
      refine ⟨fun b o e nf => ⟨o.slots, hs'.extBut b o (fun z => ?_) e, fun _ => rfl⟩, fun b o C ws e hc _ => hs'.extBut b o (fun z => ?_) e⟩
      · obtain ⟨oi, h1, h2, h3⟩ := hat
        subst z; rw [e] at h1; cases h1; exact nf _ h3
      · obtain ⟨oi, h1, h2, h3⟩ := hat
        subst z; rw [e] at h1; cases h1; rw [h2] at hc; cases hc
    exact hQ v h' s.toks (Rep.nf nf r) ⟨hit', nf.tuple ht, Reps.nf nf rs⟩ fun b o hb e => hs'.extBut b o (by simpa using hb) e
  last := fun {i σ s E Q} Iv hg hat hi hQ => by
    obtain ⟨hat, ht, rs⟩ := hat
    exact wpAny_pyNext_tuple_end hh hat (IsT.tuple ht) (by simp [hi, rs.length]) fun h' he => hQ h' s.toks fun b o hb e => he b o (by simpa using hb) e
  goes := fun {i s E Q target v} hat hQ => by
    obtain ⟨oi, h1, h2, h3⟩ := hat.1
    exact owned_plain h1 h2 h3 (by decide) (hQ s.heap hat fun _ _ _ e => e)
  keep := fun {i h h'} hat g => ⟨hat.1.at fun o e => by
    obtain ⟨oi, h1, h2, h3⟩ := hat.1
    rw [e] at h1; cases h1
    exact g _ _ e (.inr ⟨_, h3⟩), isT_grow g hat.2.1, Reps.grow g hat.2.2⟩
  own := fun {i h} hat b hb => by
    obtain ⟨oi, h1, h2, h3⟩ := hat.1
    obtain rfl : b = I := by simpa using hb
    exact ⟨oi, _, h1, h3, fun C z => by rw [h2] at z; cases z⟩
  fresh := fun b hb => by
    obtain rfl : b = I := by simpa using hb
    exact hf
  self := fun {i s E Q} hat hq => wpAny_pyIter_tupleiter hat.1 hq

theorem it_range (hh : F.A.handled = none) {I : Addr} {a k : Int} {len : Nat} (hf : F.hE.get? I = none ∧ c.B.get? I = none) : ItOK c F ((List.range len).map fun (i : Nat) => D.int (a + i * k)) (fun _ => True) (.ref I) [I] (fun i h => IsRangeIter h I (a + (i : Nat) * k) ((len : Int) - (i : Nat)) k) where
  next := fun {i σ s E Q d} Iv hg hat hd hQ => by
    have hi : i < len := by
      have := (List.getElem?_eq_some_iff.mp hd).1
      simpa using this
    have hdd : d = .int (a + i * k) := by simp [hi] at hd; exact hd.symm
    subst hdd
    refine wpAny_pyNext_range_item hat (by omega) fun h' hit' hs' => ?_
    refine hQ _ h' _ (.int _ _) ?_ fun b o hb e => hs'.extBut b o (by simpa using hb) e
    have e1 : a + ((i + 1 : Nat) : Int) * k = a + (i : Int) * k + k := by push_cast; rw [Int.add_mul, Int.one_mul, Int.add_assoc]
    have e2 : (len : Int) - ((i + 1 : Nat) : Int) = (len : Int) - (i : Int) - 1 := by push_cast; omega
    rw [e1, e2]; exact hit'
  last := fun {i σ s E Q} Iv hg hat hi hQ => by
    have hi' : i = len := by simpa using hi
    exact wpAny_pyNext_range_end hh hat (by omega) fun h' he => hQ h' s.toks fun b o hb e => he b o (by simpa using hb) e
  goes := fun {i s E Q target v} hat hQ => owned_plain hat rfl rfl (by decide) (hQ s.heap hat fun _ _ _ e => e)
  keep := fun {i h h'} hat g => g _ _ hat (.inr ⟨_, rfl⟩)
  own := fun {i h} hat b hb => by
    obtain rfl : b = I := by simpa using hb
    exact ⟨_, _, hat, rfl, fun C z => by cases z⟩
  fresh := fun b hb => by
    obtain rfl : b = I := by simpa using hb
    exact hf
  self := fun {i s E Q} hat hq => wpAny_pyIter_rangeiter hat hq
end
end Mine

/-! ## M17 -/
namespace Mine
open PySem PySem.SeqAt

/-- how an iterator is got: sb is the state ahead of its record -/
def PostI (c : Cx) (F : Fm) (h₀ : Heap) (Kc : List D → (St → Prop) → St → Prop) : Value → Shared → Prop := fun itv s₂ =>
  ∃ items g σ' wr At sb, Grow h₀ sb.heap ∧ Inv c F σ' sb ∧ SameSh sb s₂ ∧ (∀ b o, sb.heap.get? b = some o → s₂.heap.get? b = some o) ∧ (∀ b ∈ wr, sb.heap.get? b = none) ∧ ItOK c F items g itv wr At ∧ At 0 s₂.heap ∧ Kc items g σ'

section
variable {c : Cx} {F : Fm} {env : Env} {K : Str → Option NameKind} {ns : Nat → Option Str} {n : Nat} {q : Bool}

theorem none1 {h : Heap} {a : Addr} (n : h.get? a = none) : ∀ b ∈ [a], h.get? b = none := fun b hb => by
  obtain rfl : b = a := by simpa using hb
  exact n

theorem rangeUp_eq (a b : Int) : rangeUp a b = (List.range (b - a).toNat).map fun (i : Nat) => D.int (a + i * 1) := by
  unfold rangeUp
  exact List.map_congr_left fun i _ => by rw [Int.mul_one]
theorem rangeDn_eq (a b : Int) : rangeDn a b = (List.range (a - b).toNat).map fun (i : Nat) => D.int (a + i * (-1)) := by
  unfold rangeDn
  exact List.map_congr_left fun i _ => by rw [show a + (i : Int) * (-1) = a - i by omega]

theorem dn_size (a b : Int) : Builtin.Range.rangeSize a b (-1) = ((a - b).toNat : Int) := by
  have h1 : ¬ ((-1 : Int) > 0) := by decide
  have h2 : (-(-1) : Int) = 1 := rfl
  unfold Builtin.Range.rangeSize
  rw [if_neg h1, h2, Int.ediv_one]
  by_cases h : a > b
  · rw [if_pos h]; omega
  · rw [if_neg h]; omega
theorem dn_small {a b : Int} (h1 : -1000000 ≤ a) (h2 : a ≤ 1000000) (h3 : -1000000 ≤ b) (h4 : b ≤ 1000000) : Builtin.Range.small a b (-1) = true := by
  unfold Builtin.Range.small
  rw [dn_size]
  simp [Builtin.Range.rangeFitsLong]
  omega
/-- a range's iterator, taken -/
theorem s_rangeIt {σ : St} {s : Shared} {E : Value → Shared → Prop} {a b k : Int} {t u v : Tok} {len : Nat} {h₀ : Heap} {Kc : List D → (St → Prop) → St → Prop} (I : Inv c F σ s) (hh : F.A.handled = none) (g : Grow h₀ s.heap)
    (hs : Builtin.Range.small a b k = true) (hn : Builtin.Range.rangeSize a b k = (len : Int)) (hK : Kc ((List.range len).map fun (i : Nat) => D.int (a + i * k)) (fun _ => True) σ) {tk : Nat} :
    wpAny (model c.prog c.w) F.A (pyIter (.ref s.heap.objs.size)) (PostI c F h₀ Kc) E { s with heap := s.heap.push { cls := .type "range", data := .fields #[.int a t, .int b u, .int k v] }, toks := tk } := by
  have k1 := push_keeps s.heap { cls := .type "range", data := .fields #[.int a t, .int b u, .int k v] }
  have I₁ : Inv c F σ { s with heap := s.heap.push { cls := .type "range", data := .fields #[.int a t, .int b u, .int k v] }, toks := tk } := I.keeps k1
  refine wpAny_pyIter_range (IsRange.new _ a b k t u v) hs ?_
  rw [hn]
  have k2 := push_keeps (s.heap.push { cls := .type "range", data := .fields #[.int a t, .int b u, .int k v] }) { cls := .type "range_iterator", data := .fields #[rawInt a, rawInt (len : Int), rawInt k] }
  refine ⟨_, _, σ, _, _, _, g.trans (grow_of_keeps k1), I₁, ⟨_, _, rfl⟩, k2, none1 (none_at_size _), it_range (a := a) (k := k) (len := len) hh (fresh_rec I₁ (none_at_size _)), ?_, hK⟩
  show IsRangeIter _ _ _ _ _
  have := Heap.get?_push_size (o := { cls := .type "range_iterator", data := .fields #[rawInt a, rawInt (len : Int), rawInt k] }) (s.heap.push { cls := .type "range", data := .fields #[.int a t, .int b u, .int k v] }) rfl
  simpa using this

theorem smallI_int {d : D} (h : smallI d = true) : ∃ i, d = .int i ∧ -1000000 ≤ i ∧ i ≤ 1000000 := by
  cases d <;> simp [smallI] at h
  exact ⟨_, rfl, h.1, h.2⟩

theorem reps1 {h : Heap} {vs : List Value} {a : D} (r : Reps h vs [a]) : ∃ v, vs = [v] ∧ Rep h v a := by
  cases r with | cons x y => cases y; exact ⟨_, rfl, x⟩
theorem reps2 {h : Heap} {vs : List Value} {a b : D} (r : Reps h vs [a, b]) : ∃ v w, vs = [v, w] ∧ Rep h v a ∧ Rep h w b := by
  cases r with | cons x y => obtain ⟨w, rfl, z⟩ := reps1 y; exact ⟨_, _, rfl, x, z⟩
theorem reps3 {h : Heap} {vs : List Value} {a b d : D} (r : Reps h vs [a, b, d]) : ∃ v w x, vs = [v, w, x] ∧ Rep h v a ∧ Rep h w b ∧ Rep h x d := by
  cases r with | cons x y => obtain ⟨w, z, rfl, p, q⟩ := reps2 y; exact ⟨_, _, _, rfl, x, p, q⟩

theorem s_range {σ : St} {s : Shared} {E : Value → Shared → Prop} {ds : List D} {vs : List Value} {items : List D} {h₀ : Heap} {Kc : List D → (St → Prop) → St → Prop} (I : Inv c F σ s) (FO : FmOK c n true F) (CO : CxOK c) (g : Grow h₀ s.heap) (r : Reps s.heap vs ds)
    (hs : ds.all smallI = true) (hi : rangeD ds = some items) (hK : Kc items (fun _ => True) σ) :
    wpAny (model c.prog c.w) F.A (call (.type "range") vs) (fun v s₁ => wpAny (model c.prog c.w) F.A (pyIter v) (PostI c F h₀ Kc) E s₁) E s := by
  have hh := FO.handled rfl
  match ds, hs, hi, r with
  | [], _, hi, _ => cases hi
  | [d], hs, hi, r =>
    simp only [List.all_cons, List.all_nil, Bool.and_true] at hs
    obtain ⟨b, rfl, b1, b2⟩ := smallI_int hs
    obtain ⟨v, rfl, rv⟩ := reps1 r
    obtain ⟨t, rfl⟩ := rep_int rv
    have hi : some (rangeUp 0 b) = some items := hi
    cases hi
    rw [rangeUp_eq] at hK
    exact call_range_1 (s_rangeIt I hh g (small_one (by omega) (by omega) (by omega) (by omega)) (PyProof.Rows.rangeSize_nat 0 b) hK)
  | [d, e], hs, hi, r =>
    simp only [List.all_cons, List.all_nil, Bool.and_true, Bool.and_eq_true] at hs
    obtain ⟨a, rfl, a1, a2⟩ := smallI_int hs.1
    obtain ⟨b, rfl, b1, b2⟩ := smallI_int hs.2
    obtain ⟨v, w, rfl, rv, rw'⟩ := reps2 r
    obtain ⟨t, rfl⟩ := rep_int rv
    obtain ⟨u, rfl⟩ := rep_int rw'
    have hi : some (rangeUp a b) = some items := hi
    cases hi
    rw [rangeUp_eq] at hK
    exact call_range_2 (s_rangeIt I hh g (small_one (by omega) (by omega) (by omega) (by omega)) (PyProof.Rows.rangeSize_nat a b) hK)
  | [d, e, f], hs, hi, r =>
    simp only [List.all_cons, List.all_nil, Bool.and_true, Bool.and_eq_true] at hs
    obtain ⟨a, rfl, a1, a2⟩ := smallI_int hs.1
    obtain ⟨b, rfl, b1, b2⟩ := smallI_int hs.2.1
    obtain ⟨k, rfl, k1, k2⟩ := smallI_int hs.2.2
    obtain ⟨v, w, z, rfl, rv, rw', rz⟩ := reps3 r
    obtain ⟨t, rfl⟩ := rep_int rv
    obtain ⟨u, rfl⟩ := rep_int rw'
    obtain ⟨y, rfl⟩ := rep_int rz
    have hi : (if k = -1 then some (rangeDn a b) else none) = some items := hi
    by_cases hk : k = -1
    · subst hk
      rw [if_pos rfl] at hi
      cases hi
      rw [rangeDn_eq] at hK
      exact PySem.call_range_3 (by decide) (s_rangeIt (tk := s.toks) I hh g (dn_small a1 a2 b1 b2) (dn_size a b) hK) (.inr (FO.room CO I.base))
    · rw [if_neg hk] at hi; cases hi
  | d :: e :: f :: g :: r', hs, hi, _ =>
    simp only [List.all_cons, Bool.and_eq_true] at hs
    obtain ⟨a, rfl, _⟩ := smallI_int hs.1
    obtain ⟨b, rfl, _⟩ := smallI_int hs.2.1
    obtain ⟨k, rfl, _⟩ := smallI_int hs.2.2.1
    cases (show (none : Option (List D)) = some items from hi)

theorem s_items {σ : St} {s : Shared} {E : Value → Shared → Prop} {d : D} {v : Value} {h₀ : Heap} {Kc : List D → (St → Prop) → St → Prop} (I : Inv c F σ s) (hh : F.A.handled = none) (g : Grow h₀ s.heap) (r : Rep s.heap v d) (w : itemsOf d Kc σ) :
    wpAny (model c.prog c.w) F.A (pyIter v) (PostI c F h₀ Kc) E s := by
  cases r with
  | @tup a m vs ds ht rs =>
    obtain ⟨hl, hK⟩ := w
    refine wpAny_pyIter_tuple (IsT.tuple ht) ?_
    have k := push_keeps s.heap { cls := .type "tuple_iterator", data := .fields #[.ref a, .int 0 0] }
    exact ⟨_, _, σ, _, _, s, g, I, ⟨_, _, rfl⟩, k, none1 (none_at_size _), it_tuple (ax := a) (vs := vs) (m := m) hh (fresh_rec I (none_at_size _)), ⟨⟨_, Heap.get?_push_size _ rfl, rfl, rfl⟩, k _ _ ht, Reps.grow (grow_of_keeps k) rs⟩, hK⟩
  | lst a =>
    obtain ⟨o, ds, es, hl, hK⟩ := w
    obtain ⟨vs, hls, _, rs⟩ := I.sto _ _ es
    refine wpAny_pyIter_list hls ?_
    have k := push_keeps s.heap { cls := .type "list_iterator", data := .fields #[.ref a, .int 0 0] }
    exact ⟨_, _, σ, _, _, s, g, I, ⟨_, _, rfl⟩, k, none1 (none_at_size _), it_list (ax := a) hh (fresh_rec I (none_at_size _)), ⟨_, Heap.get?_push_size _ rfl, rfl, rfl⟩, hK⟩
  | _ => exact w.elim

end
end Mine

/-! ## M12 -/
namespace Mine
open PySem PySem.SeqAt

theorem SameSh.two {a b d : Shared} (x : SameSh a b) (y : SameSh a d) : SameSh b d := by
  obtain ⟨h, t, rfl⟩ := x
  obtain ⟨h', t', rfl⟩ := y
  exact ⟨h', t', rfl⟩
theorem Cell.ro_ok {h hE hE' : Heap} {b : Addr} {k : Cell} (p : CellOK h hE b k) : CellOK h hE' b k.ro := by
  cases k with
  | list own ds => obtain ⟨vs, h1, h2, h3⟩ := p; exact ⟨vs, h1, fun z => (Bool.false_ne_true z).elim, h3⟩
  | dict ps => exact p

section
variable {c : Cx} {F : Fm} {env : Env} {K : Str → Option NameKind} {ns : Nat → Option Str} {n : Nat} {q : Bool}
/-- objects kept, frames up to their slots: the state goes on -/
theorem Inv.after {σ : St} {sc s' : Shared} (I : Inv c F σ sc) (FO : FmOK c n q F) (k : Kept F.fs1 sc.heap s'.heap) (hs : SameSh sc s') : Inv c F σ s' := by
  obtain ⟨h', t', rfl⟩ := hs
  refine I.nf (fun b o e => k.exact (I.base b o e) (.inl fun m => ?_)) (fun b o e => ?_) (Nf.of_kept k)
  · rw [(I.frames.mem m).1] at e; cases e
  · obtain ⟨s1, e1, q1⟩ := I.kept b o e
    obtain ⟨s2, e2, q2⟩ := k b _ e1
    exact ⟨s2, e2, fun w => (q2 (w.imp (fun w m => w (FO.back b o e m)) id)).trans (q1 w)⟩

/-! targets -/
theorem s_assigns (FO : FmOK c n q F) (Wr : FmW F) (O : EnvOK F env K ns) {E : Value → Shared → Prop} (f : Nat → Str) : ∀ (xs : List Nat) (ys : List Expr) (ds : List D) (vs : List Value) (σ : St) (s : Shared) (Q : Unit → Shared → Prop), (∀ i ∈ xs, ns i = some (f i)) → xs.length = ds.length → Reps s.heap vs ds → Inv c F σ s →
    (∀ s', SameSh s s' → Grow s.heap s'.heap → Inv c F (setAll σ xs ds) s' → Q () s') → wpAny (model c.prog c.w) F.A (assignInOrder ((assignEach (namesX (xs.map f) ys) env).map (·.2)) vs) Q E s
  | [], ys, ds, vs, σ, s, Q, hn, hl, r, I, h => wpAny_pure (h s (SameSh.refl s) (Grow.refl _) I)
  | x :: xs, ys, _, _, σ, s, Q, hn, hl, .nil, I, h => by simp at hl
  | x :: xs, ys, d :: ds, v :: vs, σ, s, Q, hn, hl, .cons rv rs, I, h => by
    show wpAny _ _ (do holding vs (assign (.Name (f x) (ys.headD default).pos) env v); assignInOrder ((assignEach (namesX (xs.map f) ys.tail) env).map (·.2)) vs) _ _ s
    refine wpAny_bind (wpAny_holding (wpAny_assign_Name (store_var I FO Wr O (hn x (.head _)) rv fun s₁ hs₁ g₁ I₁ => ?_)))
    exact s_assigns FO Wr O f xs ys.tail ds vs (σ.set x d) s₁ Q (fun i hi => hn i (.tail _ hi)) (Nat.succ.inj hl) (rs.grow g₁) I₁ fun s₂ hs₂ g₂ I₂ => h s₂ (hs₁.trans hs₂) (g₁.trans g₂) I₂
theorem assignEach_len (env : Env) : ∀ (ss : List Str) (ys : List Expr), (assignEach (namesX ss ys) env).length = ss.length ∧ (assignEach (namesX ss ys) env).findIdx? (·.1) = none
  | [], _ => ⟨rfl, rfl⟩
  | s :: ss, ys => by
    obtain ⟨a, b⟩ := assignEach_len env ss ys.tail
    refine ⟨congrArg Nat.succ a, ?_⟩
    show ((false, assign (.Name s (ys.headD default).pos) env) :: assignEach (namesX ss ys.tail) env).findIdx? (·.1) = none
    rw [List.findIdx?_cons, b]
    rfl
/-- a tuple, taken apart -/
theorem s_assignT (FO : FmOK c n true F) (Wr : FmW F) (O : EnvOK F env K ns) {E : Value → Shared → Prop} {f : Nat → Str} {xs : List Nat} {ys : List Expr} {k : Nat} {p : Pos} {ds : List D} {v : Value} {σ : St} {s : Shared} {Q : Unit → Shared → Prop} (hn : ∀ i ∈ xs, ns i = some (f i)) (hl : ds.length = xs.length) (r : Rep s.heap v (.tup ds)) (I : Inv c F σ s)
    (h : ∀ s', SameSh s s' → Grow s.heap s'.heap → Inv c F (setAll σ xs ds) s' → Q () s') : wpAny (model c.prog c.w) F.A (assign (.Tuple (namesX (xs.map f) ys) k p) env v) Q E s := by
  obtain ⟨a, m, vs, rfl, ht, rs⟩ := rep_tup r
  have hlen := rs.length
  obtain ⟨a1, a2⟩ := assignEach_len env (xs.map f) ys
  refine wpAny_assign_Tuple (FO.handled rfl) (IsT.tuple ht) (by rw [a1, List.length_map, List.size_toArray, hlen, hl]) a2 fun h' he => ?_
  have kk : ∀ b o, s.heap.get? b = some o → h'.get? b = some o := fun b o e => he b o (Nat.ne_of_lt (Heap.lt_size e)) e
  exact s_assigns FO Wr O f xs ys ds _ σ { s with heap := h' } Q hn hl.symm (rs.grow (grow_of_keeps kk)) (I.keeps (t := s.toks) kk) fun s₂ hs₂ g₂ I₂ => h s₂ (SameSh.trans ⟨h', s.toks, rfl⟩ hs₂) ((grow_of_keeps kk).trans g₂) I₂
/-- one name, or a tuple of names -/
theorem s_bind (FO : FmOK c n true F) (Wr : FmW F) (O : EnvOK F env K ns) {E : Value → Shared → Prop} {f : Nat → Str} {one : Bool} {xs : List Nat} {y : Expr} {d : D} {v : Value} {σ : St} {s : Shared} {K' : St → Prop} {Q : Unit → Shared → Prop} (hn : ∀ i ∈ xs, ns i = some (f i)) (r : Rep s.heap v d) (I : Inv c F σ s) (w : bindT one xs d K' σ)
    (h : ∀ s' ds, SameSh s s' → Grow s.heap s'.heap → Inv c F (setAll σ xs ds) s' → K' (setAll σ xs ds) → Q () s') : wpAny (model c.prog c.w) F.A (assign (tgt one (xs.map f) y) env v) Q E s := by
  cases one with
  | true =>
    match xs, w, hn, h with
    | [x], w, hn, h => exact wpAny_assign_Name (store_var I FO Wr O (hn x (.head _)) r fun s' h1 h2 h3 => h s' [d] h1 h2 h3 w)
    | [], w, _, _ => exact (show False from w).elim
    | _ :: _ :: _, w, _, _ => exact (show False from w).elim
  | false =>
    obtain ⟨ds, rfl, hl, w⟩ := w
    exact s_assignT FO Wr O hn hl r I fun s' h1 h2 h3 => h s' ds h1 h2 h3 w
end

/-! the cells that a comprehension sees -/
def clo (env : Env) : List (Str × NameKind) → List (Str × Addr) → List (Str × Addr)
  | [], cs => cs
  | (x, k) :: r, cs => clo env r (if k == .free then (x, (env.cells.lookup x).getD 0) :: cs else cs)
theorem closure_eq {sc : Scope} {env : Env} (h : ∀ p ∈ sc.names, p.2 = .free → ∃ a, env.cells.lookup p.1 = some a) : closureFor sc env = pure (clo env sc.names []) := by
  unfold closureFor
  have key : ∀ (l : List (Str × NameKind)) (cs : List (Str × Addr)), (∀ p ∈ l, p.2 = .free → ∃ a, env.cells.lookup p.1 = some a) →
      (forIn l cs (fun (x : Str × NameKind) r => if (x.2 == NameKind.free) = true then do let a ← cellOf env x.1; pure (ForInStep.yield ((x.1, a) :: r)) else pure (ForInStep.yield r)) : Sem (List (Str × Addr))) = pure (clo env l cs) := by
    intro l
    induction l with
    | nil => intro cs _; rfl
    | cons p l ih =>
      intro cs h
      obtain ⟨x, k⟩ := p
      rw [List.forIn_cons]
      cases hk : k == NameKind.free with
      | true =>
        obtain ⟨a, ha⟩ := h (x, k) (.head _) (beq_iff_eq.mp hk)
        have hc : cellOf env x = pure a := by unfold cellOf; rw [ha]
        simp only [if_true, hc, pure_bind]
        rw [ih _ fun p hp => h p (.tail _ hp)]
        show pure (clo env l ((x, a) :: cs)) = pure (clo env l (if (k == .free) = true then (x, (env.cells.lookup x).getD 0) :: cs else cs))
        rw [hk, if_pos rfl, ha]; rfl
      | false =>
        simp only [if_false, pure_bind, Bool.false_eq_true]
        rw [ih _ fun p hp => h p (.tail _ hp)]
        show pure (clo env l cs) = pure (clo env l (if (k == .free) = true then (x, (env.cells.lookup x).getD 0) :: cs else cs))
        rw [hk, if_neg Bool.false_ne_true]
  have := key sc.names [] h
  simp only [bind_pure]
  exact this
theorem clo_at {env : Env} {x : Str} {a : Addr} (ha : env.cells.lookup x = some a) : ∀ (l : List (Str × NameKind)) (cs : List (Str × Addr)), ((x, NameKind.free) ∈ l ∨ cs.lookup x = some a) → (clo env l cs).lookup x = some a
  | [], cs, h => by
    rcases h with h | h
    · cases h
    · exact h
  | (y, k) :: l, cs, h => by
    unfold clo
    refine clo_at ha l _ ?_
    cases hk : k == NameKind.free with
    | true =>
      rw [if_pos rfl]
      by_cases z : x = y
      · subst z
        exact .inr (by rw [List.lookup_cons_self, ha]; rfl)
      · rcases h with h | h
        · rcases List.mem_cons.mp h with h | h
          · cases h; exact absurd rfl z
          · exact .inl h
        · exact .inr (by rw [List.lookup_cons, beq_eq_false_iff_ne.mpr z]; exact h)
    | false =>
      rw [if_neg Bool.false_ne_true]
      rcases h with h | h
      · rcases List.mem_cons.mp h with h | h
        · cases h; cases hk
        · exact .inl h
      · exact .inr h
theorem relK_cell {K : Str → Option NameKind} {x : Str} : ∀ {names : List (Str × NameKind)}, (∀ p ∈ names, p.2 ≠ .cell) → relK K names x = some .cell → (x, NameKind.free) ∈ names ∧ K x = some .cell
  | [], _, h => by cases h
  | (y, k) :: r, hn, h => by
    have h : List.lookup x ((if (k == NameKind.free && K y == some .cell) = true then (y, NameKind.cell) else (y, k)) :: (r.map fun (n, k) => if (k == .free && K n == some .cell) then (n, NameKind.cell) else (n, k))) = some .cell := h
    by_cases hc : (k == NameKind.free && K y == some .cell) = true
    · rw [if_pos hc, List.lookup_cons] at h
      by_cases z : x = y
      · subst z
        obtain ⟨h1, h2⟩ := and2 hc
        exact ⟨by rw [beq_iff_eq.mp h1]; exact .head _, beq_iff_eq.mp h2⟩
      · rw [beq_eq_false_iff_ne.mpr z] at h
        obtain ⟨h1, h2⟩ := relK_cell (fun p hp => hn p (.tail _ hp)) h
        exact ⟨.tail _ h1, h2⟩
    · rw [if_neg hc, List.lookup_cons] at h
      by_cases z : x = y
      · subst z
        rw [beq_self_eq_true] at h
        exact absurd (Option.some.inj h) (hn _ (.head _))
      · rw [beq_eq_false_iff_ne.mpr z] at h
        obtain ⟨h1, h2⟩ := relK_cell (fun p hp => hn p (.tail _ hp)) h
        exact ⟨.tail _ h1, h2⟩

/-! a comprehension's turns -/
/-- an iterator under a comprehension: hb is the heap ahead of its records -/
structure CIt (c : Cx) (F : Fm) (σ : St) (hb : Heap) (fl : Bool) (items : List D) (it : Value) (wr : List Addr) (At : Nat → Heap → Prop) (Md : Nat → Value → Heap → Prop) (target : Expr) : Prop where
  next : ∀ {i : Nat} {s : Shared} {E : Value → Shared → Prop} {Q : Option Value → Shared → Prop} {d : D}, Inv c F σ s → At i s.heap → items[i]? = some d →
    (∀ v h' t, Rep h' v d → Md (i + 1) v h' → (∀ b o, b ∉ wr → s.heap.get? b = some o → h'.get? b = some o) → Q (some v) { s with heap := h', toks := t }) → wpAny (model c.prog c.w) F.A (pyNext it) Q E s
  last : ∀ {i : Nat} {s : Shared} {E : Value → Shared → Prop} {Q : Option Value → Shared → Prop}, Inv c F σ s → At i s.heap → i = items.length →
    (∀ h' t, (∀ b o, b ∉ wr → s.heap.get? b = some o → h'.get? b = some o) → Q none { s with heap := h', toks := t }) → wpAny (model c.prog c.w) F.A (pyNext it) Q E s
  goes : ∀ {i : Nat} {s : Shared} {E : Value → Shared → Prop} {Q : Unit → Shared → Prop} {v : Value}, Md i v s.heap →
    (∀ h', At i h' → (∀ b o, b ∉ wr → s.heap.get? b = some o → h'.get? b = some o) → (∀ u d, Rep s.heap u d → Rep h' u d) → Q () { s with heap := h' }) → wpAny (model c.prog c.w) F.A (letOwnedTupleGo target it v) Q E s
  keep : ∀ {i : Nat} {h h' : Heap}, At i h → Grow h h' → At i h'
  safe : ∀ {i : Nat} {h h' : Heap} {v : Value} {d : D}, At i h → (∀ b o, b ∉ wr → h.get? b = some o → h'.get? b = some o) → (fl = true → flatD d = true) → Rep h v d → Rep h' v d
  kinds : ∀ {i : Nat} {h : Heap}, At i h → ∀ b ∈ wr, ∃ o, h.get? b = some o ∧ noDict o ∧ ∀ ws m, o.data = .seq ws m → o.cls ≠ .type "list"
  kindsM : ∀ {i : Nat} {v : Value} {h : Heap}, Md i v h → ∀ b ∈ wr, ∃ o, h.get? b = some o ∧ noDict o ∧ ∀ ws m, o.data = .seq ws m → o.cls ≠ .type "list"
  fresh : ∀ b ∈ wr, hb.get? b = none
  self : ∀ {i : Nat} {s : Shared} {E : Value → Shared → Prop} {Q : Value → Shared → Prop}, At i s.heap → Q it s → wpAny (model c.prog c.w) F.A (pyIter it) Q E s

theorem reps_safe {h h' : Heap} {fl : Bool} (f : ∀ {v : Value} {d : D}, (fl = true → flatD d = true) → Rep h v d → Rep h' v d) : ∀ {vs : List Value} {ds : List D}, (fl = true → ds.all flatD = true) → Reps h vs ds → Reps h' vs ds
  | _, _, _, .nil => .nil
  | _, _, k, .cons x y => .cons (f (fun z => (and2 (k z)).1) x) (reps_safe f (fun z => (and2 (k z)).2) y)

section
variable {prog : Program} {w : World} {A : Around} {s : Shared} {R : Result → Shared → Prop}
/-- a comprehension's loop: no turn raises -/
theorem comp_loop {elt target iter : Expr} {scope : Scope} {pos : Pos} {it acc : Value} {env : Env} (I : Nat → Shared → Prop)
    (turn : ∀ n s, I n s → wpAny (model prog w) A (pyNext it) (fun r s₁ => match r with
      | none => R (.ok .next) s₁
      | some v => wpAny (model prog w) A (letOwnedTupleGo target it v) (fun _ s₁ => wpAny (model prog w) A (assign target env v) (fun _ s₂ => wpAny (model prog w) A (eval elt env) (fun x s₃ =>
          wpAny (model prog w) A (call (.builtin "list.append") [acc, x]) (fun _ s₄ => ∃ m, m < n ∧ I m s₄) (fun _ _ => False) s₃) (fun _ _ => False) s₂) (fun _ _ => False) s₁) (fun _ _ => False) s₁) (fun _ _ => False) s)
    (n : Nat) (h : I n s) : codeAny (model prog w) A (.compLoop (.ListComp elt [⟨target, iter, [], 0⟩] scope pos) 0 it acc env) R s := by
  refine codeAny_loop rfl I (fun n s hI => ?_) n h
  show wpAny _ _ ((compTurn (.ListComp elt [⟨target, iter, [], 0⟩] scope pos) 0 it acc env).onRaise (fun x => do noteFrame x env; theTreesLotGoes x)) _ _ s
  refine wpAny_noted ?_
  rw [compTurn_list1]
  refine wpAny_bind (wpAny_standAt (wpAny_bind (wpAny_mono (turn n s hI) (fun r s₁ h₁ => ?_) fun _ _ h' => h'.elim)))
  cases r with
  | none => exact wpAny_pure h₁
  | some v =>
    exact wpAny_bind (wpAny_mono h₁ (fun _ s₁ h₁ => wpAny_bind (wpAny_mono h₁ (fun _ s₂ h₂ => wpAny_bind (wpAny_bind (wpAny_mono h₂ (fun x s₃ h₃ => wpAny_bind (wpAny_mono h₃
      (fun _ s₄ h₄ => wpAny_pure (wpAny_pure ⟨rfl, h₄⟩)) fun _ _ h' => h'.elim)) fun _ _ h' => h'.elim))) fun _ _ h' => h'.elim)) fun _ _ h' => h'.elim)
end

theorem setAll_sto (σ : St) : ∀ (xs : List Nat) (ds : List D), (setAll σ xs ds).sto = σ.sto
  | [], _ => rfl
  | _ :: _, [] => rfl
  | x :: xs, d :: ds => setAll_sto (σ.set x d) xs ds
theorem setAll_off : ∀ (xs : List Nat) (ds : List D) (σ : St) (i : Nat), i ∉ xs → (setAll σ xs ds).loc i = σ.loc i
  | [], _, _, _, _ => rfl
  | _ :: _, [], _, _, _ => rfl
  | x :: xs, d :: ds, σ, i, h => (setAll_off xs ds (σ.set x d) i fun m => h (.tail _ m)).trans (if_neg fun (z : i = x) => h (by rw [z]; exact .head _))
theorem setAll_loc {σ σ' : St} : ∀ (xs : List Nat) (ds : List D), ∀ i, (i ∉ xs → σ.loc i = σ'.loc i) → (setAll σ xs ds).loc i = (setAll σ' xs ds).loc i ∨ (ds.length < xs.length)
  | [], _, i, h => .inl (h (by simp))
  | x :: xs, [], i, h => .inr (by simp)
  | x :: xs, d :: ds, i, h => by
    rcases setAll_loc (σ := σ.set x d) (σ' := σ'.set x d) xs ds i (fun hi => by
      by_cases z : i = x
      · simp [St.set, z]
      · simp only [St.set, if_neg z]; exact h (fun m => (List.mem_cons.mp m).elim z hi)) with e | e
    · exact .inl e
    · exact .inr (by simpa using e)
end Mine

/-! ## M12b -/
namespace Mine
open PySem PySem.SeqAt

section
variable {c : Cx} {F : Fm} {env : Env} {V : Vw} {n : Nat} {σ : St} {sb s : Shared}

/-- the places of a comprehension's variables -/
def compLoc (is : List Nat) (f : Nat → Str) (C : Addr) (o : Nat → Option Loc) (i : Nat) : Option Loc := if is.contains i then some (.ns C (f i)) else o i
theorem compLoc_neg {is : List Nat} {f : Nat → Str} {C : Addr} {o : Nat → Option Loc} {i : Nat} (h : is.contains i = false) : compLoc is f C o i = o i := if_neg (by rw [h]; exact Bool.false_ne_true)

/-- the frame that binds a comprehension's variables -/
def Fm.bnd (F : Fm) (hb : Heap) (is : List Nat) (f : Nat → Str) (C : Addr) : Fm := { F with hE := hb, fs := F.fs1, loc := compLoc is f C fun _ => none }
/-- the frame that runs a comprehension's element -/
def Fm.elt (F : Fm) (hb : Heap) (is : List Nat) (f : Nat → Str) (C : Addr) : Fm := { F with hE := hb, fs := F.fs1, loc := compLoc is f C F.loc }
theorem bnd_pos {is : List Nat} {f : Nat → Str} {C : Addr} {hb : Heap} {i : Nat} (h : is.contains i = true) : (F.bnd hb is f C).loc i = some (.ns C (f i)) := if_pos h
theorem bnd_neg {is : List Nat} {f : Nat → Str} {C : Addr} {hb : Heap} {i : Nat} (h : is.contains i = false) : (F.bnd hb is f C).loc i = none := compLoc_neg (o := fun _ => none) h
theorem elt_pos {is : List Nat} {f : Nat → Str} {C : Addr} {hb : Heap} {i : Nat} (h : is.contains i = true) : (F.elt hb is f C).loc i = some (.ns C (f i)) := if_pos h
theorem elt_neg {is : List Nat} {f : Nat → Str} {C : Addr} {hb : Heap} {i : Nat} (h : is.contains i = false) : (F.elt hb is f C).loc i = F.loc i := compLoc_neg (o := F.loc) h
theorem FmOK.turn {l : Nat → Option Loc} {hb : Heap} (FO : FmOK c n true F) (h : c.B.StaysIn hb) : FmOK c n true { F with hE := hb, fs := F.fs1, loc := l } :=
  ⟨FO.frames, FO.handled, FO.depth, FO.units, FO.globals, FO.builtins, FO.gen, FO.co, h, fun _ _ _ m => m, FO.tab⟩
theorem bnd_w {is : List Nat} {f : Nat → Str} {C : Addr} {hb : Heap} (hC : hb.get? C = none) (ha : ∀ i ∈ is, ∀ j ∈ is, f i = f j → i = j) : FmW (F.bnd hb is f C) where
  fresh := fun i l e => by
    cases h : is.contains i with
    | true => rw [bnd_pos h] at e; cases e; exact hC
    | false => rw [bnd_neg h] at e; cases e
  apart := fun i j l e e' => by
    cases h : is.contains i with
    | false => rw [bnd_neg h] at e; cases e
    | true =>
      rw [bnd_pos h] at e; cases e
      cases h' : is.contains j with
      | false => rw [bnd_neg h'] at e'; cases e'
      | true =>
        rw [bnd_pos h'] at e'
        injection e' with e'; injection e' with _ e'
        exact ha i (by simpa using h) j (by simpa using h') e'.symm

def st0 : St := ⟨fun _ => none, fun _ => none⟩
/-- the list that a comprehension fills, and nothing else -/
theorem bnd_inv (FO : FmOK c n true F) (I : Inv c F σ sb) (hs : SameSh sb s) (k : Kept F.fs1 sb.heap s.heap) {is : List Nat} {f : Nat → Str} {C L : Addr} {vs : List Value} {ds : List D} (hC : ∃ m, s.heap.Ns C m) (hL : s.heap.PlainList L vs.toArray) (nL : sb.heap.get? L = none) (r : Reps s.heap vs ds) :
    Inv c (F.bnd sb.heap is f C) (st0.put L (.list true ds)) s where
  same := (I.after FO k hs).same
  base := (I.after FO k hs).base
  kept := k
  frames := (I.after FO k hs).frames
  vars := fun i d e => by cases e
  places := fun i l e => by
    cases h : is.contains i with
    | true => rw [bnd_pos h] at e; cases e; exact hC
    | false => rw [bnd_neg h] at e; cases e
  sto := fun b k' e => by
    by_cases z : b = L
    · subst z
      have e' : some (Cell.list true ds) = some k' := by simpa [St.put, Sto.put] using e
      cases e'
      exact ⟨vs, hL.isList, fun _ => ⟨hL, nL⟩, r⟩
    · have e' : (none : Option Cell) = some k' := by simp [St.put, Sto.put, z, st0] at e
      cases e'
theorem setAll_ro : ∀ (xs : List Nat) (ds : List D) (σ : St), setAll σ.ro xs ds = (setAll σ xs ds).ro
  | [], _, _ => rfl
  | _ :: _, [], _ => rfl
  | x :: xs, d :: ds, σ => setAll_ro xs ds (σ.set x d)
/-- the state of an element -/
theorem elt_inv (FO : FmOK c n true F) (I : Inv c F σ sb) {s₃ : Shared} (hs : SameSh sb s₃) (k : Kept F.fs1 sb.heap s₃.heap) {is : List Nat} {f : Nat → Str} {C : Addr} {τ : St} {ds : List D} (J : Inv c (F.bnd sb.heap is f C) (setAll τ is ds) s₃) (hl : ds.length = is.length) (hU : ∀ i ∈ is, F.loc i = none) :
    Inv c (F.elt s₃.heap is f C) (setAll σ is ds).ro s₃ where
  same := J.same
  base := J.base
  kept := Kept.refl _ _
  frames := J.frames
  vars := fun i d e => by
    have e : (setAll σ is ds).loc i = some d := e
    have I₃ := I.after FO k hs
    cases h : is.contains i with
    | true =>
      have hi : i ∈ is := by simpa using h
      rcases setAll_loc (σ := σ) (σ' := τ) is ds i (fun m => absurd hi m) with z | z
      · rw [z] at e
        obtain ⟨l, v, e1, e2, e3⟩ := J.vars i d e
        refine ⟨l, v, ?_, e2, e3⟩
        rw [bnd_pos h] at e1
        exact (elt_pos h).trans e1
      · omega
    | false =>
      have hi : i ∉ is := fun m => by rw [List.contains_iff_mem.mpr m] at h; cases h
      obtain ⟨l, v, e1, e2, e3⟩ := I₃.vars i d ((setAll_off is ds σ i hi).symm.trans e)
      exact ⟨l, v, (elt_neg h).trans e1, e2, e3⟩
  places := fun i l e => by
    have I₃ := I.after FO k hs
    cases h : is.contains i with
    | true =>
      rw [elt_pos h] at e
      cases e
      exact J.places i _ (bnd_pos h)
    | false => rw [elt_neg h] at e; exact I₃.places i l e
  sto := fun a k' e => by
    have I₃ := I.after FO k hs
    have e' : (((setAll σ is ds).sto a).map Cell.ro) = some k' := e
    rw [setAll_sto] at e'
    obtain ⟨k₀, h1, rfl⟩ := Option.map_eq_some_iff.mp e'
    exact Cell.ro_ok (I₃.sto a k₀ h1)
/-- a target, bound from another state -/
theorem bind_other {one : Bool} {is : List Nat} {d : D} {K : St → Prop} {τ : St} {m : Nat} (w : bindT one is d K σ) (hm : is.length = m) : bindT one is d (fun σ₂ => ∃ es, es.length = m ∧ σ₂ = setAll τ is es ∧ K (setAll σ is es)) τ := by
  subst hm
  cases one with
  | true =>
    match is, w with
    | [x], w => exact ⟨[d], rfl, rfl, w⟩
    | [], w => exact (show False from w).elim
    | _ :: _ :: _, w => exact (show False from w).elim
  | false =>
    obtain ⟨ds, rfl, hl, w⟩ := w
    exact ⟨ds, rfl, hl, ds, hl, rfl, w⟩
/-- the variables' place stands -/
theorem bnd_ns {s' : Shared} {is : List Nat} {f : Nat → Str} {C : Addr} {hb : Heap} {τ : St} (J : Inv c (F.bnd hb is f C) τ s') (h0 : is ≠ []) : ∃ m, s'.heap.Ns C m := by
  cases is with
  | nil => exact absurd rfl h0
  | cons i is => exact J.places i _ (bnd_pos (by simp))
end
end Mine

/-! ## M12c -/
namespace Mine
open PySem PySem.SeqAt

structure CompOK (V V' : Vw) (sc : Scope) (is : List Nat) : Prop where
  kind : sc.kind = .function
  cell : ∀ p ∈ sc.names, p.2 ≠ .cell
  names : ∀ p ∈ sc.names, p.2 = .local → sc.names.lookup p.1 = some .local
  free : ∀ p ∈ sc.names, p.2 = .free → V.K p.1 = some .cell
  loc : ∀ i ∈ is, V'.K (V'.nL i) = some .local
  us : ∀ i ∈ is, V.us i = false
  ap : ∀ i ∈ is, ∀ j ∈ is, V'.nL i = V'.nL j → i = j
  ne : is ≠ []
theorem or_not {a b : Bool} (h : (!a || b) = true) (x : a = true) : b = true := by subst x; exact h
theorem compOK_of {V V' : Vw} {xs : List (Nat × Str)} {sc : Scope} {is : List Nat} (h : okComp V xs sc is V' = true) : CompOK V V' sc is := by
  obtain ⟨h, h4⟩ := and2 h
  obtain ⟨h, h3⟩ := and2 h
  obtain ⟨h1, h2⟩ := and2 h
  obtain ⟨h0, h1⟩ := and2 h1
  have h1 := List.all_eq_true.mp h1
  have h2 := List.all_eq_true.mp h2
  have h3 := List.all_eq_true.mp h3
  exact {
    kind := beq_iff_eq.mp h0
    cell := fun p hp z => by
      have := (and2 (and2 (h1 p hp)).1).1
      rw [z] at this; cases this
    names := fun p hp z => beq_iff_eq.mp (or_not (and2 (and2 (h1 p hp)).1).2 (beq_iff_eq.mpr z))
    free := fun p hp z => beq_iff_eq.mp (or_not (and2 (h1 p hp)).2 (beq_iff_eq.mpr z))
    loc := fun i hi => beq_iff_eq.mp (and2 (h2 i hi)).1
    us := fun i hi => beq_iff_eq.mp (and2 (h2 i hi)).2
    ap := fun i hi j hj e => beq_iff_eq.mp (or_not (List.all_eq_true.mp (h3 i hi) j hj) (beq_iff_eq.mpr e))
    ne := fun z => by subst z; cases h4 }

section
variable {c : Cx} {F : Fm} {env : Env} {V : Vw} {n : Nat} {σ : St} {xs : List (Nat × Str)} {sc : Scope}

theorem comp_kinds (R : Run c F env V n true) (x : Str) (cl : List (Str × Addr)) (C : Addr) : (compEnvC sc cl C env).kindOf x = (V.comp xs sc).K x := by
  show (sc.names.map fun (n, k) => if (k == .free && env.scope.kind == .function && env.kindOf n == some .cell) then (n, NameKind.cell) else (n, k)).lookup x = (sc.names.map fun (n, k) => if (k == .free && V.K n == some .cell) then (n, NameKind.cell) else (n, k)).lookup x
  congr 1
  refine List.map_congr_left fun p _ => ?_
  obtain ⟨m, k⟩ := p
  show (if (k == .free && env.scope.kind == .function && env.kindOf m == some .cell) = true then (m, NameKind.cell) else (m, k)) = if (k == .free && V.K m == some .cell) = true then (m, NameKind.cell) else (m, k)
  rw [R.O.kind, R.O.kinds m, show (ScopeKind.function == ScopeKind.function) = true from rfl, Bool.and_true]
theorem bnd_env (R : Run c F env V n true) (H : CompOK V (V.comp xs sc) sc (xs.map (·.1))) (hb : Heap) (C : Addr) :
    EnvOK (F.bnd hb (xs.map (·.1)) (V.comp xs sc).nL C) (compEnvC sc (clo env sc.names []) C env) (V.comp xs sc).K (fun i => if (xs.map (·.1)).contains i then some ((V.comp xs sc).nL i) else none) where
  kind := H.kind
  globals := R.O.globals
  builtins := R.O.builtins
  kinds := fun x => comp_kinds R x _ _
  res := fun i x hx => by
    cases h : (xs.map (·.1)).contains i with
    | false => rw [h] at hx; cases hx
    | true =>
      rw [h] at hx; cases hx
      exact .inl ⟨(comp_kinds R _ _ _).trans (H.loc i (List.contains_iff_mem.mp h)), bnd_pos h⟩
  cells := fun x hx => by
    obtain ⟨h1, h2⟩ := relK_cell H.cell hx
    obtain ⟨a, ha⟩ := R.O.cells x h2
    exact ⟨a, clo_at ha _ _ (.inl h1)⟩
theorem elt_env (R : Run c F env V n true) (H : CompOK V (V.comp xs sc) sc (xs.map (·.1))) (hb : Heap) (C : Addr) :
    EnvOK (F.elt hb (xs.map (·.1)) (V.comp xs sc).nL C) (compEnvC sc (clo env sc.names []) C env) (V.comp xs sc).K (V.comp xs sc).ns where
  kind := H.kind
  globals := R.O.globals
  builtins := R.O.builtins
  kinds := fun x => comp_kinds R x _ _
  res := fun i x hx => by
    have hx : (if (xs.map (·.1)).contains i then some ((V.comp xs sc).nL i) else match V.ns i with
      | some x => if relK V.K sc.names x == some .cell then some x else none
      | none => none) = some x := hx
    cases h : (xs.map (·.1)).contains i with
    | true =>
      rw [h] at hx; cases hx
      exact .inl ⟨(comp_kinds R _ _ _).trans (H.loc i (List.contains_iff_mem.mp h)), elt_pos h⟩
    | false =>
      rw [h, if_neg Bool.false_ne_true] at hx
      cases hv : V.ns i with
      | none => rw [hv] at hx; cases hx
      | some y =>
        rw [hv] at hx
        have hx : (if (relK V.K sc.names y == some .cell) = true then some y else none) = some x := hx
        by_cases hr : (relK V.K sc.names y == some .cell) = true
        · rw [if_pos hr] at hx; cases hx
          obtain ⟨h1, h2⟩ := relK_cell H.cell (beq_iff_eq.mp hr)
          rcases R.O.res i x hv with ⟨k1, _⟩ | ⟨k1, a, k2, k3⟩
          · rw [R.O.kinds, h2] at k1; cases k1
          · exact .inr ⟨(comp_kinds (xs := xs) R _ _ _).trans (beq_iff_eq.mp hr), a, clo_at k2 _ _ (.inl h1), (elt_neg h).trans k3⟩
        · rw [if_neg hr] at hx; cases hx
  cells := fun x hx => by
    obtain ⟨h1, h2⟩ := relK_cell H.cell hx
    obtain ⟨a, ha⟩ := R.O.cells x h2
    exact ⟨a, clo_at ha _ _ (.inl h1)⟩
theorem elt_run (R : Run c F env V n true) (H : CompOK V (V.comp xs sc) sc (xs.map (·.1))) {hb : Heap} (hB : c.B.StaysIn hb) (C : Addr) :
    Run c (F.elt hb (xs.map (·.1)) (V.comp xs sc).nL C) (compEnvC sc (clo env sc.names []) C env) (V.comp xs sc) n true :=
  ⟨R.CO, R.EO, R.FO.turn hB, elt_env R H hb C, fun i hi => by
    have hi : (V.us i || (xs.map (·.1)).contains i) = false := hi
    rw [Bool.or_eq_false_iff] at hi
    exact (elt_neg hi.2).trans (R.U i hi.1)⟩

theorem kept_wr {fs wr : List Addr} {hb h h' : Heap} (x : Kept fs hb h) (fr : ∀ b ∈ wr, hb.get? b = none) (k : ∀ b o, b ∉ wr → h.get? b = some o → h'.get? b = some o) : Kept fs hb h' := fun b o e => by
  obtain ⟨sl, e1, q⟩ := x b o e
  exact ⟨sl, k b _ (fun m => by rw [fr b m] at e; cases e) e1, q⟩
theorem ns_off {wr : List Addr} {h : Heap} {C : Addr} (hC : ∃ m, h.Ns C m) (kd : ∀ b ∈ wr, ∃ o, h.get? b = some o ∧ noDict o ∧ ∀ ws m, o.data = .seq ws m → o.cls ≠ .type "list") : C ∉ wr := fun m => by
  obtain ⟨_, o, es, ep, ho, hd, _⟩ := hC
  obtain ⟨o', h1, h2, _⟩ := kd C m
  rw [ho] at h1; cases h1
  exact h2 _ _ hd
theorem ns_at {h h' : Heap} {C : Addr} (hC : ∃ m, h.Ns C m) (k : ∀ o, h.get? C = some o → h'.get? C = some o) : ∃ m, h'.Ns C m := by
  obtain ⟨m, hn⟩ := hC
  exact ⟨m, hn.at' k⟩
theorem lst_off {wr : List Addr} {h : Heap} {L : Addr} {ws : Array Value} (hL : h.PlainList L ws) (kd : ∀ b ∈ wr, ∃ o, h.get? b = some o ∧ noDict o ∧ ∀ ws m, o.data = .seq ws m → o.cls ≠ .type "list") : L ∉ wr := fun m => by
  obtain ⟨_, ho⟩ := hL
  obtain ⟨o', h1, _, h3⟩ := kd L m
  rw [ho] at h1; cases h1
  exact h3 _ _ rfl rfl
theorem plain_kept {fs : List Addr} {h h' : Heap} {L : Addr} {ws : Array Value} (k : Kept fs h h') (hL : h.PlainList L ws) : h'.PlainList L ws := by
  obtain ⟨m, ho⟩ := hL
  exact ⟨m, k.exact ho (.inr fun es n q => by cases q)⟩
theorem grow_but {h h' : Heap} {L : Addr} {ws : Array Value} (hL : h.PlainList L ws) (k : ∀ b o, b ≠ L → h.get? b = some o → h'.get? b = some o) : Grow h h' := fun b o e st => k b o (fun z => by
  subst z
  obtain ⟨m, ho⟩ := hL
  rw [e] at ho; cases ho
  rcases st with ⟨_, _, hc, _⟩ | ⟨_, hd⟩
  · exact absurd hc (by simp)
  · cases hd) e

/-- the turns of a comprehension -/
theorem s_turns (R : Run c F env V n true) (H : CompOK V (V.comp xs sc) sc (xs.map (·.1))) {elt : (D → St → Prop) → St → Prop} {P : D → Prop} {fl : Bool} (hP : ∀ r, fl = true → P r → flatD r = true) {eltx itx y : Expr} {pos : Pos}
    (eltS : ∀ {F' : Fm} {env' : Env}, Run c F' env' (V.comp xs sc) n true → ∀ {K : D → St → Prop} {σ : St} {s : Shared}, Inv c F' σ s → elt K σ → wpAny (model c.prog c.w) F'.A (eval eltx env') (Post c F' s.heap K) (Exc c F' s.heap noX) s)
    {sb s : Shared} {items : List D} {it : Value} {wr : List Addr} {At : Nat → Heap → Prop} {Md : Nat → Value → Heap → Prop} {C L : Addr} {Rr : Result → Shared → Prop} {Kf : List D → Prop}
    (I : Inv c F σ sb) (W : CIt c F σ sb.heap fl items it wr At Md (tgt (xs.length == 1) ((xs.map (·.1)).map (V.comp xs sc).nL) y)) (nC : sb.heap.get? C = none) (nL : sb.heap.get? L = none) (hCL : C ≠ L) (hl : items.length ≤ lim)
    (hs : SameSh sb s) (k : Kept F.fs1 sb.heap s.heap) (hat : At 0 s.heap) (hC : ∃ m, s.heap.Ns C m) (hL : s.heap.PlainList L #[]) (w : compL (turnW xs elt P σ) items [] Kf)
    (done : ∀ s' ds vs, SameSh sb s' → Kept F.fs1 sb.heap s'.heap → (∃ m, s'.heap.Ns C m) → s'.heap.PlainList L (List.toArray vs) → Reps s'.heap vs ds → Kf ds → Rr (.ok .next) s') :
    codeAny (model c.prog c.w) F.A (.compLoop (.ListComp eltx [⟨tgt (xs.length == 1) ((xs.map (·.1)).map (V.comp xs sc).nL) y, itx, [], 0⟩] sc pos) 0 it (.ref L) (compEnvC sc (clo env sc.names []) C env)) Rr s := by
  have hb : c.B.StaysIn sb.heap := I.base
  refine comp_loop (fun m s₁ => ∃ i ds vs, i ≤ items.length ∧ m = items.length - i ∧ SameSh sb s₁ ∧ Kept F.fs1 sb.heap s₁.heap ∧ At i s₁.heap ∧ (∃ m, s₁.heap.Ns C m) ∧ s₁.heap.PlainList L (List.toArray vs) ∧ Reps s₁.heap vs ds ∧ (fl = true → ds.all flatD = true) ∧ ds.length = i ∧ compL (turnW xs elt P σ) (items.drop i) ds Kf) (fun m s₁ hI => ?_) items.length
    ⟨0, [], [], Nat.zero_le _, rfl, hs, k, hat, hC, hL, .nil, fun _ => rfl, rfl, by rw [List.drop_zero]; exact w⟩
  obtain ⟨i, ds, vs, hi, rfl, hs₁, k₁, hat₁, hC₁, hL₁, r₁, fl₁, hlen, w₁⟩ := hI
  have I₁ : Inv c F σ s₁ := I.after R.FO k₁ hs₁
  rcases Nat.lt_or_eq_of_le hi with hlt | rfl
  · rw [List.drop_eq_getElem_cons hlt] at w₁
    have w₁ : bindT (xs.length == 1) (xs.map (·.1)) items[i] (fun σ₂ => elt (fun r _ => P r ∧ compL (turnW xs elt P σ) (items.drop (i + 1)) (ds ++ [r]) Kf) σ₂) σ.ro := w₁
    refine W.next I₁ hat₁ (List.getElem?_eq_getElem hlt) fun v h₂ t rv md k₂ => ?_
    have kd := W.kinds hat₁
    have hC₂ := ns_at hC₁ (h' := h₂) fun o e => k₂ C o (ns_off hC₁ kd) e
    have hL₂ : h₂.PlainList L (List.toArray vs) := hL₁.at fun o e => k₂ L o (lst_off hL₁ kd) e
    have r₂ : Reps h₂ vs ds := reps_safe (fl := fl) (fun q r => W.safe hat₁ k₂ q r) fl₁ r₁
    refine W.goes md fun h₃ hat₃ k₃ rr₃ => ?_
    have kd₃ := W.kindsM md
    have hC₃ := ns_at hC₂ (h' := h₃) fun o e => k₃ C o (ns_off hC₂ kd₃) e
    have hL₃ : h₃.PlainList L (List.toArray vs) := hL₂.at fun o e => k₃ L o (lst_off hL₂ kd₃) e
    have r₃ : Reps h₃ vs ds := reps_safe (fl := false) (fun _ r => rr₃ _ _ r) (fun z => by cases z) r₂
    have kk₃ : Kept F.fs1 sb.heap h₃ := kept_wr (kept_wr k₁ W.fresh k₂) W.fresh k₃
    have hs₃ : SameSh sb { s₁ with heap := h₃, toks := t } := hs₁.trans ⟨h₃, t, rfl⟩
    have J := bnd_inv (s := { s₁ with heap := h₃, toks := t }) (is := xs.map (·.1)) (f := (V.comp xs sc).nL) R.FO I hs₃ kk₃ hC₃ hL₃ nL r₃
    have FOb : FmOK c n true (F.bnd sb.heap (xs.map (·.1)) (V.comp xs sc).nL C) := R.FO.turn hb
    have w₁' : bindT (xs.length == 1) (xs.map (·.1)) items[i] (fun σ₂ => ∃ es, es.length = xs.length ∧ σ₂ = setAll (st0.put L (.list true ds)) (xs.map (·.1)) es ∧ elt (fun r _ => P r ∧ compL (turnW xs elt P σ) (items.drop (i + 1)) (ds ++ [r]) Kf) (setAll σ.ro (xs.map (·.1)) es)) (st0.put L (.list true ds)) := bind_other w₁ (List.length_map ..)
    refine s_bind (K' := fun σ₂ => ∃ es, es.length = xs.length ∧ σ₂ = setAll (st0.put L (.list true ds)) (xs.map (·.1)) es ∧ elt (fun r _ => P r ∧ compL (turnW xs elt P σ) (items.drop (i + 1)) (ds ++ [r]) Kf) (setAll σ.ro (xs.map (·.1)) es)) FOb (bnd_w nC H.ap) (bnd_env R H sb.heap C) (fun j hj => if_pos (List.contains_iff_mem.mpr hj)) (rr₃ _ _ rv) J w₁' fun s₄ es' hs₄ g₄ J₄ w₄ => ?_
    obtain ⟨es, hes, eq, w₄⟩ := w₄
    rw [eq] at J₄
    have hs₄' : SameSh sb s₄ := hs₃.trans hs₄
    have k₄ : Kept F.fs1 sb.heap s₄.heap := J₄.kept
    have I₄ := elt_inv R.FO I hs₄' k₄ J₄ (by rw [hes, List.length_map]) fun j hj => R.U j (H.us j hj)
    rw [setAll_ro] at w₄
    have p₄ := J₄.sto L (.list true ds) (by rw [setAll_sto]; simp [St.put, Sto.put])
    obtain ⟨vs₄, _, o₄, r₄⟩ := p₄
    have hL₄ := (o₄ rfl).1
    have hC₄ : ∃ m, s₄.heap.Ns C m := bnd_ns J₄ H.ne
    refine wpAny_mono (eltS (elt_run R H I₄.base C) I₄ w₄) (fun x s₅ p₅ => ?_) fun _ _ y => (exc_noX y).elim
    obtain ⟨r, σ₅, g₅, I₅, rx, hPr, w₅⟩ := p₅
    have k₅ : Kept F.fs1 s₄.heap s₅.heap := I₅.kept
    have hs₅ : SameSh sb s₅ := hs₄'.trans (J₄.same.two I₅.same)
    have hL₅ := plain_kept k₅ hL₄
    have hl₄ : vs₄.length = i := by rw [r₄.length, hlen]
    unfold lim at hl
    refine wpAny_list_append_plain hL₅ (fun h₆ hL₆ hs₆ => ?_) (by rw [List.size_toArray, sizeLine_val]; omega)
    have g₆ : Grow s₅.heap h₆ := grow_but hL₅ fun b o nb e => hs₆.extBut b o nb e
    refine ⟨items.length - (i + 1), by omega, i + 1, ds ++ [r], vs₄ ++ [x], hlt, rfl, hs₅.trans ⟨h₆, _, rfl⟩, ?_, ?_, ?_, by simpa using hL₆, ((r₄.grow k₅.grow).append (.cons rx .nil)).grow g₆, fun z => ?_, by rw [List.length_append, hlen]; rfl, w₅⟩
    · exact (k₄.trans k₅).but nL fun b o nb e => hs₆.extBut b o nb e
    · exact W.keep (W.keep (W.keep hat₃ g₄) k₅.grow) g₆
    · obtain ⟨m, hn⟩ := hC₄
      exact ns_at ⟨m, Ns.kept k₅ hn⟩ fun o e => hs₆.extBut C o hCL e
    · rw [List.all_append, fl₁ z]
      show (true && (flatD r && true)) = true
      rw [hP r z hPr]; rfl
  · rw [List.drop_length] at w₁
    refine W.last I₁ hat₁ rfl fun h₂ t k₂ => ?_
    have kd := W.kinds hat₁
    exact done _ ds vs (hs₁.trans ⟨h₂, t, rfl⟩) (kept_wr k₁ W.fresh k₂) (ns_at hC₁ fun o e => k₂ C o (ns_off hC₁ kd) e) (hL₁.at fun o e => k₂ L o (lst_off hL₁ kd) e) (reps_safe (fl := fl) (fun q r => W.safe hat₁ k₂ q r) fl₁ r₁) w₁
end
end Mine

/-! ## M12d -/
namespace Mine
open PySem PySem.SeqAt

theorem rep_fields {h h' : Heap} {wr : List Addr} (own : ∀ b ∈ wr, ∃ o vs, h.get? b = some o ∧ o.data = .fields vs ∧ ∀ C, o.cls ≠ .ref C) (k : ∀ b o, b ∉ wr → h.get? b = some o → h'.get? b = some o) {v : Value} {d : D} (r : Rep h v d) : Rep h' v d :=
  Rep.nf (fs := []) ⟨fun b o e nf => ⟨o.slots, k b o (fun m => by
    obtain ⟨o', vs, e1, e2, _⟩ := own b m
    rw [e] at e1; cases e1; exact nf _ e2) e, fun _ => rfl⟩, fun b o C ws e hc _ => k b o (fun m => by
    obtain ⟨o', vs, e1, _, e3⟩ := own b m
    rw [e] at e1; cases e1; exact e3 C hc) e⟩ r
theorem kinds_fields {h : Heap} {b : Addr} (x : ∃ o vs, h.get? b = some o ∧ o.data = .fields vs ∧ ∀ C, o.cls ≠ .ref C) : ∃ o, h.get? b = some o ∧ noDict o ∧ ∀ ws m, o.data = .seq ws m → o.cls ≠ .type "list" := by
  obtain ⟨o, vs, e1, e2, _⟩ := x
  exact ⟨o, e1, (fun es n z => by rw [e2] at z; cases z), (fun ws m z => by rw [e2] at z; cases z)⟩
section
variable {c : Cx} {F : Fm} {env : Env} {V : Vw} {n : Nat} {σ : St} {xs : List (Nat × Str)} {sc : Scope}
theorem ItOK.cit {items : List D} {g : St → Prop} {it : Value} {wr : List Addr} {At : Nat → Heap → Prop} {hb : Heap} {target : Expr} (W : ItOK c F items g it wr At) (hg : g σ) (fr : ∀ b ∈ wr, hb.get? b = none) : CIt c F σ hb false items it wr At (fun i _ h => At i h) target where
  next := fun I hat hd hQ => W.next I hg hat hd hQ
  last := fun I hat hi hQ => W.last I hg hat hi hQ
  goes := fun md hQ => W.goes md fun h' hat k => hQ h' hat k fun u d r => rep_fields (W.own md) k r
  keep := fun hat g => W.keep hat g
  safe := fun hat k _ r => rep_fields (W.own hat) k r
  kinds := fun hat b hb => kinds_fields (W.own hat b hb)
  kindsM := fun hat b hb => kinds_fields (W.own hat b hb)
  fresh := fr
  self := fun hat h => W.self hat h

/-- a list comprehension -/
theorem s_comp (R : Run c F env V n true) (H : CompOK V (V.comp xs sc) sc (xs.map (·.1))) {elt : (D → St → Prop) → St → Prop} {P : D → Prop} {fl : Bool} (hP : ∀ r, fl = true → P r → flatD r = true) {eltx itx y : Expr} {pos : Pos}
    (eltS : ∀ {F' : Fm} {env' : Env}, Run c F' env' (V.comp xs sc) n true → ∀ {K : D → St → Prop} {σ : St} {s : Shared}, Inv c F' σ s → elt K σ → wpAny (model c.prog c.w) F'.A (eval eltx env') (Post c F' s.heap K) (Exc c F' s.heap noX) s)
    (hfold : ∀ v, foldedSetIterable itx env v = pure v) {Q : D → St → Prop} {E : Value → Shared → Prop} {s : Shared} {h₀ : Heap}
    (first : wpAny (model c.prog c.w) F.A (eval itx env) (fun v s₁ => wpAny (model c.prog c.w) F.A (pyIter v) (fun it s₂ => ∃ items wr At Md sb σ, Grow h₀ sb.heap ∧ Inv c F σ sb ∧ SameSh sb s₂ ∧ (∀ b o, sb.heap.get? b = some o → s₂.heap.get? b = some o) ∧
      CIt c F σ sb.heap fl items it wr At Md (tgt (xs.length == 1) ((xs.map (·.1)).map (V.comp xs sc).nL) y) ∧ At 0 s₂.heap ∧ compW xs elt P Q items σ) E s₁) E s) :
    wpAny (model c.prog c.w) F.A (eval (.ListComp eltx [⟨tgt (xs.length == 1) ((xs.map (·.1)).map (V.comp xs sc).nL) y, itx, [], 0⟩] sc pos) env) (Post c F h₀ Q) E s := by
  rw [eval_ListComp]
  refine wpAny_comprehension_free (use := none) (cl := clo env sc.names []) rfl hfold (closure_eq fun p hp hf => R.O.cells p.1 (H.free p hp hf)) H.kind H.names (wpAny_mono first (fun xv s₁ h₁ => wpAny_mono h₁ (fun it s₂ h₂ => ?_) fun _ _ e => e) fun _ _ e => e)
  obtain ⟨items, wr, At, Md, sb, σ, g, I, hs, kb, W, hat, hl, w⟩ := h₂
  refine wpAny_newObj_type (wpAny_newFunctionEnv H.cell (by intro y hy; simp at hy) (fun h₁ hns₁ hsb₁ => ?_) H.kind)
  dsimp only at hns₁ hsb₁ ⊢
  generalize hH2 : s₂.heap.push { cls := .type "list", dict := none, data := .seq ([] : List Value).toArray } = H2 at hns₁ hsb₁ ⊢
  have hC : H2.objs.size = s₂.heap.objs.size + 1 := by rw [← hH2, Heap.size_push]
  have hDC : s₂.heap.objs.size ≠ H2.objs.size := by rw [hC]; exact Nat.ne_of_lt (Nat.lt_succ_self _)
  have old : ∀ b o, s₂.heap.get? b = some o → h₁.get? b = some o := fun b o e => hsb₁.extBut b o (Nat.ne_of_lt (by rw [hC]; exact Nat.lt_succ_of_lt (Heap.lt_size e))) (Heap.get?_push_of_some _ (hH2 ▸ Heap.get?_push_of_some _ e))
  have hacc : h₁.PlainList s₂.heap.objs.size #[] := ⟨_, hsb₁.extBut _ _ hDC (Heap.get?_push_of_some _ (hH2 ▸ Heap.get?_push_size _ rfl))⟩
  have fresh : ∀ a, s₂.heap.objs.size ≤ a → sb.heap.get? a = none := fun a ha => by
    cases e : sb.heap.get? a with
    | none => rfl
    | some o' => exact absurd (Heap.lt_size (kb a o' e)) (Nat.not_lt.mpr ha)
  have nL := fresh s₂.heap.objs.size (Nat.le_refl _)
  have nC := fresh H2.objs.size (by rw [hC]; exact Nat.le_succ _)
  have keep : Grow s₂.heap h₁ := grow_of_keeps old
  have loop : ∀ s₃ : Shared, s₃ = { s₂ with heap := h₁, toks := s₂.toks + ([] : List (Str × Value)).length } →
      codeAny (model c.prog c.w) F.A (.compLoop (.ListComp eltx [⟨tgt (xs.length == 1) ((xs.map (·.1)).map (V.comp xs sc).nL) y, itx, [], 0⟩] sc pos) 0 it (.ref s₂.heap.objs.size) (compEnvC sc (clo env sc.names []) H2.objs.size env))
        (compPost (model c.prog c.w) F.A E none (Post c F h₀ Q) (.ref s₂.heap.objs.size) H2.objs.size) s₃ := by
    rintro s₃ rfl
    refine s_turns R H hP eltS I W nC nL hDC.symm hl (hs.trans ⟨h₁, _, rfl⟩) (Kept.of_keeps fun b o e => old b o (kb b o e)) (W.keep hat keep) ⟨_, hns₁⟩ hacc w fun s' ds vs hs' k' hC' hL' r' w' => ?_
    obtain ⟨m, hn⟩ := hC'
    refine ⟨m, hn, fun h'' hs'' => ?_⟩
    have kk : Kept F.fs1 sb.heap h'' := k'.but nC fun b o nb e => hs''.extBut b o nb e
    have I' := I.after R.FO (s' := { s' with heap := h'' }) kk (hs'.trans ⟨h'', _, rfl⟩)
    have grow' : Grow s'.heap h'' := fun b o e st => hs''.extBut b o (fun z => by
      subst z
      obtain ⟨o', es, ep, ho, hd, _⟩ := hn
      rw [e] at ho; cases ho
      rcases st with ⟨_, _, _, st⟩ | ⟨_, st⟩ <;> (rw [hd] at st; cases st)) e
    have hL'' : h''.PlainList s₂.heap.objs.size vs.toArray := hL'.at fun o e => hs''.extBut _ o hDC e
    refine ⟨.lst s₂.heap.objs.size, σ.put s₂.heap.objs.size (.list true ds), g.trans kk.grow, ⟨I'.same, I'.base, I'.kept, I'.frames, I'.vars, I'.places, fun b k₁ e => ?_⟩, .lst _, w' _ (I.free nL)⟩
    by_cases z : b = s₂.heap.objs.size
    · subst z
      have e' : some (Cell.list true ds) = some k₁ := by simpa [St.put, Sto.put] using e
      cases e'
      exact ⟨vs, hL''.isList, fun _ => ⟨hL'', kept_none I.kept nL⟩, r'.grow grow'⟩
    · exact I'.sto b k₁ (by simpa [St.put, Sto.put, z] using e)
  exact codeAny_compStart_list (loop _ rfl) (W.self (s := { s₂ with heap := h₁, toks := s₂.toks + ([] : List (Str × Value)).length }) (W.keep hat keep) (loop _ rfl))
end
end Mine

/-! ## M12e -/
namespace Mine
open PySem PySem.SeqAt

/-! zip over two lists: its own tuple turns, so items and results must be flat -/
def zAt (z TI TO i1 i2 l1 l2 : Addr) (f0 : Value) (i : Nat) (h : Heap) : Prop := IsZip h z TI TO f0 ∧ IsPair h TI (.ref i1) (.ref i2) ∧ (∃ p q, IsPair h TO p q ∧ ∀ j t, p ≠ .int j t) ∧ h.IsListIter i1 l1 i ∧ h.IsListIter i2 l2 i

theorem flat_reps {h h' : Heap} : ∀ {vs : List Value} {ds : List D}, ds.all isI = true → Reps h vs ds → Reps h' vs ds
  | _, _, _, .nil => .nil
  | _, _, k, .cons x y => by
    refine .cons ?_ (flat_reps (and2 k).2 y)
    cases x with
    | int i t => exact .int i t
    | _ => exact (Bool.false_ne_true (and2 k).1).elim

theorem zAt_kinds {z TI TO i1 i2 l1 l2 : Addr} {f0 : Value} {i : Nat} {h : Heap} (a : zAt z TI TO i1 i2 l1 l2 f0 i h) : ∀ b ∈ [z, TO, i1, i2], ∃ o, h.get? b = some o ∧ noDict o ∧ ∀ ws m, o.data = .seq ws m → o.cls ≠ .type "list" := fun b hb => by
  obtain ⟨hz, _, ⟨p, q, hTO, _⟩, ⟨o1, e1, _, d1⟩, ⟨o2, e2, _, d2⟩⟩ := a
  rcases List.mem_cons.mp hb with rfl | hb
  · exact ⟨_, hz, (fun es n z => by cases z), (fun ws m z => by cases z)⟩
  rcases List.mem_cons.mp hb with rfl | hb
  · exact ⟨_, hTO, (fun es n z => by cases z), (fun ws m _ z => by simp at z)⟩
  rcases List.mem_cons.mp hb with rfl | hb
  · exact ⟨_, e1, (fun es n z => by rw [d1] at z; cases z), (fun ws m z => by rw [d1] at z; cases z)⟩
  rcases List.mem_cons.mp hb with rfl | hb
  · exact ⟨_, e2, (fun es n z => by rw [d2] at z; cases z), (fun ws m z => by rw [d2] at z; cases z)⟩
  cases hb
theorem zAt_safe {z TI TO i1 i2 l1 l2 : Addr} {f0 : Value} {i : Nat} {h h' : Heap} (a : zAt z TI TO i1 i2 l1 l2 f0 i h) (k : ∀ b o, b ∉ [z, TO, i1, i2] → h.get? b = some o → h'.get? b = some o) {v : Value} {d : D} (fl : flatD d = true) (r : Rep h v d) : Rep h' v d := by
  cases r with
  | int i t => exact .int i t
  | @tup A m vs ds ht rs =>
    have fl : ds.all isI = true := fl
    refine .tup (k A _ (fun hb => ?_) ht) (flat_reps fl rs)
    obtain ⟨hz, _, ⟨p, q, hTO, hp⟩, ⟨o1, e1, c1, d1⟩, ⟨o2, e2, c2, d2⟩⟩ := a
    have ht' : h.get? A = some _ := ht
    rcases List.mem_cons.mp hb with rfl | hb
    · rw [hz] at ht'; simp at ht'
    rcases List.mem_cons.mp hb with rfl | hb
    · have e : IsT h A (List.toArray [p, q]) 0 := hTO
      have := isT_items ht e
      subst this
      cases rs with
      | cons x y =>
        cases x with
        | int j t => exact hp j t rfl
        | _ => exact Bool.false_ne_true (and2 fl).1
    rcases List.mem_cons.mp hb with rfl | hb
    · rw [e1] at ht'; cases ht'; simp at c1
    rcases List.mem_cons.mp hb with rfl | hb
    · rw [e2] at ht'; cases ht'; simp at c2
    cases hb
  | _ => exact (Bool.false_ne_true fl).elim

section
variable {c : Cx} {F : Fm} {n : Nat} {σ : St}
theorem zipWith_get {us vs : List D} {i : Nat} {d : D} (h : (List.zipWith (fun u v => D.tup [u, v]) us vs)[i]? = some d) : ∃ u v, us[i]? = some u ∧ vs[i]? = some v ∧ d = .tup [u, v] := by
  rw [List.getElem?_zipWith] at h
  cases h1 : us[i]? with
  | none => rw [h1] at h; cases h
  | some u =>
    cases h2 : vs[i]? with
    | none => rw [h1, h2] at h; cases h
    | some v => rw [h1, h2] at h; cases h; exact ⟨u, v, rfl, rfl, rfl⟩
theorem all_get {f : D → Bool} {us : List D} (h : us.all f = true) {i : Nat} {u : D} (e : us[i]? = some u) : f u = true := List.all_eq_true.mp h u (List.mem_of_getElem? e)

theorem zip_cit (hh : F.A.handled = none) {hb : Heap} {z TI TO i1 i2 a b : Addr} {o o' : Bool} {us vs : List D} (D' : ZipApart z TI TO i1 i2 a b) (ha : σ.sto a = some (.list o us)) (hb' : σ.sto b = some (.list o' vs)) (h1 : us.all isTup = true) (h2 : us.all flatD = true) (h3 : vs.all flatD = true)
    (fr : ∀ x ∈ [z, TO, i1, i2], hb.get? x = none) {ss : List Str} {y : Expr} :
    CIt c F σ hb true (List.zipWith (fun u v => D.tup [u, v]) us vs) (.ref z) [z, TO, i1, i2] (zAt z TI TO i1 i2 a b .none) (fun i v h => ∃ T, v = .ref T ∧ zAt z TI TO i1 i2 a b (rawInt T) i h) (tgt false ss y) where
  next := fun {i s E Q d} I hat hd hQ => by
    obtain ⟨u, v, hu, hv, rfl⟩ := zipWith_get hd
    obtain ⟨xs, hl1, _, rx⟩ := I.sto a _ ha
    obtain ⟨ys, hl2, _, ry⟩ := I.sto b _ hb'
    obtain ⟨x, ex, rxu⟩ := rx.get hu
    obtain ⟨w, ew, rwv⟩ := ry.get hv
    obtain ⟨hz, hTI, ⟨p, q, hTO, hp⟩, l1, l2⟩ := id hat
    refine wpAny_pyNext_zip_item D' hz hTI hTO l1 l2 hl1 hl2 (by simpa using ex) (by simpa using ew) fun h' a1 a2 a3 a4 a5 a6 hk => ?_
    have kk : ∀ c o, c ∉ [z, TO, i1, i2] → s.heap.get? c = some o → h'.get? c = some o := fun c o hc e => hk c o (fun x => hc (by simp [x])) (fun x => hc (by simp [x])) (fun x => hc (by simp [x])) (fun x => hc (by simp [x])) e
    refine hQ _ h' s.toks (.tup (n := 0) (vs := [x, w]) a5 (.cons (zAt_safe hat kk (all_get h2 hu) rxu) (.cons (zAt_safe hat kk (all_get h3 hv) rwv) .nil))) ⟨_, rfl, a1, hk _ _ D'.TIz D'.TITO D'.TIi1 D'.TIi2 hTI, ⟨x, w, a2, ?_⟩, a3, a4⟩ kk
    intro j t z
    subst z
    have := all_get h1 hu
    cases rxu
    cases this
  last := fun {i s E Q} I hat hi hQ => by
    obtain ⟨xs, hl1, _, rx⟩ := I.sto a _ ha
    obtain ⟨ys, hl2, _, ry⟩ := I.sto b _ hb'
    obtain ⟨hz, hTI, ⟨p, q, hTO, hp⟩, l1, l2⟩ := id hat
    have e1 := rx.length
    have e2 := ry.length
    rw [List.length_zipWith] at hi
    have hend : xs.toArray[i]? = none ∨ ys.toArray[i]? = none := by
      rcases Nat.le_total us.length vs.length with h | h
      · exact .inl (by simp; omega)
      · exact .inr (by simp; omega)
    exact wpAny_pyNext_zip_end hh D' hz hTI hTO l1 l2 hl1 hl2 hend fun h' hk => hQ h' s.toks fun c o hc e => hk c o (fun x => hc (by simp [x])) (fun x => hc (by simp [x])) (fun x => hc (by simp [x])) (fun x => hc (by simp [x])) e
  goes := fun {i s E Q v} md hQ => by
    obtain ⟨T, rfl, hz, hTI, ⟨p, q, hTO, hp⟩, l1, l2⟩ := md
    refine wpAny_letOwnedTupleGo_zip hz fun h' hz' hs' => ?_
    refine hQ h' ⟨hz', hs'.extBut _ _ D'.TIz hTI, ⟨p, q, hs'.extBut _ _ D'.TOz hTO, hp⟩, l1.extBut hs'.extBut D'.i1z, l2.extBut hs'.extBut D'.i2z⟩ (fun c o hc e => hs'.extBut _ _ (fun x => hc (by simp [x])) e) fun u d r => ?_
    exact rep_fields (wr := [z]) (fun x hx => by
      obtain rfl : x = z := by simpa using hx
      exact ⟨_, _, hz, rfl, fun C z => by cases z⟩) (fun c o hc e => hs'.extBut _ _ (fun x => hc (by simp [x])) e) r
  keep := fun {i h h'} hat g => by
    obtain ⟨hz, hTI, ⟨p, q, hTO, hp⟩, l1, l2⟩ := hat
    refine ⟨g _ _ hz (.inr ⟨_, rfl⟩), g _ _ hTI (.inl ⟨_, _, rfl, rfl⟩), ⟨p, q, g _ _ hTO (.inl ⟨_, _, rfl, rfl⟩), hp⟩, l1.at fun o e => ?_, l2.at fun o e => ?_⟩
    · obtain ⟨o', e1, _, e3⟩ := l1; rw [e] at e1; cases e1; exact g _ _ e (.inr ⟨_, e3⟩)
    · obtain ⟨o', e1, _, e3⟩ := l2; rw [e] at e1; cases e1; exact g _ _ e (.inr ⟨_, e3⟩)
  safe := fun hat k fl r => zAt_safe hat k (fl rfl) r
  kinds := fun hat => zAt_kinds hat
  kindsM := fun md => by obtain ⟨T, _, md⟩ := md; exact zAt_kinds md
  fresh := fr
  self := fun hat h => wpAny_pyIter_zip hat.1 h
end
end Mine

/-! ## M14 -/
namespace Mine
open PySem PySem.SeqAt

section
variable {c : Cx} {n : Nat} {q : Bool}

/-- how a comprehension's iterator is got -/
def PostC (c : Cx) (F : Fm) (h₀ : Heap) (xs : List (Nat × Str)) (elt : (D → St → Prop) → St → Prop) (P : D → Prop) (fl : Bool) (Q : D → St → Prop) (tx : Expr) : Value → Shared → Prop := fun it s₂ =>
  ∃ items wr At Md sb σ, Grow h₀ sb.heap ∧ Inv c F σ sb ∧ SameSh sb s₂ ∧ (∀ b o, sb.heap.get? b = some o → s₂.heap.get? b = some o) ∧ CIt c F σ sb.heap fl items it wr At Md tx ∧ At 0 s₂.heap ∧ compW xs elt P Q items σ
/-- PostC, without what the iterator asks of the state -/
theorem postC_of {F : Fm} {h₀ : Heap} {xs : List (Nat × Str)} {elt : (D → St → Prop) → St → Prop} {Q : D → St → Prop} {tx : Expr} {it : Value} {s₂ : Shared} (h : PostI c F h₀ (fun items g σ => g σ ∧ compW xs elt (fun _ => True) Q items σ) it s₂) : PostC c F h₀ xs elt (fun _ => True) false Q tx it s₂ := by
  obtain ⟨items, g, σ, wr, At, sb, h1, h2, h3, h4, h5, W, hat, hg, w⟩ := h
  exact ⟨items, wr, At, _, sb, σ, h1, h2, h3, h4, W.cit hg h5, hat, w⟩
theorem items_g {d : D} {K : List D → St → Prop} {σ : St} (h : itemsOf d (fun items _ σ => K items σ) σ) : itemsOf d (fun items g σ => g σ ∧ K items σ) σ := by
  cases d with
  | tup ds => exact ⟨h.1, trivial, h.2⟩
  | lst a => obtain ⟨o, ds, h1, h2, h3⟩ := h; exact ⟨o, ds, h1, h2, ⟨o, h1⟩, h3⟩
  | _ => exact (show False from h).elim
theorem one1_inv {ds : List D} {K : D → Prop} (h : one1 ds K) : ∃ d, ds = [d] ∧ K d := by
  match ds, h with
  | [d], h => exact ⟨d, rfl, h⟩
  | [], h => exact (show False from h).elim
  | _ :: _ :: _, h => exact (show False from h).elim
theorem two2_inv {ds : List D} {K : D → D → Prop} (h : two2 ds K) : ∃ d e, ds = [d, e] ∧ K d e := by
  match ds, h with
  | [], h => exact (show False from h).elim
  | d :: r, h => obtain ⟨e, rfl, h⟩ := one1_inv (show one1 r (K d) from h); exact ⟨d, e, rfl, h⟩

theorem zipApart_of (n a b : Nat) (la : a < n) (lb : b < n) : ZipApart (n + 4) (n + 2) (n + 3) n (n + 1) a b := by
  constructor <;> (intro z; have z : (_ : Nat) = _ := z; omega)
/-- zip, called and asked for its iterator -/
theorem s_zip {F : Fm} {σ : St} {s : Shared} {E : Value → Shared → Prop} {h₀ : Heap} {xs : List (Nat × Str)} {elt : (D → St → Prop) → St → Prop} {Q : D → St → Prop} {a b : Addr} {o o' : Bool} {us vs : List D} {ss : List Str} {y : Expr} {one : Bool} (I : Inv c F σ s) (hh : F.A.handled = none) (g : Grow h₀ s.heap)
    (ha : σ.sto a = some (.list o us)) (hb : σ.sto b = some (.list o' vs)) (h1 : us.all isTup = true) (h2 : us.all flatD = true) (h3 : vs.all flatD = true) (h4 : one = false) (w : compW xs elt (fun r => flatD r = true) Q (List.zipWith (fun u v => D.tup [u, v]) us vs) σ) :
    wpAny (model c.prog c.w) F.A (call (.type "zip") [.ref a, .ref b]) (fun v s₁ => wpAny (model c.prog c.w) F.A (pyIter v) (PostC c F h₀ xs elt (fun r => flatD r = true) true Q (tgt one ss y)) E s₁) E s := by
  subst h4
  obtain ⟨ws, hl1, _, _⟩ := I.sto a _ ha
  obtain ⟨ws', hl2, _, _⟩ := I.sto b _ hb
  have la : a < s.heap.objs.size := by obtain ⟨_, e, _⟩ := hl1; exact Heap.lt_size e
  have lb : b < s.heap.objs.size := by obtain ⟨_, e, _⟩ := hl2; exact Heap.lt_size e
  refine call_zip_2 hl1 hl2 fun h' z1 z2 z3 z4 z5 z6 kk => ?_
  have none_at : ∀ k, s.heap.get? (s.heap.objs.size + k) = none := fun k => by
    cases e : s.heap.get? (s.heap.objs.size + k) with
    | none => rfl
    | some o => exact absurd (Heap.lt_size e) (Nat.not_lt.mpr (Nat.le_add_right _ _))
  refine wpAny_pyIter_zip z1 ⟨_, _, _, _, s, σ, g, I, ⟨h', s.toks, rfl⟩, kk, zip_cit hh (zipApart_of _ a b la lb) ha hb h1 h2 h3 (fun x hx => ?_), ⟨z1, z2, ⟨_, _, z3, fun j t z => by cases z⟩, z4, z5⟩, w⟩
  simp only [List.mem_cons, List.not_mem_nil, or_false] at hx
  rcases hx with rfl | rfl | rfl | rfl
  · exact none_at 4
  · exact none_at 3
  · exact none_at 0
  · exact none_at 1
theorem Blt.called (f : Blt) {M : Model} {A : Around} {E : Value → Shared → Prop} {s : Shared} {Q : Value → Shared → Prop} {p : Pos} {args : List (Bool × Sem Value)} (ha : args.any (·.1) = false) (h : wpAny M A (evalArgs f.val true args []) (fun a s₁ => wpAny M A (call f.val ([] ++ a.pos) a.kw) Q E s₁) E s) : wpAny M A (callWith p f.val [] args []) Q E s := by
  cases f with
  | int => exact PyProof.Rows.callWith_type ha h
  | list => exact PyProof.Rows.callWith_type ha h
  | tuple => exact PyProof.Rows.callWith_type ha h
  | _ => exact Calls.callWith_builtin ha h

mutual
theorem sE : ∀ (e : E) (x : Expr) {V : Vw} {q : Bool}, ok e V x = true → ∀ {F : Fm} {env : Env}, Run c F env V n q → ∀ {Q : D → St → Prop} {X : Str → St → Prop} {σ : St} {s : Shared}, Inv c F σ s → wE c n q e Q X σ →
    wpAny (model c.prog c.w) F.A (eval (like e V x) env) (Post c F s.heap Q) (Exc c F s.heap X) s
  | .cnone, x, V, q, h, F, env, R, Q, X, σ, s, I, w => wpAny_pure (a := Value.none) (post_same I .none w)
  | .cbool b, x, V, q, h, F, env, R, Q, X, σ, s, I, w => wpAny_pure (a := Value.bool b) (post_same I (.bool b) w)
  | .cint i, x, V, q, h, F, env, R, Q, X, σ, s, I, w => wpAny_Constant_int (post_tok I (.int i _) w)
  | .cstr y, x, V, q, h, F, env, R, Q, X, σ, s, I, w => Calls.Constant_str (post_tok I (.str y _) w)
  | .var i, x, V, q, h, F, env, R, Q, X, σ, s, I, w => by
    obtain ⟨d, e, hq⟩ := w
    exact load_var I R.O (beq_iff_eq.mp (and2 h).1) e ((Bool.not_eq_true' _).mp (and2 h).2) fun v r => post_same I r hq
  | .glob g, x, V, q, h, F, env, R, Q, X, σ, s, I, w => by
    obtain ⟨d, e, hq⟩ := w
    obtain ⟨v, e1, r⟩ := R.CO.cs g d e
    exact load_global R.CO R.O I h e1 (post_same I (Rep.grow (grow_of_keeps I.base) r) hq)
  | .bin op a b, x, V, q, h, F, env, R, Q, X, σ, s, I, w => by
    refine wpAny_BinOp (wpAny_mono (sE a (kid x 0) (and2 h).1 R I w) (fun v s₁ p₁ => ?_) fun _ _ y => y)
    obtain ⟨d₁, σ₁, g₁, I₁, r₁, w₁⟩ := p₁
    refine wpAny_mono (sE b (kid x 1) (and2 h).2 R I₁ w₁) (fun u s₂ p₂ => ?_) fun _ _ y => y.grow g₁
    obtain ⟨d₂, σ₂, g₂, I₂, r₂, w₂⟩ := p₂
    exact wpAny_mono (s_bin I₂ R.FO R.CO (r₁.grow g₂) r₂ w₂) (fun _ _ y => y.grow (g₁.trans g₂)) fun _ _ y => y
  | .neg a, x, V, q, h, F, env, R, Q, X, σ, s, I, w => by
    show wpAny _ _ (eval (.UnaryOp .USub (like a V (kid x 0)) x.pos) env) _ _ s
    rw [arm_eval_UnaryOp]
    refine wpAny_bind (wpAny_mono (sE a (kid x 0) h R I w) (fun v s₁ p₁ => ?_) fun _ _ y => y)
    obtain ⟨d₁, σ₁, g₁, I₁, r₁, w₁⟩ := p₁
    refine wpAny_bind (wpAny_standAt (wpAny_holding ?_))
    cases r₁ with
    | int i t => exact P.neg_int (Post.grow g₁ (post_tok I₁ (.int _ _) w₁))
    | _ => exact (show False from w₁).elim
  | .not a, x, V, q, h, F, env, R, Q, X, σ, s, I, w => by
    show wpAny _ _ (eval (.UnaryOp .Not (like a V (kid x 0)) x.pos) env) _ _ s
    rw [arm_eval_UnaryOp]
    refine wpAny_bind (wpAny_mono (sE a (kid x 0) h R I w) (fun v s₁ p₁ => ?_) fun _ _ y => y)
    obtain ⟨d₁, σ₁, g₁, I₁, r₁, w₁⟩ := p₁
    refine wpAny_bind (wpAny_standAt (wpAny_holding ?_))
    unfold unaryOp
    refine wpAny_holding ?_
    show wpAny _ _ (do let b ← truthy v; pure (Value.bool !b)) _ _ s₁
    refine wpAny_bind (wpAny_mono (s_truth (E := Exc c F s.heap X) I₁ r₁ w₁) (fun b s₂ p₂ => ?_) fun _ _ y => y)
    obtain ⟨σ₂, g₂, I₂, w₂⟩ := p₂
    exact wpAny_pure (Post.grow (g₁.trans g₂) (post_same I₂ (.bool _) w₂))
  | .cmp op a b, x, V, q, h, F, env, R, Q, X, σ, s, I, w => by
    refine wpAny_Compare1 (wpAny_mono (sE a (kid x 0) (and2 h).1 R I w) (fun v s₁ p₁ => ?_) fun _ _ y => y) (like_noSet b V (kid x 1) op)
    obtain ⟨d₁, σ₁, g₁, I₁, r₁, w₁⟩ := p₁
    refine wpAny_mono (sE b (kid x 1) (and2 h).2 R I₁ w₁) (fun u s₂ p₂ => ?_) fun _ _ y => y.grow g₁
    obtain ⟨d₂, σ₂, g₂, I₂, r₂, w₂⟩ := p₂
    exact wpAny_mono (s_cmp I₂ R.FO (r₁.grow g₂) r₂ w₂) (fun _ _ y => y.grow (g₁.trans g₂)) fun _ _ y => y
  | .bool op es, x, V, q, h, F, env, R, Q, X, σ, s, I, w => by
    show wpAny _ _ (eval (.BoolOp op (likes es V (kids x)) x.pos) env) _ _ s
    rw [arm_eval_BoolOp]
    exact sB op x.pos es (kids x) h R I w
  | .call f es, x, V, q, h, F, env, R, Q, X, σ, s, I, w => by
    obtain ⟨hq, ⟨a, o, fd, e1, e2, e3⟩, w⟩ := w
    subst hq
    show wpAny _ _ (eval (.Call (.Name f (kid x 0).pos) (likes es V (kids x).tail) [] x.pos) env) _ _ s
    rw [eval_Call_Name]
    refine wpAny_bind (load_global R.CO R.O I (and2 h).1 e1 ?_)
    have := sEs x.pos es (kids x).tail (and2 h).2 R I w
    rw [backTo_plain] at this ⊢
    refine Calls.callWith_function (o := o) (fd := fd) ?_
    refine evalArgs_any (any_plain _ env) ?_
    refine wpAny_mono this (fun vs s₁ p₁ => ?_) fun _ _ y => y
    obtain ⟨ds, σ₁, g₁, I₁, r₁, a', o', fd', f1, f2, f3, hC⟩ := p₁
    rw [f1] at e1; cases e1
    rw [f2] at e2; cases e2
    rw [f3] at e3; cases e3
    exact ⟨⟨I₁.base _ _ f2, f3⟩, wpAny_mono (s_call I₁ R.FO r₁ hC) (fun _ _ y => y.grow g₁) fun _ _ y => y.grow g₁⟩
  | .blt f es, x, V, q, h, F, env, R, Q, X, σ, s, I, w => by
    obtain ⟨hq, w⟩ := w
    subst hq
    show wpAny _ _ (eval (.Call (.Name (Str.ofString f.name) (kid x 0).pos) (likes es V (kids x).tail) [] x.pos) env) _ _ s
    rw [eval_Call_Name]
    refine wpAny_bind (load_builtin R.CO R.O I (and2 h).1 (R.CO.free f.name (by cases f <;> decide)) f.boot ?_)
    have := sEs x.pos es (kids x).tail (and2 h).2 R I w
    rw [backTo_plain] at this ⊢
    have fin : wpAny (model c.prog c.w) F.A (evalArgs f.val true ((likes es V (kids x).tail).map fun x => (false, eval x env)) []) (fun a s₁ => wpAny (model c.prog c.w) F.A (call f.val ([] ++ a.pos) a.kw) (Post c F s.heap Q) (Exc c F s.heap X) s₁) (Exc c F s.heap X) s := by
      refine evalArgs_any (any_plain _ env) ?_
      refine wpAny_mono this (fun vs s₁ p₁ => ?_) fun _ _ y => y
      obtain ⟨ds, σ₁, g₁, I₁, r₁, w₁⟩ := p₁
      exact wpAny_mono (s_blt I₁ R.FO r₁ w₁) (fun _ _ y => y.grow g₁) fun _ _ y => y
    exact f.called (any_plain _ env) fin
  | .isa a t, x, V, q, h, F, env, R, Q, X, σ, s, I, w => by
    show wpAny _ _ (eval (.Call (.Name isaS (kid x 0).pos) [like a V (kid x 1), .Name t.name (kid x 2).pos] [] x.pos) env) _ _ s
    rw [eval_Call_Name]
    refine wpAny_bind (load_builtin R.CO R.O I (and2 (and2 h).1).1 (R.CO.free "isinstance" (by decide)) PyProof.Rows.Boot.«isinstance» ?_)
    have e : backTo x.pos (starEach [like a V (kid x 1), .Name t.name (kid x 2).pos] env) = [(false, eval (like a V (kid x 1)) env), (false, eval (.Name t.name (kid x 2).pos) env)] := by rw [notStar]; rfl
    rw [e]
    refine Calls.callWith_builtin rfl (Calls.evalArgs_plain (Calls.spliced_cons (wpAny_mono (sE a (kid x 1) (and2 (and2 h).1).2 R I w) (fun v s₁ p₁ => ?_) fun _ _ y => y)))
    obtain ⟨d₁, σ₁, g₁, I₁, r₁, w₁⟩ := p₁
    obtain ⟨u, hu⟩ := opIsa_val w₁
    refine Calls.spliced_cons (Ty.load R.CO R.O I₁ (and2 h).2 hu (Calls.spliced_nil ?_))
    exact wpAny_mono (s_isa I₁ R.EO r₁ hu w₁) (fun _ _ y => y.grow g₁) fun _ _ y => y
  | .idx a i, x, V, q, h, F, env, R, Q, X, σ, s, I, w => by
    refine PyProof.Rows.Subscript_ (wpAny_mono (sE a (kid x 0) (and2 h).1 R I w) (fun o s₁ p₁ => ?_) fun _ _ y => y)
    obtain ⟨d₁, σ₁, g₁, I₁, r₁, w₁⟩ := p₁
    refine wpAny_mono (sE i (kid x 1) (and2 h).2 R I₁ w₁) (fun u s₂ p₂ => ?_) fun _ _ y => y.grow g₁
    obtain ⟨d₂, σ₂, g₂, I₂, r₂, w₂⟩ := p₂
    exact wpAny_mono (s_idx I₂ (r₁.grow g₂) r₂ w₂ (like_notSlice i V (kid x 1))) (fun _ _ y => y.grow (g₁.trans g₂)) fun _ _ y => y
  | .slice a lo hi, x, V, q, h, F, env, R, Q, X, σ, s, I, w => by
    refine PyProof.Rows.Subscript_ (wpAny_mono (sE a (kid x 0) (and2 (and2 h).1).1 R I w) (fun o s₁ p₁ => ?_) fun _ _ y => y)
    obtain ⟨d₁, σ₁, g₁, I₁, r₁, w₁⟩ := p₁
    rw [arm_eval_Slice]
    refine wpAny_bind (wpAny_mono (sO lo _ (and2 (and2 h).1).2 R I₁ w₁) (fun vl s₂ p₂ => ?_) fun _ _ y => y.grow g₁)
    obtain ⟨d₂, σ₂, g₂, I₂, r₂, w₂⟩ := p₂
    refine wpAny_bind (wpAny_holding (wpAny_mono (sO hi _ (and2 h).2 R I₂ w₂) (fun vu s₃ p₃ => ?_) fun _ _ y => y.grow (g₁.trans g₂)))
    obtain ⟨d₃, σ₃, g₃, I₃, r₃, w₃⟩ := p₃
    refine wpAny_bind (wpAny_holding (wpAny_pure ?_))
    refine wpAny_newObj_type ?_ (by show _ ≤ _; simp [sizeLine_val])
    exact wpAny_mono (s_slice I₃ ((r₁.grow g₂).grow g₃) (r₂.grow g₃) r₃ w₃ fun o i => rfl) (fun _ _ y => y.grow ((g₁.trans g₂).trans g₃)) fun _ _ y => y
  | .tup es, x, V, q, h, F, env, R, Q, X, σ, s, I, w => by
    refine PyProof.Rows.Tuple_ (wpAny_mono (sEs x.pos es (kids x) h R I w) (fun vs s₁ p₁ => ?_) fun _ _ y => y)
    obtain ⟨ds, σ₁, g₁, I₁, r₁, hl, w₁⟩ := p₁
    refine wpAny_newObj_type (Post.grow g₁ (post_tuple (t := s₁.toks) I₁ r₁ w₁)) ?_
    show vs.toArray.size ≤ sizeLine
    rw [List.size_toArray, r₁.length, sizeLine_val]; unfold lim at hl; omega
  | .lst es, x, V, q, h, F, env, R, Q, X, σ, s, I, w => by
    refine PyProof.Rows.List_ (wpAny_mono (sEs x.pos es (kids x) h R I w) (fun vs s₁ p₁ => ?_) fun _ _ y => y)
    obtain ⟨ds, σ₁, g₁, I₁, r₁, hl, w₁⟩ := p₁
    refine wpAny_newObj_type (Post.grow g₁ (post_list (t := s₁.toks) I₁ (none_at_size _) (push_keeps _ _) ⟨0, Heap.get?_push_size _ rfl⟩ r₁ w₁)) ?_
    show vs.toArray.size ≤ sizeLine
    rw [List.size_toArray, r₁.length, sizeLine_val]; unfold lim at hl; omega
  | .append o a, x, V, q, h, F, env, R, Q, X, σ, s, I, w => by
    obtain ⟨hq, w⟩ := w
    subst hq
    have hst : backTo x.pos (starEach [like a V (kid x 1)] env) = [(false, eval (like a V (kid x 1)) env)] := by rw [notStar]; rfl
    refine wpAny_Call_append (var_base (and2 h).2 V _ env) (by rw [hst]; rfl) (beq_self_eq_true _) hst ?_
    refine wpAny_mono (sE o _ (and2 (and2 h).1).1 R I w) (fun ov s₁ p₁ => ?_) fun _ _ y => y
    obtain ⟨d₁, σ₁, g₁, I₁, r₁, ⟨l, ds, rfl, hl⟩, w₁⟩ := p₁
    cases r₁
    obtain ⟨vs, _, hp, _⟩ := I₁.sto _ _ hl
    obtain ⟨m, ho⟩ := (hp rfl).1
    refine ⟨l, vs.toArray, rfl, ⟨_, m, ho, rfl, rfl, rfl⟩, ?_⟩
    refine wpAny_mono (sE a _ (and2 (and2 h).1).2 R I₁ w₁) (fun u s₂ p₂ => ?_) fun _ _ y => y.grow g₁
    obtain ⟨d₂, σ₂, g₂, I₂, r₂, w₂⟩ := p₂
    exact wpAny_mono (s_append I₂ R.FO r₂ w₂) (fun _ _ y => y.grow (g₁.trans g₂)) fun _ _ y => y
  | .comp elt xs k es, x, V, q, h, F, env, R, Q, X, σ, s, I, w => by
    obtain ⟨hq, w⟩ := w
    subst hq
    obtain ⟨h, h4⟩ := and2 h
    obtain ⟨h, h3⟩ := and2 h
    obtain ⟨h1, h2⟩ := and2 h
    have H := compOK_of h2
    have el : ∀ {F' : Fm} {env' : Env}, Run c F' env' (V.comp xs (scOf x)) n true → ∀ {K : D → St → Prop} {σ : St} {s : Shared}, Inv c F' σ s → wE c n true elt K noX σ → wpAny (model c.prog c.w) F'.A (eval (like elt (V.comp xs (scOf x)) (kid x 0)) env') (Post c F' s.heap K) (Exc c F' s.heap noX) s := fun {F' env'} R' {K σ s} I' w' => sE elt (kid x 0) h1 R' I' w'
    cases k with
    | plain =>
      match es, h3, h4, w with
      | [], h3, h4, w => exact (Bool.false_ne_true h3).elim
      | _ :: _ :: _, h3, h4, w => exact (Bool.false_ne_true h3).elim
      | [e], h3, h4, w =>
        refine s_comp (P := fun _ => True) (fl := false) R H (fun _ z => by cases z) el (like_folded e V _ env) (wpAny_mono (sE e (kid x 2) (and2 h4).1 R I w) (fun v s₁ p₁ => ?_) fun _ _ y => y)
        obtain ⟨d, σ₁, g₁, I₁, r₁, w₁⟩ := p₁
        exact wpAny_mono (s_items I₁ (R.FO.handled rfl) g₁ r₁ (items_g w₁)) (fun _ _ y => postC_of y) fun _ _ y => y
    | range =>
      refine s_comp (P := fun _ => True) (fl := false) R H (fun _ z => by cases z) el (fun _ => rfl) ?_
      show wpAny _ _ (eval (.Call (.Name rangeS (kid (kid x 2) 0).pos) (likes es V (kids (kid x 2)).tail) [] (kid x 2).pos) env) _ _ s
      rw [eval_Call_Name]
      refine wpAny_bind (load_builtin R.CO R.O I h3 (R.CO.free "range" (by decide)) PyProof.Rows.Boot.«range» ?_)
      have := sEs (kid x 2).pos es (kids (kid x 2)).tail h4 R I w
      rw [backTo_plain] at this ⊢
      refine PyProof.Rows.callWith_type (any_plain _ env) (evalArgs_any (any_plain _ env) (wpAny_mono this (fun vs s₁ p₁ => ?_) fun _ _ y => y))
      obtain ⟨ds, σ₁, g₁, I₁, r₁, hs, items, hi, hK⟩ := p₁
      exact wpAny_mono (s_range (Kc := fun items g σ => g σ ∧ compW xs (fun K σ₂ => wE c n true elt K noX σ₂) (fun _ => True) Q items σ) I₁ R.FO R.CO g₁ r₁ hs hi ⟨trivial, hK⟩) (fun _ _ y => wpAny_mono y (fun _ _ y => postC_of y) fun _ _ y => y) fun _ _ y => y
    | zip =>
      refine s_comp (P := fun r => flatD r = true) (fl := true) R H (fun _ _ z => z) el (fun _ => rfl) ?_
      show wpAny _ _ (eval (.Call (.Name zipS (kid (kid x 2) 0).pos) (likes es V (kids (kid x 2)).tail) [] (kid x 2).pos) env) _ _ s
      rw [eval_Call_Name]
      refine wpAny_bind (load_builtin R.CO R.O I h3 (R.CO.free "zip" (by decide)) PyProof.Rows.Boot.«zip» ?_)
      have := sEs (kid x 2).pos es (kids (kid x 2)).tail h4 R I w
      rw [backTo_plain] at this ⊢
      refine PyProof.Rows.callWith_type (any_plain _ env) (evalArgs_any (any_plain _ env) (wpAny_mono this (fun vs s₁ p₁ => ?_) fun _ _ y => y))
      obtain ⟨ds, σ₁, g₁, I₁, r₁, w₁⟩ := p₁
      obtain ⟨d, e, rfl, a, b, o, us, o', ws, rfl, rfl, ha, hb, k1, k2, k3, k4, w₁⟩ := two2_inv w₁
      obtain ⟨v₁, v₂, rfl, rv₁, rv₂⟩ := reps2 r₁
      cases rv₁
      cases rv₂
      exact s_zip I₁ (R.FO.handled rfl) g₁ ha hb k1 k2 k3 k4 w₁
theorem sEs (pos : Pos) : ∀ (es : List E) (xs : List Expr) {V : Vw} {q : Bool}, oks es V xs = true → ∀ {F : Fm} {env : Env}, Run c F env V n q → ∀ {Q : List D → St → Prop} {X : Str → St → Prop} {σ : St} {s : Shared}, Inv c F σ s → wEs c n q es Q X σ →
    wpAny (model c.prog c.w) F.A (spliced (backTo pos (starEach (likes es V xs) env))) (Posts c F s.heap Q) (Exc c F s.heap X) s
  | [], xs, V, q, h, F, env, R, Q, X, σ, s, I, w => Calls.spliced_nil ⟨[], σ, Grow.refl _, I, .nil, w⟩
  | e :: es, xs, V, q, h, F, env, R, Q, X, σ, s, I, w => by
    show wpAny _ _ (spliced (backTo pos (starEach (like e V (xs.headD default) :: likes es V xs.tail) env))) _ _ s
    rw [notStar]
    show wpAny _ _ (spliced ((false, eval (like e V (xs.headD default)) env) :: backTo pos (starEach (likes es V xs.tail) env))) _ _ s
    refine Calls.spliced_cons (wpAny_mono (sE e _ (and2 h).1 R I w) (fun v s₁ p₁ => ?_) fun _ _ y => y)
    obtain ⟨d₁, σ₁, g₁, I₁, r₁, w₁⟩ := p₁
    refine wpAny_mono (sEs pos es xs.tail (and2 h).2 R I₁ w₁) (fun vs s₂ p₂ => ?_) fun _ _ y => y.grow g₁
    obtain ⟨ds, σ₂, g₂, I₂, r₂, w₂⟩ := p₂
    exact ⟨d₁ :: ds, σ₂, g₁.trans g₂, I₂, .cons (r₁.grow g₂) r₂, w₂⟩
theorem sO : ∀ (e : Option E) (x : Expr) {V : Vw} {q : Bool}, okO e V x = true → ∀ {F : Fm} {env : Env}, Run c F env V n q → ∀ {Q : D → St → Prop} {X : Str → St → Prop} {σ : St} {s : Shared}, Inv c F σ s → wO c n q e Q X σ →
    wpAny (model c.prog c.w) F.A (valueOrNone (evalOpt (likeO e V x) env)) (Post c F s.heap Q) (Exc c F s.heap X) s
  | none, x, V, q, h, F, env, R, Q, X, σ, s, I, w => wpAny_pure (a := Value.none) (post_same I .none w)
  | some e, x, V, q, h, F, env, R, Q, X, σ, s, I, w => sE e x h R I w
theorem sB (op : BoolOp) (pos : Pos) : ∀ (es : List E) (xs : List Expr) {V : Vw} {q : Bool}, oks es V xs = true → ∀ {F : Fm} {env : Env}, Run c F env V n q → ∀ {Q : D → St → Prop} {X : Str → St → Prop} {σ : St} {s : Shared}, Inv c F σ s → wB c n q op es Q X σ →
    wpAny (model c.prog c.w) F.A (boolOp pos op (evalEach (likes es V xs) env)) (Post c F s.heap Q) (Exc c F s.heap X) s
  | [], xs, V, q, h, F, env, R, Q, X, σ, s, I, w => (show False from w).elim
  | [e], xs, V, q, h, F, env, R, Q, X, σ, s, I, w => sE e _ (and2 h).1 R I w
  | e :: e' :: es, xs, V, q, h, F, env, R, Q, X, σ, s, I, w => by
    show wpAny _ _ (do
      let v ← eval (like e V (xs.headD default)) env
      standAt pos
      let t ← holding [v] (truthy v)
      match op, t with
      | .And, false | .Or, true => pure v
      | _, _ => boolOp pos op (evalEach (likes (e' :: es) V xs.tail) env)) _ _ s
    refine wpAny_bind (wpAny_mono (sE e _ (and2 h).1 R I w) (fun v s₁ p₁ => ?_) fun _ _ y => y)
    obtain ⟨d₁, σ₁, g₁, I₁, r₁, w₁⟩ := p₁
    refine wpAny_bind (wpAny_standAt (wpAny_bind (wpAny_holding (wpAny_mono (s_truth (E := Exc c F s.heap X) I₁ r₁ w₁) (fun b s₂ p₂ => ?_) fun _ _ y => y))))
    obtain ⟨σ₂, g₂, I₂, w₂⟩ := p₂
    have go : (b = (op == .Or)) ∨ ¬ (b = (op == .Or)) := Decidable.em _
    rcases go with z | z
    · rw [if_pos z] at w₂
      have : Post c F s.heap Q v s₂ := ⟨d₁, σ₂, g₁.trans g₂, I₂, r₁.grow g₂, w₂⟩
      cases op <;> cases b <;> first | (simp at z; done) | exact wpAny_pure this
    · rw [if_neg z] at w₂
      have : wpAny (model c.prog c.w) F.A (boolOp pos op (evalEach (likes (e' :: es) V xs.tail) env)) (Post c F s.heap Q) (Exc c F s.heap X) s₂ :=
        wpAny_mono (sB op pos (e' :: es) xs.tail (and2 h).2 R I₂ w₂) (fun _ _ y => y.grow (g₁.trans g₂)) fun _ _ y => y.grow (g₁.trans g₂)
      cases op <;> cases b <;> first | (simp at z; done) | exact this
end
end
end Mine

/-! ## M15 -/
namespace Mine
open PySem PySem.SeqAt

/-- how a test ends -/
def PostB (c : Cx) (F : Fm) (h₀ : Heap) (Q : Bool → St → Prop) : Bool → Shared → Prop := fun b s' => ∃ σ', Grow h₀ s'.heap ∧ Inv c F σ' s' ∧ Q b σ'
theorem PostB.grow {c : Cx} {F : Fm} {h₀ h₁ : Heap} {Q : Bool → St → Prop} {b : Bool} {s' : Shared} (g : Grow h₀ h₁) (x : PostB c F h₁ Q b s') : PostB c F h₀ Q b s' := by
  obtain ⟨σ', h1, r⟩ := x
  exact ⟨σ', g.trans h1, r⟩

def plainT : Expr → Bool
  | .UnaryOp .Not _ _ => false
  | .BoolOp .. => false
  | .IfExp .. => false
  | .Compare .. => false
  | _ => true
theorem isTrue_plainT (x : Expr) (env : Env) (whole : Sem Value) (h : plainT x = true) : isTrue x env whole = (do let v ← whole; standAt x.pos; holding [v] (truthy v)) := by
  cases x <;> first | rfl | (simp [plainT] at h; done) | skip
  rename_i op y p
  cases op <;> first | rfl | (simp [plainT] at h; done)

section
variable {c : Cx} {F : Fm} {env : Env} {n : Nat} {q : Bool}

theorem sT_plain {V : Vw} (R : Run c F env V n q) (e : E) (x : Expr) (h : ok e V x = true) (hp : plainT (like e V x) = true) {Q : Bool → St → Prop} {X : Str → St → Prop} {σ : St} {s : Shared} (I : Inv c F σ s) (w : wE c n q e (fun d σ₁ => wTruth d Q σ₁) X σ) :
    wpAny (model c.prog c.w) F.A (isTrue (like e V x) env (eval (like e V x) env)) (PostB c F s.heap Q) (Exc c F s.heap X) s := by
  rw [isTrue_plainT _ env _ hp]
  refine wpAny_bind (wpAny_mono (sE e x h R I w) (fun v s₁ p₁ => ?_) fun _ _ y => y)
  obtain ⟨d₁, σ₁, g₁, I₁, r₁, w₁⟩ := p₁
  refine wpAny_bind (wpAny_standAt (wpAny_holding (wpAny_mono (s_truth (E := Exc c F s.heap X) I₁ r₁ w₁) (fun b s₂ p₂ => ?_) fun _ _ y => y)))
  obtain ⟨σ₂, g₂, I₂, w₂⟩ := p₂
  exact ⟨σ₂, g₁.trans g₂, I₂, w₂⟩

theorem sT_cmp {V : Vw} (R : Run c F env V n q) {op : CmpOp} {a b : E} {x : Expr} (h : ok (.cmp op a b) V x = true) {Q : Bool → St → Prop} {X : Str → St → Prop} {σ : St} {s : Shared} (I : Inv c F σ s) (w : wE c n q a (fun x σ₁ => wE c n q b (fun y σ₂ => opCmp op x y (fun d σ₁ => wTruth d Q σ₁) σ₂) X σ₁) X σ) :
    wpAny (model c.prog c.w) F.A (isTrue (like (.cmp op a b) V x) env (eval (like (.cmp op a b) V x) env)) (PostB c F s.heap Q) (Exc c F s.heap X) s := by
  refine wpAny_isTrue_Compare1 (wpAny_mono (sE a (kid x 0) (and2 h).1 R I w) (fun v s₁ p₁ => ?_) fun _ _ y => y) (like_noSet b V (kid x 1) op)
  obtain ⟨d₁, σ₁, g₁, I₁, r₁, w₁⟩ := p₁
  refine wpAny_mono (sE b (kid x 1) (and2 h).2 R I₁ w₁) (fun u s₂ p₂ => ?_) fun _ _ y => y.grow g₁
  obtain ⟨d₂, σ₂, g₂, I₂, r₂, w₂⟩ := p₂
  refine wpAny_mono (s_cmp (E := Exc c F s.heap X) I₂ R.FO (r₁.grow g₂) r₂ w₂) (fun t s₃ p₃ => ?_) fun _ _ y => y
  obtain ⟨d₃, σ₃, g₃, I₃, r₃, w₃⟩ := p₃
  refine wpAny_mono (s_truth (E := Exc c F s.heap X) I₃ r₃ w₃) (fun b s₄ p₄ => ?_) fun _ _ y => y
  obtain ⟨σ₄, g₄, I₄, w₄⟩ := p₄
  exact ⟨σ₄, ((g₁.trans g₂).trans g₃).trans g₄, I₄, w₄⟩

mutual
theorem sT {V : Vw} (R : Run c F env V n q) : ∀ (e : E) (x : Expr), ok e V x = true → ∀ {Q : Bool → St → Prop} {X : Str → St → Prop} {σ : St} {s : Shared}, Inv c F σ s → wT c n q e Q X σ →
    wpAny (model c.prog c.w) F.A (isTrue (like e V x) env (eval (like e V x) env)) (PostB c F s.heap Q) (Exc c F s.heap X) s
  | .not a, x, h, Q, X, σ, s, I, w => by
    show wpAny _ _ (isTrue (.UnaryOp .Not (like a V (kid x 0)) x.pos) env (eval (.UnaryOp .Not (like a V (kid x 0)) x.pos) env)) _ _ s
    rw [arm_isTrue_UnaryOp]
    exact wpAny_bind (wpAny_mono (sT R a (kid x 0) h I w) (fun b s₁ p₁ => wpAny_pure p₁) fun _ _ y => y)
  | .bool op es, x, h, Q, X, σ, s, I, w => by
    show wpAny _ _ (isTrue (.BoolOp op (likes es V (kids x)) x.pos) env (eval (.BoolOp op (likes es V (kids x)) x.pos) env)) _ _ s
    rw [arm_isTrue_BoolOp]
    exact sTs R op es (kids x) h I w
  | .cmp op a b, x, h, Q, X, σ, s, I, w => sT_cmp R h I w
  | .cnone, x, h, Q, X, σ, s, I, w => sT_plain R (.cnone) x h rfl I w
  | .cbool b, x, h, Q, X, σ, s, I, w => sT_plain R (.cbool b) x h rfl I w
  | .cint i, x, h, Q, X, σ, s, I, w => sT_plain R (.cint i) x h rfl I w
  | .cstr y, x, h, Q, X, σ, s, I, w => sT_plain R (.cstr y) x h rfl I w
  | .var i, x, h, Q, X, σ, s, I, w => sT_plain R (.var i) x h rfl I w
  | .glob g, x, h, Q, X, σ, s, I, w => sT_plain R (.glob g) x h rfl I w
  | .bin op a b, x, h, Q, X, σ, s, I, w => sT_plain R (.bin op a b) x h rfl I w
  | .neg a, x, h, Q, X, σ, s, I, w => sT_plain R (.neg a) x h rfl I w
  | .call f es, x, h, Q, X, σ, s, I, w => sT_plain R (.call f es) x h rfl I w
  | .blt f es, x, h, Q, X, σ, s, I, w => sT_plain R (.blt f es) x h rfl I w
  | .isa a t, x, h, Q, X, σ, s, I, w => sT_plain R (.isa a t) x h rfl I w
  | .idx a i, x, h, Q, X, σ, s, I, w => sT_plain R (.idx a i) x h rfl I w
  | .slice a lo hi, x, h, Q, X, σ, s, I, w => sT_plain R (.slice a lo hi) x h rfl I w
  | .tup es, x, h, Q, X, σ, s, I, w => sT_plain R (.tup es) x h rfl I w
  | .lst es, x, h, Q, X, σ, s, I, w => sT_plain R (.lst es) x h rfl I w
  | .append o a, x, h, Q, X, σ, s, I, w => sT_plain R (.append o a) x h rfl I w
  | .comp elt xs k es, x, h, Q, X, σ, s, I, w => sT_plain R (.comp elt xs k es) x h rfl I w
theorem sTs {V : Vw} (R : Run c F env V n q) (op : BoolOp) : ∀ (es : List E) (xs : List Expr), oks es V xs = true → ∀ {Q : Bool → St → Prop} {X : Str → St → Prop} {σ : St} {s : Shared}, Inv c F σ s → wTs c n q op es Q X σ →
    wpAny (model c.prog c.w) F.A (allTrue op (likes es V xs) env) (PostB c F s.heap Q) (Exc c F s.heap X) s
  | [], xs, h, Q, X, σ, s, I, w => wpAny_pure ⟨σ, Grow.refl _, I, w⟩
  | e :: es, xs, h, Q, X, σ, s, I, w => by
    show wpAny _ _ (allTrue op (like e V (xs.headD default) :: likes es V xs.tail) env) _ _ s
    rw [arm_allTrue_cons]
    refine wpAny_bind (wpAny_mono (sT R e _ (and2 h).1 I w) (fun b s₁ p₁ => ?_) fun _ _ y => y)
    obtain ⟨σ₁, g₁, I₁, w₁⟩ := p₁
    by_cases z : b = (op == .Or)
    · rw [if_pos z] at w₁
      have : PostB c F s.heap Q b s₁ := ⟨σ₁, g₁, I₁, w₁⟩
      cases op <;> cases b <;> first | (simp at z; done) | exact wpAny_pure this
    · rw [if_neg z] at w₁
      have : wpAny (model c.prog c.w) F.A (allTrue op (likes es V xs.tail) env) (PostB c F s.heap Q) (Exc c F s.heap X) s₁ := wpAny_mono (sTs R op es xs.tail (and2 h).2 I₁ w₁) (fun _ _ y => y.grow g₁) fun _ _ y => y.grow g₁
      cases op <;> cases b <;> first | (simp at z; done) | exact this
end

/-- stores, one after the other -/
theorem s_stores {K : Str → Option NameKind} {ns : Nat → Option Str} (FO : FmOK c n q F) (Wr : FmW F) (O : EnvOK F env K ns) {E : Value → Shared → Prop} : ∀ (xs : List Nat) (ys : List Str) (ds : List D) (vs : List Value) (σ : St) (s : Shared) (Q : Unit → Shared → Prop), xs.length = ds.length → (∀ p ∈ xs.zip ys, ns p.1 = some p.2) → xs.length = ys.length → Reps s.heap vs ds → Inv c F σ s →
    (∀ s', SameSh s s' → Grow s.heap s'.heap → Inv c F (setAll σ xs ds) s' → Q () s') → wpAny (model c.prog c.w) F.A (assignInOrder (ys.map fun y => bindName env y) vs) Q E s
  | [], ys, ds, vs, σ, s, Q, hl, hn, hy, r, I, h => by
    cases ys with
    | cons => simp at hy
    | nil => exact wpAny_pure (h s (SameSh.refl s) (Grow.refl _) I)
  | x :: xs, ys, ds, vs, σ, s, Q, hl, hn, hy, r, I, h => by
    cases ys with
    | nil => simp at hy
    | cons y ys =>
      cases r with
      | nil => simp at hl
      | cons rv rs =>
        rename_i v vs d ds
        show wpAny _ _ (do holding vs (bindName env y v); assignInOrder (ys.map fun y => bindName env y) vs) _ _ s
        refine wpAny_bind (wpAny_holding (wpAny_bindName (store_var I FO Wr O (hn (x, y) (by simp)) rv fun s₁ hs₁ g₁ I₁ => ?_)))
        exact s_stores FO Wr O xs ys ds vs (σ.set x d) s₁ Q (by simpa using hl) (fun p hp => hn p (by simp [hp])) (by simpa using hy) (rs.grow g₁) I₁ fun s₂ hs₂ g₂ I₂ => h s₂ (hs₁.trans hs₂) (g₁.trans g₂) I₂
end
end Mine

/-! ## M18 -/
namespace Mine
open PySem PySem.SeqAt

/-- what the text's own exception classes meet -/
structure RzOK (c : Cx) : Prop where
  own : ∀ nm C, c.cls nm = some C → ∃ bm newId initId, PyProof.Rows.OwnCls nm C bm newId c.mg c.B ∧ ExcBaseFacts "ValueError" newId initId bm
  mat : ∀ {e k : Str} {Ce Ck a : Addr} {o : Obj} {A : Around} {E : Value → Shared → Prop} {s : Shared} {Q : Bool → Shared → Prop}, c.cls e = some Ce → c.cls k = some Ck → c.B.StaysIn s.heap → s.heap.get? a = some o → o.cls = .ref Ce →
    Q (c.sub e k) s → wpAny (model c.prog c.w) A (excMatches (.ref a) (.ref Ck)) Q E s

section
variable {c : Cx} {F : Fm} {env : Env} {V : Vw} {n : Nat} {q : Bool}

theorem kept_up {l : List Env} {B hc h₁ h₂ B' : Heap} (hf : FramesOK B hc l) (hk : Kept (fsOf l) hc h₁) (hB : ∀ b o, hc.get? b = some o → b ∉ fsOf l → B'.get? b = some o) (hst : B'.StaysIn h₂) (hu : h₁.UpToSlots h₂) : Kept (fsOf l) hc h₂ := fun b o e => by
  by_cases m : b ∈ fsOf l
  · obtain ⟨_, o', es, ep, ho', hd⟩ := hf.mem m
    rw [e] at ho'; cases ho'
    obtain ⟨s1, e1, _⟩ := hk b o e
    obtain ⟨s2, e2⟩ := hu b _ e1 (fun vs z => by simp only at z; rw [hd] at z; cases z)
    exact ⟨s2, e2, fun w => w.elim (fun w => absurd m w) fun w => absurd hd (w _ _)⟩
  · exact ⟨o.slots, hst b o (hB b o e m), fun _ => rfl⟩

theorem hidden {B h : Heap} {as : List Addr} : ∀ {l : List Env}, FramesOK B h l → (∀ env ∈ l, ∀ a, env.frame = some a → a ∈ as) → h.FunFrames (PySem.W.hideAll h as) l
  | [], _, _ => trivial
  | env :: l, f, hin => by
    obtain ⟨k, L, m, e1, e2, ⟨o, es, ep, ho, hd, _⟩⟩ := f env (.head _)
    exact ⟨(by rw [k]; decide), ⟨L, o, e1, PySem.W.hideAll_none _ (hin env (.head _) L e1), ho, fun vs z => by rw [hd] at z; cases z⟩, hidden (fun ev hm => f ev (.tail _ hm)) fun e he => hin e (.tail _ he)⟩
theorem hide_frames {B h : Heap} {l : List Env} (f : FramesOK B h l) : h.FunFrames (PySem.W.hideAll h (fsOf l)) l :=
  hidden f fun env he a ha => List.mem_filterMap.mpr ⟨env, he, ha⟩

/-- an exception on its way is looked at in its frame -/
theorem up_note {hc : Heap} {s' : Shared} {ea C L : Addr} {A : Around} {E : Value → Shared → Prop} {Q : Unit → Shared → Prop} (hfr : A.frames = some (F.fenv :: F.outer)) (hL : F.fenv.frame = some L) (hf : FramesOK c.B hc (F.fenv :: F.outer)) (u : Up F hc ea C s'.heap)
    (hQ : ∀ h' B' a0, (∀ b o, hc.get? b = some o → b ∉ F.fs1 → B'.get? b = some o) → Heap.HeldW B' (F.fenv :: F.outer) ea (.ref C) a0 L h' → s'.heap.UpToSlots h' → Q () { s' with heap := h' }) : wpAny (model c.prog c.w) A (noteFrame (.ref ea) F.fenv) Q E s' := by
  rcases u with ⟨B', t, hB, hfl⟩ | ⟨args, hm⟩
  · exact wpAny_looks_onW hfr hL hfl fun h' hh hu => hQ h' B' t hB hh hu
  · obtain ⟨t, he, htn, ht⟩ := hm.there
    have hkb : (PySem.W.hideAll hc (fsOf (F.fenv :: F.outer))).StaysIn s'.heap := fun b o e => hm.keeps b o (PySem.W.of_hideAll _ e)
    have fresh : (PySem.W.hideAll hc (fsOf (F.fenv :: F.outer))).get? ea = none := by
      cases e : (PySem.W.hideAll hc (fsOf (F.fenv :: F.outer))).get? ea with
      | none => rfl
      | some o => have := PySem.W.of_hideAll _ e; rw [hm.new] at this; cases this
    unfold noteFrame
    simp only [hL]
    refine wpAny_bind (wpAny_field (x := .none) he rfl rfl ?_)
    rw [if_neg (show ¬ ((Value.none != Value.none) = true) from by decide)]
    refine wpAny_entryW (a0 := .ref t) hfr ((hide_frames hf).of_keeps fun b o e _ => ⟨o, hm.keeps b o e, rfl⟩) hL he hkb fresh rfl (by simp) rfl fun h' hN => ?_
    obtain ⟨k1, k2, k3, k4⟩ := hN
    exact hQ h' _ _ (fun b o e m => PySem.W.hideAll_get _ e m) ⟨k1, fresh, k2, k3⟩ k4

/-- an exception leaves its frame -/
theorem up_leave {hc : Heap} {s' : Shared} {ea C L : Addr} {A : Around} {E : Value → Shared → Prop} {Q : Unit → Shared → Prop} (hfr : A.frames = some (F.fenv :: F.outer)) (hL : F.fenv.frame = some L) (hf : FramesOK c.B hc (F.fenv :: F.outer)) (u : Up F hc ea C s'.heap)
    (hQ : ∀ h' B' a0, (∀ b o, hc.get? b = some o → b ∉ F.fs1 → B'.get? b = some o) → Heap.FlyingW B' F.outer ea (.ref C) a0 h' → s'.heap.UpToSlots h' → Q () { s' with heap := h' }) : wpAny (model c.prog c.w) A (leaving F.fenv (.ref ea)) Q E s' := by
  rcases u with ⟨B', t, hB, hfl⟩ | ⟨args, hm⟩
  · exact wpAny_leaves_onW hfr hL hfl fun h' hh hu => hQ h' B' t hB hh hu
  · exact wpAny_leaves_madeW hfr hL (fun b o e => PySem.W.of_hideAll _ e) (hide_frames hf) hm fun h' t x1 x2 x3 x4 => hQ h' _ _ (fun b o e m => PySem.W.hideAll_get _ e m) x1 x4

theorem s_raise (R : Run c F env V n true) (RO : RzOK c) {σ : St} {s : Shared} {X : Str → St → Prop} {Q : Flow → Shared → Prop} {x : Str} {C : Addr} {m : Str} {np mp cpos pos : Pos} {kk : Nat} (I : Inv c F σ s) (hx : isGl V.K x = true) (hC : c.cls x = some C) (w : X x σ) :
    wpAny (model c.prog c.w) F.A (exec (.Raise (some (.Call (.Name x np) [.Constant (.str m) kk mp] [] cpos)) none pos) env) Q (Exc c F s.heap X) s := by
  obtain ⟨bm, newId, initId, O, FB⟩ := RO.own x C hC
  obtain ⟨tl, N, nm, q, bs, hdct, sn, sub, ab, col, dd, k0, k1, k2, k3, k5, mN, hCo, hN, hni, T⟩ := O.obj
  refine wpAny_Raise_call_subT (C := C) (nm := nm) (q := q) (N := N) (bs := bs) (bm := tl) (hdct := hdct) (sn := sn) (sub := sub) (ab := ab) (col := col) (dd := dd) (k0 := k0) (k1 := k1) (k2 := k2) (k3 := k3) (k5 := k5)
    FB (mN := mN) (T.hasType FB.hasBase) (R.FO.handled rfl) rfl hni (load_global R.CO R.O I hx (R.CO.cls x C hC) ⟨rfl, ?_⟩)
  refine Calls.evalArgs_plain (Calls.spliced_cons (Calls.Constant_str (k := kk) (pos := mp) (Calls.spliced_nil ?_)))
  have I₁ := I.tok (s.toks + 1)
  have st : c.B.StaysIn s.heap := I.base
  refine ⟨rfl, by simp [sizeLine_val], st _ _ hCo, hN.keeps st, T.keeps st, fun h' e hm => ?_⟩
  exact ⟨e, x, C, σ, { s with toks := s.toks + 1 }, rfl, hC, Grow.refl _, I₁, ⟨h', _, rfl⟩, fun b o z => hm.keeps b o (st b o z), Kept.of_keeps hm.keeps, .inr ⟨_, hm⟩, w⟩

/-- the frame, handling an exception -/
def Fm.marked (F : Fm) (e : Addr) : Fm := { F with A := F.A.mark (some (.ref e)) }
theorem FmOK.marked (FO : FmOK c n true F) (e : Addr) : FmOK c n false (F.marked e) where
  frames := FO.frames
  handled := fun h => by cases h
  depth := FO.depth
  units := FO.units
  globals := FO.globals
  builtins := FO.builtins
  gen := FO.gen
  co := FO.co
  bh := FO.bh
  back := FO.back
  tab := FO.tab
theorem Inv.marked {σ : St} {s : Shared} (I : Inv c F σ s) (e : Addr) : Inv c (F.marked e) σ s := ⟨I.same, I.base, I.kept, I.frames, I.vars, I.places, I.sto⟩
theorem Inv.unmarked {σ : St} {s : Shared} {e : Addr} (I : Inv c (F.marked e) σ s) : Inv c F σ s := ⟨I.same, I.base, I.kept, I.frames, I.vars, I.places, I.sto⟩
theorem Run.marked (R : Run c F env V n true) (e : Addr) : Run c (F.marked e) env V n false := ⟨R.CO, R.EO, R.FO.marked e, ⟨R.O.kind, R.O.globals, R.O.builtins, R.O.kinds, R.O.res, R.O.cells⟩, R.U⟩
theorem FmW.marked (W : FmW F) (e : Addr) : FmW (F.marked e) := ⟨W.fresh, W.apart⟩

/-- an exception is caught -/
theorem s_catch (R : Run c F env V n true) (RO : RzOK c) (henv : env = F.fenv) {σ : St} {sc s' : Shared} {ea C Ck : Addr} {e k : Str} {E : Value → Shared → Prop} {Q : Flow → Shared → Prop} {nm : Option Str} {b₀ : Stmt} {suite : List Stmt} {np pos : Pos}
    (I : Inv c F σ sc) (hs : SameSh sc s') (hk : Kept F.fs1 sc.heap s'.heap) (u : Up F sc.heap ea C s'.heap) (he : c.cls e = some C) (hck : c.cls k = some Ck) (hgl : isGl V.K k = true) (hsub : c.sub e k = true)
    (go : ∀ s₂, SameSh sc s₂ → Kept F.fs1 sc.heap s₂.heap → Inv c F σ s₂ → Rep s₂.heap (.ref ea) (.exc ea e C) → (∃ B' a0, Heap.FlyingW B' (F.fenv :: F.outer) ea (.ref C) a0 s₂.heap ∧ ∀ b o, sc.heap.get? b = some o → b ∉ F.fs1 → B'.get? b = some o) →
      codeAny (model c.prog c.w) (F.A.mark (some (.ref ea))) (.handlers (.ref ea) [.ExceptHandler none nm (b₀ :: suite) pos] env) (fun r s₂ => match r with
          | .ok f => (match nm with
            | none => Q f s₂
            | some n => wpAny (model c.prog c.w) F.A (do bindName env n .none; unbindBehindTheSuite env n pos) (fun _ s₃ => Q f s₃) E s₂)
          | .error x => cameBackBy (model c.prog c.w) F.A env E x s₂) s₂) :
    wpAny (model c.prog c.w) F.A (noteFrame (.ref ea) env) (fun _ s₂ => wpAny (model c.prog c.w) F.A (setFlight (.ref ea) none) (fun _ s₃ => wpAny (model c.prog c.w) F.A (handleBy (.ref ea) env [.ExceptHandler (some (.Name k np)) nm (b₀ :: suite) pos]) Q E s₃) E s₂) E s' := by
  subst henv
  obtain ⟨L, hL⟩ := R.FO.tab
  refine up_note R.FO.frames hL I.frames u fun h₁ B' a0 hB hheld hu₁ => ?_
  refine wpAny_landsW hheld fun h₂ hfl hu₂ => ?_
  have kk : Kept F.fs1 sc.heap h₂ := kept_up I.frames hk hB hfl.1 (hu₁.trans hu₂)
  have hs₂ : SameSh sc { s' with heap := h₂ } := hs.trans ⟨h₂, s'.toks, rfl⟩
  have I₂ := I.after R.FO (s' := { s' with heap := h₂ }) kk hs₂
  obtain ⟨oe, ws, hoe, hoec, hoed, hoe0⟩ := hfl.first
  refine wpAny_handleBy_cons (codeAny_handlers_test (load_global R.CO R.O I₂ hgl (R.CO.cls k Ck hck) ?_)) (by intro z; cases z)
  refine RO.mat he hck I₂.base hoe hoec ?_
  rw [hsub]
  exact go _ hs₂ kk I₂ (.exc hoe hoec hoed) ⟨B', a0, hfl, hB⟩
end
end Mine

/-! ## M19 -/
namespace Mine
open PySem PySem.SeqAt

def namesOf : List Expr → List Str
  | .Name y _ :: xs => y :: namesOf xs
  | _ => []
def isStarred : Expr → Bool
  | .Starred .. => true
  | _ => false
def swapNames (K : Str → Option NameKind) (ts : List Expr) : List Str :=
  ts.filterMap fun
    | .Name id pos => if K id == some .local && pos.line == (ts.head?.map (·.pos.line)).getD 0 then some id else none
    | _ => none
def swapOK (K : Str → Option NameKind) (ts vs : List Expr) : Bool :=
  (ts.length == 2 || ts.length == 3) && vs.length == ts.length && !(vs.any isStarred) && swapNames K ts == namesOf ts && (namesOf ts).length == ts.length && (namesOf ts).eraseDups.length == ts.length && !(vs.all (foldedForSure 8)) && !(vs.all (constantsAlone 8))
def nodupB : List Nat → Bool
  | [] => true
  | x :: xs => !(xs.contains x) && nodupB xs
theorem names_namesX : ∀ (ss : List Str) (ys : List Expr), namesOf (namesX ss ys) = ss
  | [], _ => rfl
  | s :: ss, ys => congrArg (s :: ·) (names_namesX ss ys.tail)

/-! the parts of a text's statement, by place -/
def sxs (s : Stmt) : List Expr := match s with
  | .Expr x _ => [x]
  | .Assign ts x _ => x :: ts
  | .If x _ _ _ => [x]
  | .While x _ _ _ => [x]
  | .For t x _ _ _ => [x, t]
  | .Return x _ => [x.getD default]
  | .Raise x _ _ => [x.getD default]
  | _ => []
def sx (s : Stmt) (i : Nat) : Expr := (sxs s).getD i default
def hdX : ExceptHandler → Expr × List Stmt × Pos
  | .ExceptHandler t _ b p => (t.getD default, b, p)
def hdOf (s : Stmt) : Expr × List Stmt × Pos := match s with
  | .Try _ (h :: _) _ _ _ => hdX h
  | _ => (default, [], default)
def sBody (s : Stmt) : List Stmt := match s with
  | .If _ b _ _ => b
  | .While _ b _ _ => b
  | .For _ _ b _ _ => b
  | .Try b _ _ _ _ => b
  | _ => []
def sElse (s : Stmt) : List Stmt := match s with
  | .If _ _ b _ => b
  | _ => []
mutual
/-- this statement, told in the text's language, with the places of s -/
def likeS : S → Vw → Stmt → Stmt
  | .expr e, V, s => .Expr (like e V (sx s 0)) s.pos
  | .assign i e, V, s => .Assign [.Name (V.nL i) (sx s 1).pos] (like e V (sx s 0)) s.pos
  | .unpack is e, V, s => .Assign [.Tuple (namesX (is.map V.nL) (kids (sx s 1))) (kOf (sx s 1)) (sx s 1).pos] (like e V (sx s 0)) s.pos
  | .swap is es, V, s => .Assign [.Tuple (namesX (is.map V.nL) (kids (sx s 1))) (kOf (sx s 1)) (sx s 1).pos] (like (.tup es) V (sx s 0)) s.pos
  | .setitem o i e, V, s => .Assign [.Subscript (like o V (kid (sx s 1) 0)) (like i V (kid (sx s 1) 1)) (sx s 1).pos] (like e V (sx s 0)) s.pos
  | .ifs t a b, V, s => .If (like t V (sx s 0)) (likeSs a V (sBody s)) (likeSs b V (sElse s)) s.pos
  | .whiles t b, V, s => .While (like t V (sx s 0)) (likeSs b V (sBody s)) [] s.pos
  | .fors is one k es b, V, s => .For (tgt one (is.map V.nL) (sx s 1)) (likeIt k (likes es V (itArgs k (sx s 0))) (sx s 0)) (likeSs b V (sBody s)) [] s.pos
  | .ret e, V, s => .Return (some (like e V (sx s 0))) s.pos
  | .raise k m, V, s => .Raise (some (.Call (.Name k (kid (sx s 0) 0).pos) [.Constant (.str m) (kOf (kid (sx s 0) 1)) (kid (sx s 0) 1).pos] [] (sx s 0).pos)) none s.pos
  | .tryx b k x h, V, s => .Try (likeSs b V (sBody s)) [.ExceptHandler (some (.Name k (hdOf s).1.pos)) (x.map V.nL) (likeSs h V (hdOf s).2.1) (hdOf s).2.2] [] [] s.pos
  | .pass, V, s => .Pass s.pos
  | .any, V, s => s
def likeSs : List S → Vw → List Stmt → List Stmt
  | [], V, xs => []
  | s :: ss, V, xs => likeS s V (xs.headD default) :: likeSs ss V xs.tail
end
def notC (e : E) : Bool := match e with
  | .comp _ _ _ _ => false
  | _ => true
def notTup (e : E) : Bool := match e with
  | .tup _ => false
  | _ => true
def okVs (V : Vw) (is : List Nat) : Bool := is.all fun i => V.ns i == some (V.nL i)
mutual
def okS : S → Vw → Stmt → Bool
  | .expr e, V, s => ok e V (sx s 0) && notC e
  | .assign i e, V, s => V.ns i == some (V.nL i) && ok e V (sx s 0) && notC e
  | .unpack is e, V, s => okVs V is && ok e V (sx s 0) && notC e && notTup e
  | .swap is es, V, s => okVs V is && oks es V (kids (sx s 0)) && nodupB is && swapOK V.K (namesX (is.map V.nL) (kids (sx s 1))) (likes es V (kids (sx s 0)))
  | .setitem o i e, V, s => ok o V (kid (sx s 1) 0) && ok i V (kid (sx s 1) 1) && ok e V (sx s 0) && notC e
  | .ifs t a b, V, s => ok t V (sx s 0) && okSs a V (sBody s) && okSs b V (sElse s)
  | .whiles t b, V, s => ok t V (sx s 0) && okSs b V (sBody s)
  | .fors is one k es b, V, s => okVs V is && itGl V.K k es && oks es V (itArgs k (sx s 0)) && okSs b V (sBody s)
  | .ret e, V, s => ok e V (sx s 0)
  | .raise k m, V, s => isGl V.K k
  | .tryx b k none h, V, s => okSs b V (sBody s) && isGl V.K k && okSs h V (hdOf s).2.1 && !h.isEmpty
  | .tryx b k (some i) h, V, s => okSs b V (sBody s) && isGl V.K k && okSs h V (hdOf s).2.1 && !h.isEmpty && V.ns i == some (V.nL i) && V.K (V.nL i) == some .local
  | .pass, V, s => true
  | .any, V, s => true
def okSs : List S → Vw → List Stmt → Bool
  | [], V, xs => true
  | s :: ss, V, xs => okS s V (xs.headD default) && okSs ss V xs.tail
end

theorem swapped_eq {env : Env} {K : Str → Option NameKind} {ts vs : List Expr} {k k' : Nat} {p p' : Pos} (hk : env.scope.kind = .function) (hK : ∀ x, env.kindOf x = K x) (h : swapOK K ts vs = true) :
    swappedStores [.Tuple ts k p] (.Tuple vs k' p') env = pure (some (namesOf ts)) := by
  unfold swapOK at h
  simp only [Bool.and_eq_true, Bool.not_eq_true', Bool.or_eq_true, beq_iff_eq] at h
  obtain ⟨⟨⟨⟨⟨⟨⟨h1, h2⟩, h3⟩, h4⟩, h5⟩, h6⟩, h7⟩, h8⟩ := h
  have hb : env.blockKind = .function := by unfold Env.blockKind; rw [hk]; rfl
  unfold swappedStores
  dsimp only
  rw [if_neg (by rw [hb]; rcases h1 with h1 | h1 <;> simp [h1, h2])]
  rw [if_neg (fun z => by
    have : vs.any isStarred = true := by
      rw [← z]
      rfl
    rw [h3] at this; cases this)]
  generalize hN : List.filterMap _ ts = N
  have hN' : N = namesOf ts := by
    rw [← hN, ← h4]
    unfold swapNames
    congr 1
    funext x
    cases x <;> simp [hK]
  subst hN'
  rw [if_neg (by simp [h5, h6]), if_neg (by rw [h7]; simp), if_neg (by rw [h8]; simp)]

theorem setAll_app (xs : List Nat) : ∀ (ds : List D) (σ : St) (x : Nat) (d : D), xs.length = ds.length → setAll σ (xs ++ [x]) (ds ++ [d]) = (setAll σ xs ds).set x d := by
  induction xs with
  | nil => intro ds σ x d h; cases ds with | nil => rfl | cons => simp at h
  | cons y ys ih =>
    intro ds σ x d h
    cases ds with
    | nil => simp at h
    | cons e es => exact ih es (σ.set y e) x d (by simpa using h)
theorem set_swap {σ : St} {x y : Nat} {d e : D} (h : x ≠ y) : (σ.set x d).set y e = (σ.set y e).set x d := by
  unfold St.set
  congr 1
  funext j
  by_cases h1 : j = x <;> by_cases h2 : j = y <;> simp_all
theorem setAll_set : ∀ (xs : List Nat) (ds : List D) (σ : St) (x : Nat) (d : D), xs.contains x = false → (setAll σ xs ds).set x d = setAll (σ.set x d) xs ds
  | [], ds, σ, x, d, _ => by cases ds <;> rfl
  | y :: ys, [], σ, x, d, _ => rfl
  | y :: ys, e :: es, σ, x, d, h => by
    simp only [List.contains_cons, Bool.or_eq_false_iff, beq_eq_false_iff_ne, ne_eq] at h
    show (setAll (σ.set y e) ys es).set x d = setAll ((σ.set x d).set y e) ys es
    rw [setAll_set ys es (σ.set y e) x d h.2, set_swap (fun z => h.1 z.symm)]
theorem setAll_rev : ∀ (xs : List Nat) (ds : List D) (σ : St), xs.length = ds.length → nodupB xs = true → setAll σ xs.reverse ds.reverse = setAll σ xs ds
  | [], [], σ, _, _ => rfl
  | [], _ :: _, σ, h, _ => by simp at h
  | _ :: _, [], σ, h, _ => by simp at h
  | x :: xs, d :: ds, σ, h, hn => by
    simp only [nodupB, Bool.and_eq_true, Bool.not_eq_true'] at hn
    rw [List.reverse_cons, List.reverse_cons, setAll_app _ _ _ _ _ (by simpa using h), setAll_rev xs ds σ (by simpa using h) hn.2, setAll_set xs ds σ x d hn.1]
    rfl
theorem Reps.reverse {h : Heap} : ∀ {vs : List Value} {ds : List D}, Reps h vs ds → Reps h vs.reverse ds.reverse
  | _, _, .nil => .nil
  | _, _, .cons x y => by
    rw [List.reverse_cons, List.reverse_cons]
    exact (Reps.reverse y).append (.cons x .nil)

section
variable {c : Cx} {F : Fm} {env : Env} {K : Str → Option NameKind} {ns : Nat → Option Str} {n : Nat} {q : Bool}

/-- a name, let go -/
theorem unbind_var (FO : FmOK c n q F) (Wr : FmW F) (O : EnvOK F env K ns) {M : Model} {A : Around} {E : Value → Shared → Prop} {i : Nat} {x : Str} {d : D} {σ : St} {s : Shared} {pos : Pos} {Q : Unit → Shared → Prop} (I : Inv c F σ s) (hx : ns i = some x) (hk : K x = some .local) (hd : σ.loc i = some d)
    (h : ∀ s', SameSh s s' → Grow s.heap s'.heap → Inv c F (σ.del i) s' → Q () s') : wpAny M A (unbindBehindTheSuite env x pos) Q E s := by
  have hK := (O.kinds x).trans hk
  have hl : F.loc i = some (.ns env.locals x) := by
    rcases O.res i x hx with ⟨_, hl⟩ | ⟨hk', _⟩
    · exact hl
    · rw [hK] at hk'; cases hk'
  obtain ⟨l, v, e1, e2, e3⟩ := I.vars i d hd
  rw [hl] at e1; cases e1
  obtain ⟨m, hn, hv⟩ := e2
  unfold unbindBehindTheSuite
  refine wpAny_onRaise (wpAny_unbindName_local hK hn hv (by rw [O.kind]; rfl) fun h' u hn' hs' => ?_)
  obtain ⟨o, es, ep, ho, hdt, rr⟩ := id hn
  have kk : ∀ b o, b ≠ env.locals → s.heap.get? b = some o → h'.get? b = some o := fun b o nb e => hs'.extBut b o nb e
  have fresh := Wr.fresh i _ hl
  have nB : c.B.get? env.locals = none := by
    cases e : c.B.get? env.locals with
    | none => rfl
    | some o' => have := FO.bh _ _ e; rw [show F.hE.get? env.locals = none from fresh] at this; cases this
  have grow : Grow s.heap h' := fun b o' e st => kk b o' (fun z => by
    subst z
    rw [ho] at e; cases e
    rcases st with ⟨xs, m, _, st⟩ | ⟨vs, st⟩ <;> (rw [hdt] at st; cases st)) e
  refine h _ ⟨h', s.toks, rfl⟩ grow ⟨I.same.trans ⟨h', s.toks, rfl⟩, fun b o' e => kk b o' (fun z => by rw [z, nB] at e; cases e) (I.base b o' e), I.kept.but fresh kk, fun env' he => ?_, fun j d' e => ?_, fun j l' e => ?_, fun a k' e => ?_⟩
  · obtain ⟨h1, L, m', h2, h3, h4⟩ := I.frames env' he
    by_cases z : L = env.locals
    · exact ⟨h1, L, _, h2, h3, z ▸ hn'⟩
    · exact ⟨h1, L, m', h2, h3, h4.at' fun o' e => kk L o' z e⟩
  · by_cases z : j = i
    · subst z
      simp [St.del] at e
    · have e' : σ.loc j = some d' := by simpa [St.del, z] using e
      obtain ⟨l', w, e1, e2, e3⟩ := I.vars j d' e'
      refine ⟨l', w, e1, ?_, Rep.grow grow e3⟩
      cases l' with
      | ns L y =>
        obtain ⟨m₁, hn₁, hv₁⟩ := e2
        by_cases z' : L = env.locals
        · subst z'
          have := Ns.unique hn hn₁
          subst this
          refine ⟨_, hn', ?_⟩
          rw [if_neg (fun z' => z (Wr.apart j i _ (by rw [e1, z']) hl))]; exact hv₁
        · exact ⟨m₁, hn₁.at' fun o e => kk L o z' e, hv₁⟩
      | cell a =>
        obtain ⟨oa, e1, e2⟩ := e2
        exact ⟨oa, kk a oa (fun z => by rw [z, ho] at e1; cases e1; rw [hdt] at e2; cases e2) e1, e2⟩
  · have p := I.places j l' e
    cases l' with
    | ns L y =>
      obtain ⟨m₁, hn₁⟩ := p
      by_cases z : L = env.locals
      · subst z; exact ⟨_, hn'⟩
      · exact ⟨m₁, hn₁.at' fun o e => kk L o z e⟩
    | cell a =>
      obtain ⟨w, oa, e1, e2⟩ := p
      exact ⟨w, oa, kk a oa (fun z => by rw [z, ho] at e1; cases e1; rw [hdt] at e2; cases e2) e1, e2⟩
  · have p := I.sto a k' e
    cases k' with
    | dict ps => exact p
    | list own ds =>
      obtain ⟨vs, h1, h2, h3⟩ := p
      obtain ⟨oa, e1, e2, m, e3⟩ := id h1
      have na : a ≠ env.locals := fun z => by rw [z, ho] at e1; cases e1; rw [hdt] at e3; cases e3
      exact ⟨vs, ⟨oa, kk a oa na e1, e2, m, e3⟩, fun w => ⟨(h2 w).1.at fun o' e' => kk a o' na e', (h2 w).2⟩, Reps.grow grow h3⟩
end
end Mine

/-! ## M20 -/
namespace Mine
open PySem PySem.SeqAt

def FlRep (h : Heap) : Flow → Fl → Prop
  | .next, .next => True
  | .brk, .brk => True
  | .cont, .cont => True
  | .ret v, .ret d => Rep h v d
  | _, _ => False
theorem FlRep.grow {h h' : Heap} (g : Grow h h') : ∀ {f : Flow} {fl : Fl}, FlRep h f fl → FlRep h' f fl
  | .next, .next, _ => trivial
  | .brk, .brk, _ => trivial
  | .cont, .cont, _ => trivial
  | .ret _, .ret _, r => Rep.grow g r

def PostS (c : Cx) (F : Fm) (h₀ : Heap) (Q : Fl → St → Prop) : Flow → Shared → Prop := fun f s' => ∃ fl σ', Grow h₀ s'.heap ∧ Inv c F σ' s' ∧ FlRep s'.heap f fl ∧ Q fl σ'
theorem PostS.grow {c : Cx} {F : Fm} {h₀ h₁ : Heap} {Q : Fl → St → Prop} {f : Flow} {s' : Shared} (g : Grow h₀ h₁) (x : PostS c F h₁ Q f s') : PostS c F h₀ Q f s' := by
  obtain ⟨d, σ', h1, r⟩ := x
  exact ⟨d, σ', g.trans h1, r⟩
theorem notC_swaps {e : E} {V : Vw} {x : Expr} {t : Option Expr} {l : Nat} {env : Env} (h : notC e = true) : swapsWith (like e V x) t l env = pure false := by
  cases e <;> first | rfl | exact (Bool.false_ne_true h).elim
theorem notTup_swapped {e : E} {V : Vw} {x : Expr} {env : Env} {ts : List Expr} {k : Nat} {tp : Pos} (h : notTup e = true) : swappedStores [.Tuple ts k tp] (like e V x) env = pure none := by
  cases e <;> first | exact (Bool.false_ne_true h).elim | rfl
theorem likeIt_folded {k : ItK} {es : List E} {V : Vw} {xs : List Expr} {x : Expr} {env : Env} {K : Str → Option NameKind} (h : itGl K k es = true) (v : Value) : foldedSetIterable (likeIt k (likes es V xs) x) env v = pure v := by
  cases k with
  | plain =>
    cases es with
    | nil => exact (Bool.false_ne_true h).elim
    | cons e es => exact like_folded e V _ env v
  | _ => rfl

section
variable {c : Cx} {F : Fm} {env : Env} {V : Vw} {n : Nat} {q : Bool}

/-- a for loop's turns -/
theorem s_for (R : Run c F env V n q) {items : List D} {g : St → Prop} {it : Value} {wr : List Addr} {At : Nat → Heap → Prop} (W : ItOK c F items g it wr At) {target : Expr} {body : List Stmt} {step : D → (Fl → St → Prop) → St → Prop} {h₀ : Heap} {Q : Fl → St → Prop} {Rr : Result → Shared → Prop}
    (fresh : ∀ b ∈ wr, ∀ o, h₀.get? b = some o → ¬ stable o)
    (turn : ∀ (d : D) (v : Value) (σ : St) (s : Shared) (Kk : Fl → St → Prop), Inv c F σ s → Rep s.heap v d → step d Kk σ →
      wpAny (model c.prog c.w) F.A (assign target env v) (fun _ s₂ => wpAny (model c.prog c.w) F.A (execs body env) (PostS c F s.heap Kk) (Exc c F s.heap noX) s₂) (Exc c F s.heap noX) s)
    (done : ∀ f s', PostS c F h₀ Q f s' → Rr (.ok f) s') {σ : St} {s : Shared} (I : Inv c F σ s) (g₀ : Grow h₀ s.heap) (h0 : At 0 s.heap) (w : forL g step items Q σ) :
    codeAny (model c.prog c.w) F.A (.forLoop target it body [] env) Rr s := by
  refine codeAny_forLoop_any (fun m s₁ => ∃ i σ', i ≤ items.length ∧ m = items.length - i ∧ Inv c F σ' s₁ ∧ Grow h₀ s₁.heap ∧ At i s₁.heap ∧ forL g step (items.drop i) Q σ') (fun m s₁ hI => ?_) items.length ⟨0, σ, Nat.zero_le _, rfl, I, g₀, h0, by simpa using w⟩
  obtain ⟨i, σ', hi, rfl, I₁, g₁, hat, w₁⟩ := hI
  have hw := fun b hb => And.intro (W.own hat b hb) (W.fresh b hb)
  have grow : ∀ h' : Heap, (∀ b o, b ∉ wr → s₁.heap.get? b = some o → h'.get? b = some o) → Grow h₀ h' := fun h' k b o e st => k b o (fun m => fresh b m o e st) (g₁ b o e st)
  rcases Nat.lt_or_eq_of_le hi with hlt | rfl
  · have hd : items[i]? = some items[i] := by simp [hlt]
    rw [List.drop_eq_getElem_cons hlt] at w₁
    obtain ⟨hg, w₁⟩ := w₁
    refine W.next I₁ hg hat hd fun v h' t rv hat' k => ?_
    have I₂ : Inv c F σ' { s₁ with heap := h', toks := t } := I₁.turnedL (t := t) (fun a ha => ⟨(hw a ha).1, (hw a ha).2⟩) k
    have g₂ := grow h' k
    refine W.goes hat' fun h'' hat'' k'' => ?_
    have I₃ : Inv c F σ' { s₁ with heap := h'', toks := t } := I₂.turnedL (t := t) (fun a ha => ⟨W.own hat' a ha, W.fresh a ha⟩) k''
    have g₃ : Grow h₀ h'' := fun b o e st => k'' b o (fun m => fresh b m o e st) (g₂ b o e st)
    have rv' : Rep h'' v items[i] := Rep.nf (fs := []) ⟨fun b o e nf => ⟨o.slots, k'' b o (fun m => by
        obtain ⟨o', vs, e1, e2, _⟩ := W.own hat' b m
        rw [e] at e1; cases e1; exact nf _ e2) e, fun _ => rfl⟩, fun b o C ws e hc _ => k'' b o (fun m => by
        obtain ⟨o', vs, e1, _, e3⟩ := W.own hat' b m
        rw [e] at e1; cases e1; exact e3 C hc) e⟩ rv
    refine wpAny_mono (turn items[i] v σ' { s₁ with heap := h'', toks := t } _ I₃ rv' w₁) (fun _ s₄ p₄ => wpAny_mono p₄ (fun f s₅ p₅ => ?_) fun _ _ y => (exc_noX y).elim) fun _ _ y => (exc_noX y).elim
    obtain ⟨fl, σ₅, g₅, I₅, rf, w₅⟩ := p₅
    cases f with
    | next =>
      cases fl <;> first | exact rf.elim | skip
      exact ⟨_, by omega, i + 1, σ₅, hlt, rfl, I₅, g₃.trans g₅, W.keep hat'' g₅, w₅⟩
    | cont =>
      cases fl <;> first | exact rf.elim | skip
      exact ⟨_, by omega, i + 1, σ₅, hlt, rfl, I₅, g₃.trans g₅, W.keep hat'' g₅, w₅⟩
    | brk =>
      cases fl <;> first | exact rf.elim | skip
      exact done _ _ ⟨.next, σ₅, g₃.trans g₅, I₅, trivial, w₅⟩
    | ret v =>
      cases fl <;> first | exact rf.elim | skip
      exact done _ _ ⟨.ret _, σ₅, g₃.trans g₅, I₅, rf, w₅⟩
  · rw [List.drop_length] at w₁
    obtain ⟨hg, w₁⟩ := w₁
    refine W.last I₁ hg hat rfl fun h' t k => ?_
    have I₂ : Inv c F σ' { s₁ with heap := h', toks := t } := I₁.turnedL (t := t) (fun a ha => ⟨(hw a ha).1, (hw a ha).2⟩) k
    exact wpAny_execs_nil (done _ _ ⟨.next, σ', grow h' k, I₂, trivial, w₁⟩)

/-- the suite behind an except -/
theorem s_suite (R : Run c F env V n true) (RO : RzOK c) (henv : env = F.fenv) {σ : St} {sc s' : Shared} {ea C Ck : Addr} {e k : Str} {E : Value → Shared → Prop} {h₀ : Heap} {Q : Fl → St → Prop} {b₀ : Stmt} {suite : List Stmt} {np pos : Pos} (g₀ : Grow h₀ sc.heap)
    (I : Inv c F σ sc) (hs : SameSh sc s') (hk : Kept F.fs1 sc.heap s'.heap) (u : Up F sc.heap ea C s'.heap) (he : c.cls e = some C) (hck : c.cls k = some Ck) (hgl : isGl V.K k = true) (hsub : c.sub e k = true)
    (go : ∀ s₂, Inv c (F.marked ea) σ s₂ → wpAny (model c.prog c.w) (F.marked ea).A (execs (b₀ :: suite) env) (PostS c (F.marked ea) s₂.heap Q) (Exc c (F.marked ea) s₂.heap noX) s₂) :
    wpAny (model c.prog c.w) F.A (noteFrame (.ref ea) env) (fun _ s₂ => wpAny (model c.prog c.w) F.A (setFlight (.ref ea) none) (fun _ s₃ => wpAny (model c.prog c.w) F.A (handleBy (.ref ea) env [.ExceptHandler (some (.Name k np)) none (b₀ :: suite) pos]) (PostS c F h₀ Q) E s₃) E s₂) E s' := by
  refine s_catch R RO henv I hs hk u he hck hgl hsub fun s₂ hs₂ hk₂ I₂ r₂ ⟨B', a0, hfl, hB⟩ => ?_
  refine codeAny_handlers_suite (PyProof.Rows.lands_againW hfl fun h₃ hfl₃ hu₃ => ?_)
  have kk : Kept F.fs1 sc.heap h₃ := kept_up I.frames hk₂ hB hfl₃.1 hu₃
  have hs₃ : SameSh sc { s₂ with heap := h₃ } := hs₂.trans ⟨h₃, s₂.toks, rfl⟩
  have I₃ := I.after R.FO (s' := { s₂ with heap := h₃ }) kk hs₃
  refine wpAny_mono (go _ (I₃.marked ea)) (fun f s₄ p => ?_) fun _ _ y => (exc_noX y).elim
  obtain ⟨fl, σ', g, I', rf, w⟩ := p
  exact ⟨fl, σ', (g₀.trans kk.grow).trans g, I'.unmarked, rf, w⟩

theorem s_suiteAs (R : Run c F env V n true) (Wr : FmW F) (RO : RzOK c) (henv : env = F.fenv) {σ : St} {sc s' : Shared} {ea C Ck : Addr} {e k z : Str} {i : Nat} {E : Value → Shared → Prop} {h₀ : Heap} {Q : Fl → St → Prop} {b₀ : Stmt} {suite : List Stmt} {np pos : Pos} (g₀ : Grow h₀ sc.heap)
    (I : Inv c F σ sc) (hs : SameSh sc s') (hk : Kept F.fs1 sc.heap s'.heap) (u : Up F sc.heap ea C s'.heap) (he : c.cls e = some C) (hck : c.cls k = some Ck) (hgl : isGl V.K k = true) (hsub : c.sub e k = true) (hz : V.ns i = some z) (hzl : V.K z = some .local)
    (go : ∀ s₂, Inv c (F.marked ea) (σ.set i (.exc ea e C)) s₂ → wpAny (model c.prog c.w) (F.marked ea).A (execs (b₀ :: suite) env) (PostS c (F.marked ea) s₂.heap fun fl σ₂ => Q fl (σ₂.del i)) (Exc c (F.marked ea) s₂.heap noX) s₂) :
    wpAny (model c.prog c.w) F.A (noteFrame (.ref ea) env) (fun _ s₂ => wpAny (model c.prog c.w) F.A (setFlight (.ref ea) none) (fun _ s₃ => wpAny (model c.prog c.w) F.A (handleBy (.ref ea) env [.ExceptHandler (some (.Name k np)) (some z) (b₀ :: suite) pos]) (PostS c F h₀ Q) E s₃) E s₂) E s' := by
  refine s_catch R RO henv I hs hk u he hck hgl hsub fun s₂ hs₂ hk₂ I₂ r₂ ⟨B', a0, hfl, hB⟩ => ?_
  refine codeAny_handlers_suite_as (PyProof.Rows.lands_againW hfl fun h₃ hfl₃ hu₃ => ?_)
  have kk : Kept F.fs1 sc.heap h₃ := kept_up I.frames hk₂ hB hfl₃.1 hu₃
  have hs₃ : SameSh sc { s₂ with heap := h₃ } := hs₂.trans ⟨h₃, s₂.toks, rfl⟩
  have I₃ := I.after R.FO (s' := { s₂ with heap := h₃ }) kk hs₃
  obtain ⟨oe, ws, hoe, hoec, hoed, hoe0⟩ := hfl₃.first
  have r₃ : Rep h₃ (.ref ea) (.exc ea e C) := .exc hoe hoec hoed
  refine store_var I₃ R.FO Wr R.O hz r₃ fun s₄ hs₄ g₄ I₄ => ?_
  refine wpAny_mono (go _ (I₄.marked ea)) (fun f s₅ p => ?_) fun _ _ y => (exc_noX y).elim
  obtain ⟨fl, σ', g, I', rf, w⟩ := p
  refine wpAny_bind (wpAny_bindName (store_var I'.unmarked R.FO Wr R.O hz .none fun s₆ hs₆ g₆ I₆ => ?_))
  refine unbind_var R.FO Wr R.O I₆ hz hzl (d := .none) (by simp [St.set]) fun s₇ hs₇ g₇ I₇ => ?_
  refine ⟨fl, _, (((g₀.trans kk.grow).trans g₄).trans g).trans (g₆.trans g₇), I₇, rf.grow (g₆.trans g₇), ?_⟩
  have : (σ'.set i .none).del i = σ'.del i := by
    unfold St.set St.del
    congr 1
    funext j
    by_cases h : j = i <;> simp [h]
  rw [this]; exact w
end
end Mine

/-! ## M22 -/
namespace Mine
open PySem PySem.SeqAt

theorem zip_rev {α β : Type} : ∀ (xs : List α) (ys : List β), xs.length = ys.length → ∀ p ∈ xs.reverse.zip ys.reverse, p ∈ xs.zip ys
  | [], [], _, p, h => h
  | [], _ :: _, h, _, _ => by simp at h
  | _ :: _, [], h, _, _ => by simp at h
  | x :: xs, y :: ys, h, p, hp => by
    rw [List.reverse_cons, List.reverse_cons, List.zip_append (by simpa using h)] at hp
    rcases List.mem_append.mp hp with hp | hp
    · exact List.mem_cons_of_mem _ (zip_rev xs ys (by simpa using h) p hp)
    · simp at hp; simp [hp]
theorem sole_swaps {e : E} {V : Vw} {x t : Expr} {l : Nat} {env : Env} (h : notC e = true) : swapsWithSole [t] (like e V x) l env = pure false := by
  show swapsWith (like e V x) (some t) l env = pure false
  exact notC_swaps h
theorem zip_self {α : Type} : ∀ (xs : List α) (p : α × α), p ∈ xs.zip xs → p.1 = p.2
  | [], p, h => by cases h
  | x :: xs, p, h => by
    rcases List.mem_cons.mp h with rfl | h
    · rfl
    · exact zip_self xs p h
theorem sI {c : Cx} {F : Fm} {env : Env} {V : Vw} {n : Nat} (R : Run c F env V n true) (k : ItK) (es : List E) (x : Expr) (h0 : itGl V.K k es = true) (h : oks es V (itArgs k x) = true) {Kc : List D → (St → Prop) → St → Prop} {X : Str → St → Prop} {σ : St} {s : Shared} (I : Inv c F σ s) (w : wI c n true k es Kc X σ) :
    wpAny (model c.prog c.w) F.A (eval (likeIt k (likes es V (itArgs k x)) x) env) (fun v s₁ => wpAny (model c.prog c.w) F.A (pyIter v) (PostI c F s.heap Kc) (Exc c F s.heap X) s₁) (Exc c F s.heap X) s := by
  cases k with
  | plain =>
    match es, h0, h, w with
    | [], h0, h, w => exact (Bool.false_ne_true h0).elim
    | _ :: _ :: _, h0, h, w => exact (Bool.false_ne_true h0).elim
    | [e], h0, h, w =>
      refine wpAny_mono (sE e x (and2 h).1 R I w) (fun v s₁ p₁ => ?_) fun _ _ y => y
      obtain ⟨d, σ₁, g₁, I₁, r₁, w₁⟩ := p₁
      exact s_items I₁ (R.FO.handled rfl) g₁ r₁ w₁
  | range =>
    show wpAny _ _ (eval (.Call (.Name rangeS (kid x 0).pos) (likes es V (kids x).tail) [] x.pos) env) _ _ s
    rw [eval_Call_Name]
    refine wpAny_bind (load_builtin R.CO R.O I h0 (R.CO.free "range" (by decide)) PyProof.Rows.Boot.«range» ?_)
    have := sEs x.pos es (kids x).tail h R I w
    rw [backTo_plain] at this ⊢
    refine PyProof.Rows.callWith_type (any_plain _ env) (evalArgs_any (any_plain _ env) (wpAny_mono this (fun vs s₁ p₁ => ?_) fun _ _ y => y))
    obtain ⟨ds, σ₁, g₁, I₁, r₁, hs, items, hi, hK⟩ := p₁
    exact s_range I₁ R.FO R.CO g₁ r₁ hs hi hK
  | zip =>
    show wpAny _ _ (eval (.Call (.Name zipS (kid x 0).pos) (likes es V (kids x).tail) [] x.pos) env) _ _ s
    rw [eval_Call_Name]
    refine wpAny_bind (load_builtin R.CO R.O I h0 (R.CO.free "zip" (by decide)) PyProof.Rows.Boot.«zip» ?_)
    have := sEs x.pos es (kids x).tail h R I w
    rw [backTo_plain] at this ⊢
    refine PyProof.Rows.callWith_type (any_plain _ env) (evalArgs_any (any_plain _ env) (wpAny_mono this (fun vs s₁ p₁ => ?_) fun _ _ y => y))
    obtain ⟨ds, σ₁, g₁, I₁, r₁, w₁⟩ := p₁
    exact (show False from w₁).elim

section
variable {c : Cx} {env : Env} {V : Vw} {n : Nat}
theorem okVs_all {is : List Nat} (h : okVs V is = true) : ∀ i ∈ is, V.ns i = some (V.nL i) := fun i hi => beq_iff_eq.mp (List.all_eq_true.mp h i hi)
theorem zip_map_ns {is : List Nat} (h : ∀ i ∈ is, V.ns i = some (V.nL i)) : ∀ p ∈ is.zip (is.map V.nL), V.ns p.1 = some p.2 := fun p hp => by
  rw [List.zip_map_right] at hp
  obtain ⟨p', h1, rfl⟩ := List.mem_map.mp hp
  have e : p'.1 = p'.2 := zip_self is p' h1
  show V.ns p'.1 = some (V.nL p'.2)
  rw [← e]
  exact h _ (List.of_mem_zip h1).1

mutual
theorem sS (RO : RzOK c) : ∀ (st : S) (x : Stmt), okS st V x = true → ∀ {F : Fm} {q : Bool}, Run c F env V n q → FmW F → env = F.fenv → ∀ {Q : Fl → St → Prop} {X : Str → St → Prop} {σ : St} {s : Shared}, Inv c F σ s → wS c n q st Q X σ →
    wpAny (model c.prog c.w) F.A (exec (likeS st V x) env) (PostS c F s.heap Q) (Exc c F s.heap X) s
  | .expr e, x, h, F, q, R, Wr, henv, Q, X, σ, s, I, w => by
    refine wpAny_Expr_any (wpAny_mono (sE e (sx x 0) (and2 h).1 R I w) (fun v s₁ p₁ => ?_) fun _ _ y => y) (by unfold interactive; rw [R.O.kind]; rfl) (notC_swaps (and2 h).2)
    obtain ⟨d, σ₁, g₁, I₁, r₁, w₁⟩ := p₁
    exact ⟨.next, σ₁, g₁, I₁, trivial, w₁⟩
  | .assign i e, x, h, F, q, R, Wr, henv, Q, X, σ, s, I, w => by
    obtain ⟨h, h3⟩ := and2 h
    obtain ⟨h1, h2⟩ := and2 h
    refine wpAny_Assign_Name (wpAny_mono (sE e (sx x 0) h2 R I w) (fun v s₁ p₁ => ?_) fun _ _ y => y) (notC_swaps h3)
    obtain ⟨d, σ₁, g₁, I₁, r₁, w₁⟩ := p₁
    exact store_var I₁ R.FO Wr R.O (beq_iff_eq.mp h1) r₁ fun s₂ _ g₂ I₂ => ⟨.next, _, g₁.trans g₂, I₂, trivial, w₁⟩
  | .unpack is e, x, h, F, q, R, Wr, henv, Q, X, σ, s, I, w => by
    obtain ⟨h, h4⟩ := and2 h
    obtain ⟨h, h3⟩ := and2 h
    obtain ⟨h1, h2⟩ := and2 h
    obtain ⟨hq, w⟩ := w
    subst hq
    refine PyProof.Rows.Assign_Tuple (wpAny_mono (sE e (sx x 0) h2 R I w) (fun v s₁ p₁ => ?_) fun _ _ y => y) (sole_swaps h3) (notTup_swapped h4)
    obtain ⟨d, σ₁, g₁, I₁, r₁, ds, rfl, hl, w₁⟩ := p₁
    exact s_assignT R.FO Wr R.O (okVs_all h1) hl r₁ I₁ fun s₂ _ g₂ I₂ => ⟨.next, _, g₁.trans g₂, I₂, trivial, w₁⟩
  | .swap is es, x, h, F, q, R, Wr, henv, Q, X, σ, s, I, w => by
    obtain ⟨h, h3⟩ := and2 h
    obtain ⟨h, h4⟩ := and2 h
    obtain ⟨h1, h2⟩ := and2 h
    obtain ⟨hq, w⟩ := w
    subst hq
    refine PyProof.Rows.Assign_Tuple_swapped (names := namesOf (namesX (is.map V.nL) (kids (sx x 1)))) (wpAny_mono (sE (.tup es) (sx x 0) h2 R I w) (fun v s₁ p₁ => ?_) fun _ _ y => y) rfl (swapped_eq R.O.kind R.O.kinds h3)
    rw [names_namesX]
    obtain ⟨d, σ₁, g₁, I₁, r₁, ds, rfl, hdl, w₁⟩ := p₁
    obtain ⟨a, m, us, rfl, hat, rs⟩ := rep_tup r₁
    have hln := rs.length
    have hnm : (is.map V.nL).length = us.toArray.size := by
      rw [List.length_map, ← hdl, ← hln]; rfl
    rw [hnm]
    refine wpAny_unpackItems_tuple (R.FO.handled rfl) (IsT.tuple hat) fun h' he => ?_
    have kk : ∀ b o, s₁.heap.get? b = some o → h'.get? b = some o := fun b o e => he b o (Nat.ne_of_lt (Heap.lt_size e)) e
    refine s_stores R.FO Wr R.O is.reverse (is.map V.nL).reverse ds.reverse _ σ₁ { s₁ with heap := h' } _ (by simp [hdl]) (fun p hp => ?_) (by simp) (rs.reverse.grow (grow_of_keeps kk)) (I₁.keeps (t := s₁.toks) kk) fun s₂ hs₂ g₂ I₂ => ?_
    · exact zip_map_ns (okVs_all h1) p (zip_rev is (is.map V.nL) (by simp) p hp)
    · rw [setAll_rev is ds σ₁ hdl.symm h4] at I₂
      exact ⟨.next, _, (g₁.trans (grow_of_keeps kk)).trans g₂, I₂, trivial, w₁⟩
  | .setitem o i e, x, h, F, q, R, Wr, henv, Q, X, σ, s, I, w => by
    obtain ⟨h, h4⟩ := and2 h
    obtain ⟨h, h3⟩ := and2 h
    obtain ⟨h1, h2⟩ := and2 h
    refine wpAny_Assign_Subscript (wpAny_mono (sE e (sx x 0) h3 R I w) (fun v s₁ p₁ => ?_) fun _ _ y => y) (notC_swaps h4)
    obtain ⟨d, σ₁, g₁, I₁, r₁, w₁⟩ := p₁
    refine wpAny_mono (sE o _ h1 R I₁ w₁) (fun v₂ s₂ p₂ => ?_) fun _ _ y => y.grow g₁
    obtain ⟨d₂, σ₂, g₂, I₂, r₂, w₂⟩ := p₂
    refine wpAny_mono (sE i _ h2 R I₂ w₂) (fun v₃ s₃ p₃ => ?_) fun _ _ y => y.grow (g₁.trans g₂)
    obtain ⟨d₃, σ₃, g₃, I₃, r₃, w₃⟩ := p₃
    refine wpAny_mono (s_set (E := Exc c F s.heap X) I₃ R.FO (r₂.grow g₃) r₃ (r₁.grow (g₂.trans g₃)) w₃) (fun _ s₄ p₄ => ?_) fun _ _ y => y
    obtain ⟨σ₄, g₄, I₄, w₄⟩ := p₄
    exact ⟨.next, σ₄, ((g₁.trans g₂).trans g₃).trans g₄, I₄, trivial, w₄⟩
  | .ifs t a b, x, h, F, q, R, Wr, henv, Q, X, σ, s, I, w => by
    obtain ⟨h, h3⟩ := and2 h
    obtain ⟨h1, h2⟩ := and2 h
    refine wpAny_If (wpAny_mono (sT R t (sx x 0) h1 I w) (fun r s₁ p₁ => ?_) fun _ _ y => y)
    obtain ⟨σ₁, g₁, I₁, w₁⟩ := p₁
    cases r with
    | true =>
      rw [if_pos rfl] at w₁ ⊢
      exact wpAny_mono (sSs RO a _ h2 R Wr henv I₁ w₁) (fun _ _ y => y.grow g₁) fun _ _ y => y.grow g₁
    | false =>
      rw [if_neg Bool.false_ne_true] at w₁ ⊢
      exact wpAny_mono (sSs RO b _ h3 R Wr henv I₁ w₁) (fun _ _ y => y.grow g₁) fun _ _ y => y.grow g₁
  | .whiles t b, x, h, F, q, R, Wr, henv, Q, X, σ, s, I, w => by
    obtain ⟨h1, h2⟩ := and2 h
    obtain ⟨J, m, hJ, step⟩ := w
    refine wpAny_While (codeAny_whileLoop (fun k s₁ => ∃ σ', Inv c F σ' s₁ ∧ Grow s.heap s₁.heap ∧ J σ' ∧ m σ' = k) (fun k s₁ hI => ?_) (m σ) ⟨σ, I, Grow.refl _, hJ, rfl⟩)
    obtain ⟨σ', I₁, g₁, j₁, rfl⟩ := hI
    refine wpAny_mono (sT R t (sx x 0) h1 I₁ (step σ' j₁)) (fun r s₂ p₂ => ?_) fun _ _ y => (exc_noX y).elim
    obtain ⟨σ₂, g₂, I₂, w₂⟩ := p₂
    cases r with
    | true =>
      rw [if_pos rfl] at w₂ ⊢
      refine wpAny_mono (sSs RO b _ h2 R Wr henv I₂ w₂) (fun f s₃ p₃ => ?_) fun _ _ y => (exc_noX y).elim
      obtain ⟨fl, σ₃, g₃, I₃, rf, w₃⟩ := p₃
      cases f with
      | next =>
        cases fl <;> first | exact rf.elim | skip
        exact ⟨_, w₃.2, σ₃, I₃, (g₁.trans g₂).trans g₃, w₃.1, rfl⟩
      | cont =>
        cases fl <;> first | exact rf.elim | skip
        exact ⟨_, w₃.2, σ₃, I₃, (g₁.trans g₂).trans g₃, w₃.1, rfl⟩
      | brk =>
        cases fl <;> first | exact rf.elim | skip
        exact ⟨.next, σ₃, (g₁.trans g₂).trans g₃, I₃, trivial, w₃⟩
      | ret v =>
        cases fl <;> first | exact rf.elim | skip
        exact ⟨.ret _, σ₃, (g₁.trans g₂).trans g₃, I₃, rf, w₃⟩
    | false =>
      rw [if_neg Bool.false_ne_true] at w₂ ⊢
      exact wpAny_execs_nil ⟨.next, σ₂, g₁.trans g₂, I₂, trivial, w₂⟩
  | .fors is one k es b, x, h, F, q, R, Wr, henv, Q, X, σ, s, I, w => by
    obtain ⟨h, h4⟩ := and2 h
    obtain ⟨h, h3⟩ := and2 h
    obtain ⟨h1, h2⟩ := and2 h
    obtain ⟨hq, w⟩ := w
    subst hq
    refine wpAny_For (wpAny_mono (sI R k es (sx x 0) h2 h3 I w) (fun v s₁ p₁ => wpAny_mono p₁ (fun itv s₂ p₂ => ?_) fun _ _ y => y) fun _ _ y => y) (likeIt_folded h2)
    obtain ⟨items, g, σ₂, wr, At, sb, g₂, I₂, hs₂, kb, fr, W, hat, w₂⟩ := p₂
    obtain ⟨h', t', rfl⟩ := hs₂
    refine s_for R W (fun b hb o e st => by have := g₂ b o e st; rw [fr b hb] at this; cases this) (fun d v' σ' s' Kk I' r' w' => ?_) (fun f s' ps => ps) (I₂.keeps (t := t') kb) (g₂.trans (grow_of_keeps kb)) hat w₂
    exact s_bind R.FO Wr R.O (okVs_all h1) r' I' w' fun s₃ ds _ g₃ I₃ w₃ => wpAny_mono (sSs RO b _ h4 R Wr henv I₃ w₃) (fun _ _ y => y.grow g₃) fun _ _ y => y.grow g₃
  | .ret e, x, h, F, q, R, Wr, henv, Q, X, σ, s, I, w => by
    refine wpAny_Return_some (wpAny_mono (sE e (sx x 0) h R I w) (fun v s₁ p₁ => ?_) fun _ _ y => y)
    obtain ⟨d, σ₁, g₁, I₁, r₁, w₁⟩ := p₁
    exact ⟨.ret d, σ₁, g₁, I₁, r₁, w₁⟩
  | .raise k m, x, h, F, q, R, Wr, henv, Q, X, σ, s, I, w => by
    obtain ⟨hq, ⟨C, hC⟩, w⟩ := w
    subst hq
    exact s_raise R RO I h hC w
  | .tryx b k none hd, x, h, F, q, R, Wr, henv, Q, X, σ, s, I, w => by
    obtain ⟨h, h4⟩ := and2 h
    obtain ⟨h, h3⟩ := and2 h
    obtain ⟨h1, h2⟩ := and2 h
    obtain ⟨hq, ⟨Ck, hCk⟩, w⟩ := w
    subst hq
    refine wpAny_Try_except (wpAny_mono (sSs RO b _ h1 R Wr henv I w) (fun f s₁ p₁ => ?_) fun e s₁ y => ?_)
    · obtain ⟨fl, σ₁, g₁, I₁, rf, w₁⟩ := p₁
      cases f <;> cases fl <;> first | exact rf.elim | exact wpAny_execs_nil ⟨.next, σ₁, g₁, I₁, trivial, w₁⟩ | exact ⟨_, σ₁, g₁, I₁, rf, w₁⟩
    · obtain ⟨ea, nm, C, σ', sc, rfl, hC, g, I', hs, hB, hk, up, hsub, w'⟩ := y
      cases hd with
      | nil => exact (Bool.false_ne_true h4).elim
      | cons s₀ hd => exact s_suite R RO henv g I' hs hk up hC hCk h2 hsub fun s₂ I₂ => sSs RO (s₀ :: hd) _ h3 (R.marked ea) (Wr.marked ea) henv I₂ w'
  | .tryx b k (some i) hd, x, h, F, q, R, Wr, henv, Q, X, σ, s, I, w => by
    obtain ⟨h, h6⟩ := and2 h
    obtain ⟨h, h5⟩ := and2 h
    obtain ⟨h, h4⟩ := and2 h
    obtain ⟨h, h3⟩ := and2 h
    obtain ⟨h1, h2⟩ := and2 h
    obtain ⟨hq, ⟨Ck, hCk⟩, w⟩ := w
    subst hq
    refine wpAny_Try_except (wpAny_mono (sSs RO b _ h1 R Wr henv I w) (fun f s₁ p₁ => ?_) fun e s₁ y => ?_)
    · obtain ⟨fl, σ₁, g₁, I₁, rf, w₁⟩ := p₁
      cases f <;> cases fl <;> first | exact rf.elim | exact wpAny_execs_nil ⟨.next, σ₁, g₁, I₁, trivial, w₁⟩ | exact ⟨_, σ₁, g₁, I₁, rf, w₁⟩
    · obtain ⟨ea, nm, C, σ', sc, rfl, hC, g, I', hs, hB, hk, up, hsub, w'⟩ := y
      cases hd with
      | nil => exact (Bool.false_ne_true h4).elim
      | cons s₀ hd => exact s_suiteAs R Wr RO henv g I' hs hk up hC hCk h2 hsub (beq_iff_eq.mp h5) (beq_iff_eq.mp h6) fun s₂ I₂ => sSs RO (s₀ :: hd) _ h3 (R.marked ea) (Wr.marked ea) henv I₂ (w' ea C hC)
  | .pass, x, h, F, q, R, Wr, henv, Q, X, σ, s, I, w => by
    exact wpAny_Pass ⟨.next, σ, Grow.refl _, I, trivial, w⟩
  | .any, x, h, F, q, R, Wr, henv, Q, X, σ, s, I, w => (show False from w).elim
theorem sSs (RO : RzOK c) : ∀ (ss : List S) (xs : List Stmt), okSs ss V xs = true → ∀ {F : Fm} {q : Bool}, Run c F env V n q → FmW F → env = F.fenv → ∀ {Q : Fl → St → Prop} {X : Str → St → Prop} {σ : St} {s : Shared}, Inv c F σ s → wSs c n q ss Q X σ →
    wpAny (model c.prog c.w) F.A (execs (likeSs ss V xs) env) (PostS c F s.heap Q) (Exc c F s.heap X) s
  | [], xs, h, F, q, R, Wr, henv, Q, X, σ, s, I, w => wpAny_execs_nil ⟨.next, σ, Grow.refl _, I, trivial, w⟩
  | st :: ss, xs, h, F, q, R, Wr, henv, Q, X, σ, s, I, w => by
    refine wpAny_execs_cons (wpAny_mono (sS RO st _ (and2 h).1 R Wr henv I w) (fun f s₁ p₁ => ?_) fun _ _ y => y)
    obtain ⟨fl, σ₁, g₁, I₁, rf, w₁⟩ := p₁
    cases f with
    | next =>
      cases fl <;> first | exact rf.elim | skip
      exact wpAny_mono (sSs RO ss _ (and2 h).2 R Wr henv I₁ w₁) (fun _ _ y => y.grow g₁) fun _ _ y => y.grow g₁
    | cont => cases fl <;> first | exact rf.elim | exact ⟨_, σ₁, g₁, I₁, rf, w₁⟩
    | brk => cases fl <;> first | exact rf.elim | exact ⟨_, σ₁, g₁, I₁, rf, w₁⟩
    | ret v => cases fl <;> first | exact rf.elim | exact ⟨_, σ₁, g₁, I₁, rf, w₁⟩
end
end
end Mine

/-! ## M23 -/
namespace Mine
open PySem PySem.SeqAt

def nodupS : List Str → Bool
  | [] => true
  | x :: xs => !(xs.contains x) && nodupS xs
/-- how a def's names are read -/
def vwOf (names : List (Str × NameKind)) (vars : List Str) : Vw := ⟨fun x => names.lookup x, fun i => vars[i]?, fun i => (vars[i]?).getD emptyS, fun i => (vars[i]?).isSome⟩
def fnChk (names : List (Str × NameKind)) (ps vars : List Str) (ss : List S) (body : List Stmt) : Bool :=
  (vars.take ps.length == ps) && nodupS vars && vars.all (fun x => names.lookup x == some .local || names.lookup x == some .cell) && okSs ss (vwOf names vars) body

/-- a def of the text, and what it says -/
def FnIs (c : Cx) (f : Str) (ps vars : List Str) (ss : List S) : Prop := ∃ a o fd body, c.mg f = some (.ref a) ∧ c.B.get? a = some o ∧ o.data = .func fd ∧ c.B.CodeRec fd.code fd.qualname ∧ fd.body = .stmts body ∧
  (∀ vs : List Value, vs.length = ps.length → bindArgs fd ⟨vs, []⟩ = pure (ps.zip vs)) ∧ fd.closure = [] ∧ fd.scope.isCoroutine = false ∧ fd.scope.isGenerator = false ∧ fd.scope.kind = .function ∧ fd.globals = mainGlobals ∧ fd.builtins = builtinsNs ∧ fnChk fd.scope.names ps vars ss body = true ∧ likeSs ss (vwOf fd.scope.names vars) body = body

/-- the store that the caller sees -/
def Ret (sto τ : Sto) (Q : D → Sto → Prop) (d : D) : Prop := ∃ sto' : Sto, (∀ b k, sto' b = some k → sto b = some k ∨ (τ b = some k ∧ ∃ xs, k = .list true xs)) ∧ ((∀ b xs, τ b = some (.list true xs) → sto b = none) → Q d sto')
def EndQ (sto : Sto) (Q : D → Sto → Prop) : Fl → St → Prop := fun fl σ => match fl with
  | .next => Ret sto σ.sto Q .none
  | .ret d => Ret sto σ.sto Q d
  | _ => False
theorem ret_plain {sto τ : Sto} {Q : D → Sto → Prop} {d : D} (h : Q d sto) : Ret sto τ Q d := ⟨sto, fun b k e => .inl e, fun _ => h⟩
theorem ret_list {sto τ : Sto} {Q : D → Sto → Prop} {l : Addr} {xs : List D} (e : τ l = some (.list true xs)) (h : sto l = none → Q (.lst l) (Sto.put sto l (.list true xs))) : Ret sto τ Q (.lst l) := by
  refine ⟨Sto.put sto l (.list true xs), fun b k e' => ?_, fun f => h (f l xs e)⟩
  unfold Sto.put at e'
  split at e'
  · rename_i hb
    subst hb
    exact .inr ⟨by rw [e]; exact e', xs, (Option.some.inj e').symm⟩
  · exact .inl e'
/-- the state that a callee starts from -/
def startSt (ds : List D) (sto : Sto) : St := ⟨fun i => ds[i]?, Sto.ro sto⟩

theorem nodupS_get {xs : List Str} (h : nodupS xs = true) : ∀ {i j : Nat} {x : Str}, xs[i]? = some x → xs[j]? = some x → i = j := by
  induction xs with
  | nil => intro i j x e; simp at e
  | cons y ys ih =>
    simp only [nodupS, Bool.and_eq_true, Bool.not_eq_true', List.contains_eq_mem, decide_eq_false_iff_not] at h
    intro i j x e e'
    cases i with
    | zero =>
      cases j with
      | zero => rfl
      | succ j => simp at e e'; subst e; exact absurd (List.mem_of_getElem? e') h.1
    | succ i =>
      cases j with
      | zero => simp at e e'; subst e'; exact absurd (List.mem_of_getElem? e) h.1
      | succ j => simp at e e'; rw [ih h.2 e e']

theorem bindL_off {k : Str → Option NameKind} {x : Str} : ∀ (bs : List (Str × Value)) (m : Str → Option Value), (∀ b ∈ bs, b.1 ≠ x) → bindL k bs m x = m x
  | [], m, _ => rfl
  | (n, v) :: r, m, h => by
    unfold bindL
    rw [bindL_off r _ fun b hb => h b (.tail _ hb)]
    have := h (n, v) (.head _)
    split
    · exact if_neg fun z => this z.symm
    · rfl
theorem bindC_off {k : Str → Option NameKind} {x : Str} : ∀ (bs : List (Str × Value)) (m : Str → Option Value), (∀ b ∈ bs, b.1 ≠ x) → bindC k bs m x = m x
  | [], m, _ => rfl
  | (n, v) :: r, m, h => by
    unfold bindC
    rw [bindC_off r _ fun b hb => h b (.tail _ hb)]
    have := h (n, v) (.head _)
    split
    · rfl
    · exact if_neg fun z => this z.symm
theorem zip_ne {x : Str} {ps : List Str} {vs : List Value} (h : x ∉ ps) : ∀ b ∈ ps.zip vs, b.1 ≠ x := fun b hb z => h (z ▸ (List.of_mem_zip hb).1)
theorem bindL_at {k : Str → Option NameKind} {x : Str} (hk : k x = some .local) : ∀ (ps : List Str) (vs : List Value) (m : Str → Option Value) (i : Nat) (v : Value), nodupS ps = true → ps[i]? = some x → vs[i]? = some v → bindL k (ps.zip vs) m x = some v
  | [], vs, m, i, v, _, e, _ => by simp at e
  | p :: ps, [], m, i, v, _, _, e => by simp at e
  | p :: ps, w :: vs, m, 0, v, hn, e, e' => by
    simp only [nodupS, Bool.and_eq_true, Bool.not_eq_true', List.contains_eq_mem, decide_eq_false_iff_not] at hn
    simp at e e'; subst e; subst e'
    show bindL k (ps.zip vs) _ p = _
    rw [bindL_off _ _ (zip_ne hn.1), if_pos hk]
    simp
  | p :: ps, w :: vs, m, i + 1, v, hn, e, e' => by
    simp only [nodupS, Bool.and_eq_true] at hn
    exact bindL_at hk ps vs _ i v hn.2 (by simpa using e) (by simpa using e')
theorem bindC_at {k : Str → Option NameKind} {x : Str} (hk : k x = some .cell) : ∀ (ps : List Str) (vs : List Value) (m : Str → Option Value) (i : Nat) (v : Value), nodupS ps = true → ps[i]? = some x → vs[i]? = some v → bindC k (ps.zip vs) m x = some v
  | [], vs, m, i, v, _, e, _ => by simp at e
  | p :: ps, [], m, i, v, _, _, e => by simp at e
  | p :: ps, w :: vs, m, 0, v, hn, e, e' => by
    simp only [nodupS, Bool.and_eq_true, Bool.not_eq_true', List.contains_eq_mem, decide_eq_false_iff_not] at hn
    simp at e e'; subst e; subst e'
    show bindC k (ps.zip vs) _ p = _
    rw [bindC_off _ _ (zip_ne hn.1), if_neg (by rw [hk]; decide)]
    simp
  | p :: ps, w :: vs, m, i + 1, v, hn, e, e' => by
    simp only [nodupS, Bool.and_eq_true] at hn
    exact bindC_at hk ps vs _ i v hn.2 (by simpa using e) (by simpa using e')
theorem nodupS_take {k : Nat} : ∀ {xs : List Str}, nodupS xs = true → nodupS (xs.take k) = true := by
  induction k with
  | zero => intro xs _; simp [nodupS]
  | succ k ih =>
    intro xs h
    cases xs with
    | nil => exact h
    | cons y ys =>
      simp only [nodupS, List.take_succ_cons, Bool.and_eq_true, Bool.not_eq_true', List.contains_eq_mem, decide_eq_false_iff_not] at h ⊢
      exact ⟨fun m => h.1 (List.mem_of_mem_take m), ih h.2⟩

theorem cellsFrom_has {x : Str} : ∀ (names : List (Str × NameKind)) (n : Nat) (acc : List (Str × Addr)), (names.lookup x = some .cell ∨ (acc.lookup x).isSome = true) → ((cellsFrom n names acc).lookup x).isSome = true
  | [], n, acc, h => by rcases h with h | h; · simp at h
                        exact h
  | (y, k) :: r, n, acc, h => by
    unfold cellsFrom
    rcases h with h | h
    · rw [List.lookup_cons] at h
      cases hb : x == y with
      | true =>
        rw [hb] at h
        simp only [Option.some.injEq] at h
        subst h
        rw [if_pos (by decide)]
        exact cellsFrom_has r _ _ (.inr (by rw [List.lookup_cons, hb]; rfl))
      | false =>
        rw [hb] at h
        split
        · exact cellsFrom_has r _ _ (.inl h)
        · exact cellsFrom_has r _ _ (.inl h)
    · split
      · refine cellsFrom_has r _ _ (.inr ?_)
        rw [List.lookup_cons]
        split
        · rfl
        · exact h
      · exact cellsFrom_has r _ _ (.inr h)

/-- where the variables lie -/
def locOf (K : Str → Option NameKind) (cells : List (Str × Addr)) (L : Addr) (vars : List Str) (i : Nat) : Option Loc :=
  match vars[i]? with
  | none => none
  | some x => if K x == some .local then some (.ns L x) else if K x == some .cell then (cells.lookup x).map Loc.cell else none

theorem locOf_some {K : Str → Option NameKind} {cells : List (Str × Addr)} {L : Addr} {vars : List Str} {i : Nat} {l : Loc} (h : locOf K cells L vars i = some l) :
    ∃ x, vars[i]? = some x ∧ ((K x = some .local ∧ l = .ns L x) ∨ (K x = some .cell ∧ ∃ a, cells.lookup x = some a ∧ l = .cell a)) := by
  unfold locOf at h
  split at h
  · cases h
  · rename_i x hx
    refine ⟨x, hx, ?_⟩
    split at h
    · rename_i hk; cases h; exact .inl ⟨by simpa using hk, rfl⟩
    · split at h
      · rename_i hk
        obtain ⟨a, ha, rfl⟩ := Option.map_eq_some_iff.mp h
        exact .inr ⟨by simpa using hk, a, ha, rfl⟩
      · cases h

section
variable {c : Cx} {n : Nat}

theorem CallAt.mono {m : Nat} {a : Addr} {ds : List D} {sto : Sto} {Q : D → Sto → Prop} {X : Str → Prop} (h : CallAt c n a ds sto Q X) (hm : n ≤ m) : CallAt c m a ds sto Q X := fun A l s vs h1 h2 h3 h4 => h A l s vs h1 h2 (by omega) (by omega)
theorem CallOK.mono {m : Nat} {f : Str} {ds : List D} {sto : Sto} {Q : D → Sto → Prop} {X : Str → Prop} (h : CallOK c n f ds sto Q X) (hm : n ≤ m) : CallOK c m f ds sto Q X := by
  obtain ⟨a, o, fd, h1, h2, h3, h4⟩ := h
  exact ⟨a, o, fd, h1, h2, h3, h4.mono hm⟩

theorem FnIs.isFn {f : Str} {ps vars : List Str} {ss : List S} (h : FnIs c f ps vars ss) : IsFn c f := by
  obtain ⟨a, o, fd, body, h1, h2, h3, _⟩ := h
  exact ⟨a, o, fd, h1, h2, h3⟩

/-- a def, called: what its body must meet -/
theorem fn_call (CO : CxOK c) (EO : ExcOK c) (RO : RzOK c) {f : Str} {ps vars : List Str} {ss : List S} (hf : FnIs c f ps vars ss) {ds : List D} {sto : Sto} {Q : D → Sto → Prop} {X : Str → Prop} (hl : ds.length = ps.length)
    (w : wSs c n true ss (EndQ sto Q) (fun k _ => X k) (startSt ds sto)) : CallOK c (n + 1) f ds sto Q X := by
  obtain ⟨a, o, fd, body, h1, h2, h3, hcd, hbody, hbind, hclo, hco, hgen, hkf, hgl, hbu, hchk, hlike⟩ := hf
  refine ⟨a, o, fd, h1, h2, h3, fun A l s vs hfr hh hdep hun hB hfs rs hst => ?_⟩
  have hlen := rs.length
  unfold fnChk at hchk
  simp only [Bool.and_eq_true, beq_iff_eq] at hchk
  obtain ⟨⟨⟨hps, hnd⟩, hall⟩, hbdy⟩ := hchk
  have hlv : vs.length = ps.length := by rw [hlen, hl]
  have kinds : ∀ i x, vars[i]? = some x → fd.scope.names.lookup x = some .local ∨ fd.scope.names.lookup x = some .cell := fun i x e => by
    have := List.all_eq_true.mp hall x (List.mem_of_getElem? e)
    simpa using this
  have psv : ∀ i x, ps[i]? = some x → vars[i]? = some x := fun i x e => by
    have hi : i < ps.length := (List.getElem?_eq_some_iff.mp e).1
    rw [← hps, List.getElem?_take_of_lt hi] at e
    exact e
  have hndp : nodupS ps = true := by rw [← hps]; exact nodupS_take hnd
  have hkind : ∀ x ∈ ps.zip vs, fd.scope.names.lookup x.1 = some .local ∨ (fd.scope.names.lookup x.1 = some .cell ∧ ((cellsFrom (s.heap.objs.size + 1) fd.scope.names []).lookup x.1).isSome = true) := fun x hx => by
    obtain ⟨i, hi⟩ := List.getElem?_of_mem (List.of_mem_zip hx).1
    rcases kinds i x.1 (psv i x.1 hi) with k | k
    · exact .inl k
    · exact .inr ⟨k, cellsFrom_has _ _ _ (.inl k)⟩
  refine codeAny_call_cells (by show A.depth < 1000; omega) (hB _ _ h2) h3 (CO.lim.keeps hB) (hcd.keeps hB) hbody (hbind vs hlv) hclo hkind (fun s₁ C => ?_) hco hgen hkf
  let env' := callEnvC fd s.heap.objs.size a
  have eL : env'.locals = s.heap.objs.size := rfl
  have eK : ∀ x, env'.kindOf x = fd.scope.names.lookup x := fun x => rfl
  obtain ⟨hsame, hns, hkeep, hfresh⟩ := C.toInCall
  let F : Fm := ⟨A.deeper env', env', l, s.heap, s, locOf (fun x => fd.scope.names.lookup x) env'.cells s.heap.objs.size vars, fsOf l⟩
  have above : ∀ x a', env'.cells.lookup x = some a' → s.heap.get? a' = none := fun x a' e => by
    have := C.above x a' (mem_of_lookup e)
    cases z : s.heap.get? a' with
    | none => rfl
    | some o' => exact absurd (Heap.lt_size z) (Nat.lt_asymm (show s.heap.objs.size < a' from this))
  have nB : ∀ a', s.heap.get? a' = none → c.B.get? a' = none := fun a' e => by
    cases z : c.B.get? a' with
    | none => rfl
    | some o' => have := hB _ _ z; rw [e] at this; cases this
  have FO : FmOK c n true F := {
    frames := Around.frames_deeper hfr
    handled := fun _ => hh
    depth := by show A.depth + 1 + n < 800; omega
    units := by show A.units + 3 + 4 * n < 9000; omega
    globals := hgl
    builtins := hbu
    gen := hgen
    co := hco
    bh := hB
    back := fun b o e m => by
      rcases List.mem_filterMap.mp m with ⟨ev, he, hf⟩
      rcases List.mem_cons.mp he with rfl | he
      · have hf : some s.heap.objs.size = some b := hf
        cases hf
        rw [show F.hE.get? s.heap.objs.size = none from none_at_size _] at e; cases e
      · exact List.mem_filterMap.mpr ⟨ev, he, hf⟩
    tab := ⟨s.heap.objs.size, rfl⟩ }
  have Wr : FmW F := {
    fresh := fun i lc e => by
      obtain ⟨x, hx, ⟨_, rfl⟩ | ⟨_, a', ha', rfl⟩⟩ := locOf_some e
      · exact none_at_size _
      · exact above x a' ha'
    apart := fun i j lc e e' => by
      obtain ⟨x, hx, ⟨k1, z⟩ | ⟨k1, a', ha', z⟩⟩ := locOf_some e
      · obtain ⟨y, hy, ⟨k2, z'⟩ | ⟨k2, a'', ha'', z'⟩⟩ := locOf_some e'
        · rw [z] at z'; cases z'
          exact nodupS_get hnd hx hy
        · rw [z] at z'; cases z'
      · obtain ⟨y, hy, ⟨k2, z'⟩ | ⟨k2, a'', ha'', z'⟩⟩ := locOf_some e'
        · rw [z] at z'; cases z'
        · rw [z] at z'; cases z'
          have := name_of_addr C.apart (mem_of_lookup ha') (mem_of_lookup ha'')
          subst this
          exact nodupS_get hnd hx hy }
  have O : EnvOK F env' (fun x => fd.scope.names.lookup x) (fun i => vars[i]?) := {
    kind := hkf
    globals := hgl
    builtins := hbu
    kinds := eK
    res := fun i x hx => by
      rcases kinds i x hx with k | k
      · refine .inl ⟨k, ?_⟩
        show locOf _ _ _ _ _ = _
        unfold locOf
        simp [hx, k, eL]
      · obtain ⟨a', ha'⟩ := Option.isSome_iff_exists.mp (cellsFrom_has fd.scope.names (s.heap.objs.size + 1) [] (.inl k))
        refine .inr ⟨k, a', ha', ?_⟩
        show locOf _ _ _ _ _ = _
        unfold locOf
        have ha'' : env'.cells.lookup x = some a' := ha'
        simp [hx, k, ha'']
    cells := fun x hx => Option.isSome_iff_exists.mp (cellsFrom_has fd.scope.names (s.heap.objs.size + 1) [] (.inl hx)) }
  have I : Inv c F (startSt ds sto) s₁ := {
    same := by obtain ⟨h, tk, e⟩ := hsame; exact ⟨h, tk, e⟩
    base := fun b o' e => hkeep b o' (hB b o' e)
    kept := Kept.of_keeps hkeep
    frames := fun ev hm => by
      rcases List.mem_cons.mp hm with rfl | hm
      · exact ⟨hkf, s.heap.objs.size, _, rfl, nB _ (none_at_size _), hns⟩
      · obtain ⟨k1, L, m, k2, k3, k4⟩ := hfs ev hm
        exact ⟨k1, L, m, k2, k3, k4.keeps hkeep⟩
    vars := fun i d e => by
      have e' : ds[i]? = some d := e
      obtain ⟨v, hv, rv⟩ := rs.get e'
      have hi : i < ps.length := by rw [← hl]; exact (List.getElem?_eq_some_iff.mp e').1
      have hp : ps[i]? = some ps[i] := by simp [hi]
      have hx := psv i _ hp
      have rv' : Rep s₁.heap v d := rv.grow (grow_of_keeps hkeep)
      rcases kinds i _ hx with k | k
      · refine ⟨.ns s.heap.objs.size ps[i], v, ?_, ⟨_, hns, bindL_at (k := env'.kindOf) k ps vs _ i v hndp hp hv⟩, rv'⟩
        show locOf _ _ _ _ _ = _
        unfold locOf
        simp [hx, k]
      · obtain ⟨a', ha'⟩ := Option.isSome_iff_exists.mp (cellsFrom_has fd.scope.names (s.heap.objs.size + 1) [] (.inl k))
        have ha'' : env'.cells.lookup ps[i] = some a' := ha'
        refine ⟨.cell a', v, ?_, ?_, rv'⟩
        · show locOf _ _ _ _ _ = _
          unfold locOf
          simp [hx, k, ha'']
        · have := C.cell _ _ ha''
          rw [bindC_at (k := env'.kindOf) k ps vs _ i v hndp hp hv] at this
          exact this
    places := fun i lc e => by
      obtain ⟨x, hx, ⟨_, rfl⟩ | ⟨_, a', ha', rfl⟩⟩ := locOf_some e
      · exact ⟨_, hns⟩
      · exact ⟨_, C.cell _ _ ha'⟩
    sto := fun b k e => by
      have e' : (sto b).map Cell.ro = some k := e
      obtain ⟨k', hk', rfl⟩ := Option.map_eq_some_iff.mp e'
      obtain ⟨hE, p⟩ := hst b k' hk'
      exact (Cell.ro_ok p).nf (fs := []) (Nf.of_keeps hkeep) }
  have R : Run c F env' (vwOf fd.scope.names vars) n true := ⟨CO, EO, FO, O, fun i hi => by
    have hi : (vars[i]?).isSome = false := hi
    show locOf _ _ _ _ _ = _
    unfold locOf
    have hv : vars[i]? = none := by
      cases e : vars[i]? with
      | none => rfl
      | some x => rw [e] at hi; cases hi
    rw [hv]⟩
  have back : ∀ {s' : Shared} {σ' : St} {v : Value} {d : D}, Inv c F σ' s' → Rep s'.heap v d → Ret sto σ'.sto Q d → CallEnd c (l) sto Q X s (.ok (.ret v)) s' := fun {s' σ' v d} I' r' hr => by
    obtain ⟨sto', hs', hq⟩ := hr
    refine ⟨I'.same, I'.base, I'.kept, d, sto', r', fun b k e => ?_, hq fun b xs e => ?_⟩
    · rcases hs' b k e with z | ⟨z, xs, rfl⟩
      · exact .inl z
      · have p := I'.sto b _ z
        obtain ⟨vs', p1, p2, p3⟩ := id p
        exact .inr ⟨(p2 rfl).2, p⟩
    · obtain ⟨vs', p1, p2, p3⟩ := I'.sto b _ e
      have hn : s.heap.get? b = none := (p2 rfl).2
      cases z : sto b with
      | none => rfl
      | some k =>
        obtain ⟨hE, q⟩ := hst b k z
        cases k with
        | list own ys => obtain ⟨_, ⟨o', q1, _⟩, _⟩ := q; rw [hn] at q1; cases q1
        | dict ps => exact q.elim
  have run := sSs RO ss body hbdy R Wr rfl I w
  rw [hlike] at run
  refine wpAny_mono run (fun fl s' p => ?_) fun e s' y => ?_
  · obtain ⟨f', σ', g, I', rf, hq⟩ := p
    cases fl <;> cases f' <;> first | exact rf.elim | exact hq.elim | exact back I' .none hq | exact back I' rf hq
  · obtain ⟨ea, nm, Ce, σ', sc, rfl, hC, g, I', hs, hB', hk, up, hx⟩ := y
    refine up_leave (F := F) FO.frames rfl I'.frames up fun h' B' a0 hBB hfl hu => ?_
    have kk : Kept F.fs1 sc.heap h' := kept_up I'.frames hk hBB hfl.1 hu
    have hs' : SameSh sc { s' with heap := h' } := hs.trans ⟨h', s'.toks, rfl⟩
    have I₂ := I'.after FO (s' := { s' with heap := h' }) kk hs'
    refine ⟨I₂.same, I₂.base, I₂.kept, ea, nm, Ce, a0, rfl, hC, hx, B', fun b o' e m => ?_, hfl⟩
    have m' : b ∉ F.fs1 := fun m' => m (FO.back _ _ e m')
    exact hBB b o' (I'.kept.exact e (.inl m)) m'
end
end Mine

/-! ## M24 -/
namespace Mine
open PySem PySem.SeqAt PySem.W PyProof.Rows

theorem lookup_zip_some : ∀ (ps : List Str) (vs : List Value), nodupS ps = true → vs.length = ps.length → ps.filterMap (fun n => ((ps.zip vs).lookup n).map fun x => (n, x)) = ps.zip vs ∧ ∀ p ∈ ps, ((ps.zip vs).lookup p).isNone = false
  | [], [], _, _ => ⟨rfl, fun p hp => by cases hp⟩
  | [], _ :: _, _, h => by simp at h
  | _ :: _, [], _, h => by simp at h
  | p :: ps, v :: vs, hn, h => by
    simp only [nodupS, Bool.and_eq_true, Bool.not_eq_true', List.contains_eq_mem, decide_eq_false_iff_not] at hn
    obtain ⟨h1, h2⟩ := lookup_zip_some ps vs hn.2 (by simpa using h)
    have step : ∀ n ∈ ps, ((p :: ps).zip (v :: vs)).lookup n = (ps.zip vs).lookup n := fun n hm => by
      rw [List.zip_cons_cons, List.lookup_cons]
      have : (n == p) = false := by
        cases e : n == p with
        | false => rfl
        | true => rw [beq_iff_eq] at e; exact absurd (e ▸ hm) hn.1
      rw [this]
    constructor
    · rw [List.filterMap_cons]
      have e : ((p :: ps).zip (v :: vs)).lookup p = some v := by rw [List.zip_cons_cons, List.lookup_cons, beq_self_eq_true]
      rw [e]
      simp only [Option.map_some, List.zip_cons_cons]
      congr 1
      have cong : ∀ (l : List Str) (f g : Str → Option (Str × Value)), (∀ n ∈ l, f n = g n) → l.filterMap f = l.filterMap g := by
        intro l f g hfg
        induction l with
        | nil => rfl
        | cons a l ih => rw [List.filterMap_cons, List.filterMap_cons, hfg a (.head _), ih fun n hm => hfg n (.tail _ hm)]
      refine (cong ps _ _ fun n hm => ?_).trans h1
      have := step n hm
      rw [List.zip_cons_cons] at this
      rw [this]
    · intro q hq
      rcases List.mem_cons.mp hq with rfl | hq
      · rw [List.zip_cons_cons, List.lookup_cons, beq_self_eq_true]; rfl
      · rw [step q hq]; exact h2 q hq
theorem bind_plain {fd : FuncData} {ps : List Str} (hp : fd.params.posonlyargs = []) (ha : fd.params.args.map (·.arg) = ps) (hv : fd.params.vararg = none) (hk : fd.params.kwonlyargs = []) (hkw : fd.params.kwarg = none) (hd : fd.defaults = .none) (nd : nodupS ps = true) (vs : List Value) (hl : vs.length = ps.length) : bindArgs fd ⟨vs, []⟩ = pure (ps.zip vs) := by
  obtain ⟨h1, h2⟩ := lookup_zip_some ps vs nd hl
  unfold bindArgs
  simp only [hp, ha, hv, hk, hkw, hd, List.map_nil, List.nil_append, List.append_nil, List.forIn_nil]
  have e0 : seqItems? Value.none = pure none := rfl
  rw [e0]
  have hm : List.filter (fun n => ((ps.zip vs).lookup n).isNone) ps = [] := List.filter_eq_nil_iff.mpr fun p hp' => by rw [h2 p hp']; simp
  show (if (decide (vs.length > ps.length) && (none : Option Arg).isNone) = true then _ else _) = _
  rw [if_neg (by simp [hl])]
  have ed : ((none : Option (Array Value)).getD #[]).toList = [] := rfl
  simp only [ed, List.drop_nil, List.length_nil, Nat.sub_zero, List.take_length, hm, List.zip_nil_right, List.forIn_nil]
  rw [if_neg (by decide)]
  show (pure (List.filterMap (fun n => Option.map (fun x => (n, x)) (List.lookup n (ps.zip vs))) ps) : Sem _) = _
  rw [h1]

/-! what the top holds -/
/-- the def of this name -/
def recR (p : Program) (f : Str) : Option DefRec := (recsOf p).find? fun d => d.name == f
def defOK (d : DefRec) (ps vars : List Str) (ss : List S) : Bool :=
  (d.params.posonlyargs.isEmpty && (d.params.args.map (·.arg) == ps) && d.params.vararg.isNone && d.params.kwonlyargs.isEmpty && d.params.kwarg.isNone) &&
    (!d.scope.isCoroutine && !d.scope.isGenerator && d.scope.kind == .function && nodupS ps && fnChk d.scope.names ps vars ss d.body)
def recOK (p : Program) (f : Str) (ps vars : List Str) (ss : List S) : Bool := match recR p f with
  | some d => defOK d ps vars ss
  | none => false
def bodyR (p : Program) (f : Str) : List Stmt := match recR p f with
  | some d => d.body
  | none => []
def namesR (p : Program) (f : Str) : List (Str × NameKind) := match recR p f with
  | some d => d.scope.names
  | none => []
theorem fnIs_top {c : Cx} {p : Program} {loose : List Str} {mean : ExcName → Option Value} {mb : Str → Option Value} (T : Top p loose mean c.mg mb c.B) {f : Str} {ps vars : List Str} {ss : List S} (e : recOK p f ps vars ss = true) (el : likeSs ss (vwOf (namesR p f) vars) (bodyR p f) = bodyR p f) : FnIs c f ps vars ss := by
  unfold recOK at e
  unfold bodyR namesR at el
  cases hd : recR p f with
  | none => rw [hd] at e; cases e
  | some d =>
    rw [hd] at e el
    have e : defOK d ps vars ss = true := e
    have el : likeSs ss (vwOf d.scope.names vars) d.body = d.body := el
    have hm : d ∈ recsOf p := List.mem_of_find?_eq_some hd
    have hd' : (recsOf p).find? (fun d => d.name == f) = some d := hd
    have hn : d.name = f := by
      have := List.find?_some hd'
      exact beq_iff_eq.mp this
    obtain ⟨a, o, pm, code, doc, h1, h2, h3, h4⟩ := T.fn d hm
    obtain ⟨e, e'⟩ := and2 e
    obtain ⟨e, e5⟩ := and2 e
    obtain ⟨e, e4⟩ := and2 e
    obtain ⟨e, e3⟩ := and2 e
    obtain ⟨e1, e2⟩ := and2 e
    obtain ⟨e, f5⟩ := and2 e'
    obtain ⟨e, f4⟩ := and2 e
    obtain ⟨e, f3⟩ := and2 e
    obtain ⟨f1, f2⟩ := and2 e
    exact ⟨a, o, _, d.body, hn ▸ h1, h2, h3, h4, rfl, fun vs hl => bind_plain (List.isEmpty_iff.mp e1) (beq_iff_eq.mp e2) (Option.isNone_iff_eq_none.mp e3) (List.isEmpty_iff.mp e4) (Option.isNone_iff_eq_none.mp e5) rfl f4 vs hl, rfl, (Bool.not_eq_true' _).mp f1, (Bool.not_eq_true' _).mp f2, beq_iff_eq.mp f3, rfl, rfl, f5, el⟩

def mkCx (prog : Program) (w : World) (B : Heap) (mg : Str → Option Value) (cs : List (Str × D)) (cls : List (Str × Addr)) (sub : List (Str × Str)) : Cx :=
  ⟨prog, w, B, mg, fun x => cs.lookup x, fun x => cls.lookup x, fun e k => sub.contains (e, k), false⟩
def freeL : List String := ["len", "abs", "max", "min", "int", "list", "tuple", "sum", "isinstance", "bool", "ValueError", "range", "zip"]
def freeOK (p : Program) (loose : List Str) (x : Str) : Bool := !(startupNames.contains x) && !(loose.contains x) && !(((recsOf p).map (·.name)).contains x) && !(((litsOf p).map (·.1)).contains x) && !(((clssOf p loose).map (·.name)).contains x)
theorem not_mem {l : List Str} {x : Str} (h : (!(l.contains x)) = true) : x ∉ l := fun m => by rw [List.contains_iff_mem.mpr m] at h; cases h
/-- a top of which one exception is met -/
theorem mk_one {p : Program} {loose : List Str} {mean : ExcName → Option Value} {mg mb : Str → Option Value} {h : Heap} {prog : Program} {w : World} {cs : List (Str × D)} (T : Top p loose mean mg mb h) (hs : importsNone p = true) (ht : prog.given.tree = none) (ef : (freeL.all fun x => freeOK p loose (Str.ofString x)) = true)
    (hc : ∀ x d, cs.lookup x = some d → ∃ v, mg x = some v ∧ Rep h v d) (nm : Str) (ho : ((ownsOf p).any fun o => o.name == nm && o.bm == [.type "ValueError", .type "Exception", .type "BaseException", .type "object"] && o.newId == "ValueError.__new__") = true) :
    ∃ C, CxOK (mkCx prog w h mg cs [(nm, C)] [(nm, nm)]) ∧ ExcOK (mkCx prog w h mg cs [(nm, C)] [(nm, nm)]) ∧ RzOK (mkCx prog w h mg cs [(nm, C)] [(nm, nm)]) := by
  obtain ⟨o, hm, e⟩ := List.any_eq_true.mp ho
  obtain ⟨e, e3⟩ := and2 e
  obtain ⟨e1, e2⟩ := and2 e
  obtain ⟨C, O, _⟩ := T.own o hm
  rw [beq_iff_eq.mp e1, beq_iff_eq.mp e2, beq_iff_eq.mp e3] at O
  have O := O.own
  have one : ∀ {x : Str} {D : Addr}, [(nm, C)].lookup x = some D → x = nm ∧ D = C := fun {x D} hx => by
    rw [List.lookup_cons] at hx
    by_cases z : x = nm
    · subst z
      rw [beq_self_eq_true] at hx
      cases hx
      exact ⟨rfl, rfl⟩
    · rw [beq_eq_false_iff_ne.mpr z] at hx
      cases hx
  refine ⟨C, { g := T.g, b := ⟨mb, T.b, T.builtins⟩, lim := T.nolimit, seer := T.seer hs, tree := ht, cs := hc, cls := fun x D hx => ?_, free := fun x hx => ?_ }, ⟨(fun hi => by cases hi), (fun hi => by cases hi)⟩, ⟨fun x D hx => ?_, fun {e k Ce Ck a ox A E s Q} he hk hst hox hcx hQ => ?_⟩⟩
  · obtain ⟨rfl, rfl⟩ := one hx
    exact O.bound
  · have q := List.all_eq_true.mp ef x hx
    obtain ⟨q, q5⟩ := and2 q
    obtain ⟨q, q4⟩ := and2 q
    obtain ⟨q, q3⟩ := and2 q
    obtain ⟨q1, q2⟩ := and2 q
    exact T.free _ (not_mem q1) (not_mem q2) (not_mem q3) (not_mem q4) (not_mem q5)
  · obtain ⟨rfl, rfl⟩ := one hx
    exact ⟨_, _, _, O, PySem.F.excBase_ValueError⟩
  · obtain ⟨rfl, rfl⟩ := one he
    obtain ⟨rfl, rfl⟩ := one hk
    obtain ⟨tl, N, nm', q, bs, hdct, sn, sub, ab, col, dd, k0, k1, k2, k3, k5, mN, hCo, hN, hni, T'⟩ := O.obj
    have hQ : Q ([(k, k)].contains (k, k)) s := hQ
    rw [List.contains_cons, beq_self_eq_true, Bool.true_or] at hQ
    exact wpAny_excMatches_sub_self (hst _ _ hCo) hox hcx (T'.hasType PySem.F.excBase_ValueError.hasBase) hQ
end Mine

/-! ## M25 -/
namespace Mine
open PySem

section
variable {c : Cx} {n : Nat} {q : Bool} {Q : D → St → Prop} {X : Str → St → Prop} {σ : St} {a b e : E} {es : List E}
/-! one step of an expression -/
theorem e_bool {b : Bool} (h : Q (.bool b) σ) : wE c n q (.cbool b) Q X σ := h
theorem e_int {i : Int} (h : Q (.int i) σ) : wE c n q (.cint i) Q X σ := h
theorem e_var {i : Nat} {d : D} (e : σ.loc i = some d) (h : Q d σ) : wE c n q (.var i) Q X σ := ⟨d, e, h⟩
theorem e_glob {x : Str} {d : D} (e : c.cs x = some d) (h : Q d σ) : wE c n q (.glob x) Q X σ := ⟨d, e, h⟩
theorem e_bin {op : Operator} (h : wE c n q a (fun x σ₁ => wE c n q b (fun y σ₂ => opBin op x y Q σ₂) X σ₁) X σ) : wE c n q (.bin op a b) Q X σ := h
theorem e_neg (h : wE c n q a (fun x σ₁ => opNeg x Q σ₁) X σ) : wE c n q (.neg a) Q X σ := h
theorem e_not (h : wE c n q a (fun x σ₁ => wTruth x (fun b σ₂ => Q (.bool (!b)) σ₂) σ₁) X σ) : wE c n q (.not a) Q X σ := h
theorem e_cmp {op : CmpOp} (h : wE c n q a (fun x σ₁ => wE c n q b (fun y σ₂ => opCmp op x y Q σ₂) X σ₁) X σ) : wE c n q (.cmp op a b) Q X σ := h
theorem e_boolop {op : BoolOp} (h : wB c n q op es Q X σ) : wE c n q (.bool op es) Q X σ := h
theorem b_one {op : BoolOp} (h : wE c n q e Q X σ) : wB c n q op [e] Q X σ := h
theorem b_cons {op : BoolOp} {e' : E} (h : wE c n q e (fun d σ₁ => wTruth d (fun b σ₂ => if b = (op == .Or) then Q d σ₂ else wB c n q op (e' :: es) Q X σ₂) σ₁) X σ) : wB c n q op (e :: e' :: es) Q X σ := h
theorem e_call {f : Str} (hf : IsFn c f) (h : wEs c n true es (fun ds σ₁ => CallOK c n f ds σ₁.sto (fun d sto' => Q d { σ₁ with sto := sto' }) fun k => X k σ₁) X σ) : wE c n true (.call f es) Q X σ := ⟨rfl, hf, h⟩
theorem e_blt {f : Blt} (h : wEs c n true es (fun ds σ₁ => opBlt f ds Q σ₁) X σ) : wE c n true (.blt f es) Q X σ := ⟨rfl, h⟩
theorem e_isa {t : Ty} (h : wE c n q a (fun x σ₁ => opIsa c x t Q σ₁) X σ) : wE c n q (.isa a t) Q X σ := h
theorem e_idx (h : wE c n q a (fun x σ₁ => wE c n q b (fun y σ₂ => opIdx x y Q σ₂) X σ₁) X σ) : wE c n q (.idx a b) Q X σ := h
theorem e_slice {lo hi : Option E} (h : wE c n q a (fun x σ₁ => wO c n q lo (fun l σ₂ => wO c n q hi (fun h σ₃ => opSlice x l h Q σ₃) X σ₂) X σ₁) X σ) : wE c n q (.slice a lo hi) Q X σ := h
theorem o_none (h : Q .none σ) : wO c n q none Q X σ := h
theorem o_some (h : wE c n q e Q X σ) : wO c n q (some e) Q X σ := h
theorem e_tup (h : wEs c n q es (fun ds σ₁ => ds.length ≤ lim ∧ Q (.tup ds) σ₁) X σ) : wE c n q (.tup es) Q X σ := h
theorem e_lst (h : wEs c n q es (fun ds σ₁ => ds.length ≤ lim ∧ ∀ l, σ₁.sto l = none → Q (.lst l) (σ₁.put l (.list true ds))) X σ) : wE c n q (.lst es) Q X σ := h
theorem e_append (h : wE c n true a (fun x σ₁ => (∃ l ds, x = .lst l ∧ σ₁.sto l = some (.list true ds)) ∧ wE c n true b (fun d σ₂ => opAppend x d Q σ₂) X σ₁) X σ) : wE c n true (.append a b) Q X σ := ⟨rfl, h⟩
theorem es_nil {Q : List D → St → Prop} (h : Q [] σ) : wEs c n q [] Q X σ := h
theorem es_cons {Q : List D → St → Prop} (h : wE c n q e (fun d σ₁ => wEs c n q es (fun ds σ₂ => Q (d :: ds) σ₂) X σ₁) X σ) : wEs c n q (e :: es) Q X σ := h
theorem e_comp {elt : E} {xs : List (Nat × Str)} {k : ItK} (h : wEs c n true es (fun ds σ₁ => compK k xs (fun K σ₂ => wE c n true elt K noX σ₂) Q ds σ₁) X σ) : wE c n true (.comp elt xs k es) Q X σ := ⟨rfl, h⟩
/-! the operations -/
theorem o_add {x y : Int} (h : Q (.int (x + y)) σ) : opBin .Add (.int x) (.int y) Q σ := h
theorem o_sub {x y : Int} (h : Q (.int (x - y)) σ) : opBin .Sub (.int x) (.int y) Q σ := h
theorem o_mul {x y : Int} (hm : IntMulOk x y) (h : Q (.int (x * y)) σ) : opBin .Mult (.int x) (.int y) Q σ := ⟨hm, h⟩
theorem o_fdiv {x y : Int} (hm : y ≠ 0) (h : Q (.int (x.fdiv y)) σ) : opBin .FloorDiv (.int x) (.int y) Q σ := ⟨hm, h⟩
theorem o_mod {x y : Int} (hm : y ≠ 0) (h : Q (.int (x.fmod y)) σ) : opBin .Mod (.int x) (.int y) Q σ := ⟨hm, h⟩
theorem o_addT {x y : List D} (h1 : x.length ≤ lim) (h2 : y.length ≤ lim) (h : Q (.tup (x ++ y)) σ) : opBin .Add (.tup x) (.tup y) Q σ := ⟨h1, h2, h⟩
theorem o_addL {a b : Addr} {o₁ o₂ : Bool} {xs ys : List D} (e1 : σ.sto a = some (.list o₁ xs)) (e2 : σ.sto b = some (.list o₂ ys)) (h1 : xs.length ≤ lim) (h2 : ys.length ≤ lim) (h : ∀ l, σ.sto l = none → Q (.lst l) (σ.put l (.list true (xs ++ ys)))) : opBin .Add (.lst a) (.lst b) Q σ := ⟨o₁, xs, o₂, ys, e1, e2, h1, h2, h⟩
theorem o_mulT {x : List D} {k : Int} (h0 : 1 ≤ x.length) (h1 : x.length ≤ 100) (h2 : 0 ≤ k) (h3 : k ≤ 10000) (h : Q (.tup (repL k x)) σ) : opBin .Mult (.tup x) (.int k) Q σ := ⟨h0, h1, h2, h3, h⟩
theorem o_mulL {a : Addr} {xs : List D} {k : Int} (e1 : σ.sto a = some (.list true xs)) (h1 : xs.length ≤ 100) (h2 : -10000 ≤ k) (h3 : k ≤ 10000) (h : ∀ l, σ.sto l = none → Q (.lst l) (σ.put l (.list true (repL k xs)))) : opBin .Mult (.lst a) (.int k) Q σ := ⟨xs, e1, h1, h2, h3, h⟩
theorem f_listT {xs : List D} (hl : xs.length ≤ lim) (h : ∀ l, σ.sto l = none → Q (.lst l) (σ.put l (.list true xs))) : opBlt .list [.tup xs] Q σ := ⟨hl, h⟩
theorem f_tupL {a : Addr} {o : Bool} {xs : List D} (es : σ.sto a = some (.list o xs)) (hl : xs.length ≤ lim) (h : Q (.tup xs) σ) : opBlt .tuple [.lst a] Q σ := ⟨o, xs, es, hl, h⟩
theorem f_max {x y : Int} (h : Q (.int (max x y)) σ) : opBlt .max [.int x, .int y] Q σ := h
theorem f_int {b : Bool} (h : Q (.int (if b then 1 else 0)) σ) : opBlt .int [.bool b] Q σ := h
theorem st_lst {l : Addr} {ds : List D} {d : D} {k : Int} {Q : St → Prop} (es : σ.sto l = some (.list true ds)) (hl : ds.length ≤ lim) (h0 : 0 ≤ k) (hk : k < ds.length) (h : Q (σ.put l (.list true (ds.set k.toNat d)))) : opSet (.lst l) (.int k) d Q σ := ⟨ds, es, hl, h0, hk, h⟩
theorem o_neg {x : Int} (h : Q (.int (-x)) σ) : opNeg (.int x) Q σ := h
theorem c_lt {x y : Int} (h : Q (.bool (decide (x < y))) σ) : opCmp .Lt (.int x) (.int y) Q σ := h
theorem c_gt {x y : Int} (h : Q (.bool (decide (x > y))) σ) : opCmp .Gt (.int x) (.int y) Q σ := h
theorem c_ge {x y : Int} (h : Q (.bool (decide (x ≥ y))) σ) : opCmp .GtE (.int x) (.int y) Q σ := h
theorem c_eq {x y : Int} (h : Q (.bool (x == y)) σ) : opCmp .Eq (.int x) (.int y) Q σ := ⟨x == y, rfl, h⟩
theorem c_ne {x y : Int} (h : Q (.bool (!(x == y))) σ) : opCmp .NotEq (.int x) (.int y) Q σ := ⟨x == y, rfl, h⟩
theorem c_eqD {x y : D} {b : Bool} (e : eqTop σ.sto x y = some b) (h : Q (.bool b) σ) : opCmp .Eq x y Q σ := ⟨b, e, h⟩
theorem c_neD {x y : D} {b : Bool} (e : eqTop σ.sto x y = some b) (h : Q (.bool (!b)) σ) : opCmp .NotEq x y Q σ := ⟨b, e, h⟩
theorem i_tup {ds : List D} {i : Int} {d : D} (hl : ds.length ≤ lim) (e : nth ds i = some d) (h : Q d σ) : opIdx (.tup ds) (.int i) Q σ := ⟨hl, d, e, h⟩
theorem i_lst {l : Addr} {o : Bool} {ds : List D} {i : Int} {d : D} (es : σ.sto l = some (.list o ds)) (hl : ds.length ≤ lim) (e : nth ds i = some d) (h : Q d σ) : opIdx (.lst l) (.int i) Q σ := ⟨o, ds, es, hl, d, e, h⟩
theorem f_abs {i : Int} (h : Q (.int i.natAbs) σ) : opBlt .abs [.int i] Q σ := h
theorem f_lenT {xs : List D} (hl : xs.length ≤ lim) (h : Q (.int xs.length) σ) : opBlt .len [.tup xs] Q σ := ⟨hl, h⟩
theorem f_lenL {l : Addr} {o : Bool} {xs : List D} (es : σ.sto l = some (.list o xs)) (hl : xs.length ≤ lim) (h : Q (.int xs.length) σ) : opBlt .len [.lst l] Q σ := ⟨o, xs, es, hl, h⟩
theorem sl_lst {l : Addr} {o : Bool} {ds : List D} {lo hi : D} {p r : Option Int} (es : σ.sto l = some (.list o ds)) (e1 : bound lo = some p) (e2 : bound hi = some r) (hl : ds.length ≤ lim) (h : ∀ b, σ.sto b = none → Q (.lst b) (σ.put b (.list true (cutL ds p r)))) : opSlice (.lst l) lo hi Q σ := ⟨p, r, e1, e2, o, ds, es, hl, h⟩
theorem ap_lst {l : Addr} {ds : List D} {d : D} (es : σ.sto l = some (.list true ds)) (hl : ds.length ≤ lim) (h : Q .none (σ.put l (.list true (ds ++ [d])))) : opAppend (.lst l) d Q σ := ⟨ds, es, hl, h⟩
theorem tr_bool {b : Bool} {Q : Bool → St → Prop} (h : Q b σ) : wTruth (.bool b) Q σ := ⟨b, rfl, h⟩
/-! a test -/
theorem t_not {Q : Bool → St → Prop} (h : wT c n q a (fun b σ₁ => Q (!b) σ₁) X σ) : wT c n q (.not a) Q X σ := h
theorem t_bool {Q : Bool → St → Prop} {op : BoolOp} (h : wTs c n q op es Q X σ) : wT c n q (.bool op es) Q X σ := h
theorem ts_nil {Q : Bool → St → Prop} {op : BoolOp} (h : Q (op == .And) σ) : wTs c n q op [] Q X σ := h
theorem ts_cons {Q : Bool → St → Prop} {op : BoolOp} (h : wT c n q e (fun b σ₁ => if b = (op == .Or) then Q b σ₁ else wTs c n q op es Q X σ₁) X σ) : wTs c n q op (e :: es) Q X σ := h
theorem t_cmp {Q : Bool → St → Prop} {op : CmpOp} (h : wE c n q (.cmp op a b) (fun d σ₁ => wTruth d Q σ₁) X σ) : wT c n q (.cmp op a b) Q X σ := h
theorem t_call {Q : Bool → St → Prop} {f : Str} (h : wE c n q (.call f es) (fun d σ₁ => wTruth d Q σ₁) X σ) : wT c n q (.call f es) Q X σ := h
theorem t_isa {Q : Bool → St → Prop} {t : Ty} (h : wE c n q (.isa a t) (fun d σ₁ => wTruth d Q σ₁) X σ) : wT c n q (.isa a t) Q X σ := h
end

section
variable {c : Cx} {n : Nat} {q : Bool} {Q : Fl → St → Prop} {X : Str → St → Prop} {σ : St} {e t : E} {a b : List S} {s : S} {ss : List S}
/-! one step of a statement -/
theorem g_nil (h : Q .next σ) : wSs c n q [] Q X σ := h
theorem g_cons (h : wS c n q s (fun fl σ₁ => match fl with | .next => wSs c n q ss Q X σ₁ | fl => Q fl σ₁) X σ) : wSs c n q (s :: ss) Q X σ := h
theorem g_expr (h : wE c n q e (fun _ σ₁ => Q .next σ₁) X σ) : wS c n q (.expr e) Q X σ := h
theorem g_assign {x : Nat} (h : wE c n q e (fun d σ₁ => Q .next (σ₁.set x d)) X σ) : wS c n q (.assign x e) Q X σ := h
theorem g_swap {xs : List Nat} {es : List E} (h : wE c n true (.tup es) (fun d σ₁ => ∃ ds, d = .tup ds ∧ ds.length = xs.length ∧ Q .next (setAll σ₁ xs ds)) X σ) : wS c n true (.swap xs es) Q X σ := ⟨rfl, h⟩
theorem g_setitem {o i : E} (h : wE c n q e (fun d σ₁ => wE c n q o (fun x σ₂ => wE c n q i (fun k σ₃ => opSet x k d (Q .next) σ₃) X σ₂) X σ₁) X σ) : wS c n q (.setitem o i e) Q X σ := h
theorem g_if (h : wT c n q t (fun r σ₁ => if r = true then wSs c n q a Q X σ₁ else wSs c n q b Q X σ₁) X σ) : wS c n q (.ifs t a b) Q X σ := h
theorem g_ret (h : wE c n q e (fun d σ₁ => Q (.ret d) σ₁) X σ) : wS c n q (.ret e) Q X σ := h
theorem g_raise {k m : Str} {C : Addr} (hC : c.cls k = some C) (h : X k σ) : wS c n true (.raise k m) Q X σ := ⟨rfl, ⟨C, hC⟩, h⟩
theorem g_try0 {k : Str} {C : Addr} (hC : c.cls k = some C) (h : wSs c n true a Q (fun e σ₁ => c.sub e k = true ∧ wSs c n false b Q noX σ₁) σ) : wS c n true (.tryx a k none b) Q X σ := ⟨rfl, ⟨C, hC⟩, h⟩
theorem g_while (I : St → Prop) (m : St → Nat) (h0 : I σ) (h : ∀ σ', I σ' → wT c n q t (fun r σ₁ => if r = true then wSs c n q b (fun fl σ₂ => match fl with
      | .next => I σ₂ ∧ m σ₂ < m σ'
      | .cont => I σ₂ ∧ m σ₂ < m σ'
      | .brk => Q .next σ₂
      | .ret d => Q (.ret d) σ₂) noX σ₁ else Q .next σ₁) noX σ') : wS c n q (.whiles t b) Q X σ := ⟨I, m, h0, h⟩
theorem g_for1 {x : Nat} {k : ItK} {es : List E} (h : wI c n true k es (fun items g σ₁ => forL g (fun d K σ₂ => wSs c n true b K noX (σ₂.set x d)) items Q σ₁) X σ) : wS c n true (.fors [x] true k es b) Q X σ := ⟨rfl, h⟩
theorem i_range {es : List E} {Kc : List D → (St → Prop) → St → Prop} (h : wEs c n q es (fun ds σ₁ => ds.all smallI = true ∧ ∃ items, rangeD ds = some items ∧ Kc items (fun _ => True) σ₁) X σ) : wI c n q .range es Kc X σ := h
theorem i_tup1 {e : E} {Kc : List D → (St → Prop) → St → Prop} (h : wE c n q e (fun d σ₁ => itemsOf d Kc σ₁) X σ) : wI c n q .plain [e] Kc X σ := h
/-- a for over items: an invariant of the place -/
theorem forL_inv {g : St → Prop} {step : D → (Fl → St → Prop) → St → Prop} (I : Nat → St → Prop) (Rt : D → St → Prop) : ∀ (items : List D) (k : Nat) (σ : St), I k σ → (∀ i σ, I i σ → g σ) →
    (∀ i d σ (K : Fl → St → Prop), items[i]? = some d → I (k + i) σ → (∀ σ', I (k + i + 1) σ' → K .next σ') → (∀ v σ', Rt v σ' → K (.ret v) σ') → step d K σ) →
    (∀ v σ, Rt v σ → Q (.ret v) σ) → (∀ σ, I (k + items.length) σ → Q .next σ) → forL g step items Q σ
  | [], k, σ, hI, hg, hs, hr, hQ => ⟨hg _ _ hI, hQ σ hI⟩
  | d :: ds, k, σ, hI, hg, hs, hr, hQ => by
    refine ⟨hg _ _ hI, hs 0 d σ _ rfl hI (fun σ' hI' => ?_) fun v σ' h => hr v σ' h⟩
    exact forL_inv I Rt ds (k + 1) σ' hI' hg (fun i d' σ₂ K e hI₂ hn hr' => by
      have e1 : k + 1 + i = k + (i + 1) := by omega
      rw [e1] at hI₂ hn
      exact hs (i + 1) d' σ₂ K (by simpa using e) hI₂ hn hr') hr (fun σ₂ h₂ => hQ σ₂ (by rw [List.length_cons, show k + (ds.length + 1) = k + 1 + ds.length by omega]; exact h₂))
theorem if_b {b : Bool} {A B : Prop} (h1 : b = true → A) (h2 : b = false → B) : if b = true then A else B := by
  cases b with
  | true => exact h1 rfl
  | false => exact h2 rfl
theorem if_or {b : Bool} {A B : Prop} (h1 : b = true → A) (h2 : b = false → B) : if b = (BoolOp.Or == .Or) then A else B := by
  cases b with
  | true => exact h1 rfl
  | false => exact h2 rfl
theorem if_and {b : Bool} {A B : Prop} (h1 : b = false → A) (h2 : b = true → B) : if b = (BoolOp.And == .Or) then A else B := by
  cases b with
  | true => exact h2 rfl
  | false => exact h1 rfl
end

/-! the preconditions grow with what is asked -/
section
variable {c : Cx} {n : Nat} {q : Bool}
end

/-- a fraction as the text holds it -/
def frD (r : Rat) : D := .tup [.int r.num, .int r.den]
/-- its parts are short -/
def RS (k : Nat) (r : Rat) : Prop := r.num.natAbs < 2 ^ k ∧ r.den < 2 ^ k

theorem i_fr0 {x : Rat} {Q : D → St → Prop} {σ : St} (h : Q (.int x.num) σ) : opIdx (frD x) (.int 0) Q σ := ⟨by simp [lim], _, rfl, h⟩
theorem i_fr1 {x : Rat} {Q : D → St → Prop} {σ : St} (h : Q (.int x.den) σ) : opIdx (frD x) (.int 1) Q σ := ⟨by simp [lim], _, rfl, h⟩
end Mine

/-! ## Q1 -/
namespace Mine
open PySem

/-! rows of fractions, in plain words -/
def cf (p : List Rat) (i : Nat) : Rat := (p[i]?).getD 0
theorem cf_nil (i : Nat) : cf [] i = 0 := rfl
theorem cf_ge {p : List Rat} {i : Nat} (h : p.length ≤ i) : cf p i = 0 := by unfold cf; rw [List.getElem?_eq_none h]; rfl
theorem cf_lt {p : List Rat} {i : Nat} (h : i < p.length) : cf p i = p[i] := by unfold cf; rw [List.getElem?_eq_getElem h]; rfl
def trimL : List Rat → List Rat
  | [] => []
  | x :: xs => match trimL xs with
    | [] => if x = 0 then [] else [x]
    | y :: ys => x :: y :: ys
theorem cf_trim : ∀ (p : List Rat) (i : Nat), cf (trimL p) i = cf p i
  | [], i => rfl
  | x :: xs, i => by
    have ih := cf_trim xs
    unfold trimL
    cases h : trimL xs with
    | nil =>
      rw [h] at ih
      dsimp only
      by_cases hx : x = 0
      · rw [if_pos hx]
        cases i with
        | zero => show (0 : Rat) = x; exact hx.symm
        | succ i => exact ih i
      · rw [if_neg hx]
        cases i with
        | zero => rfl
        | succ i => exact ih i
    | cons y ys =>
      rw [h] at ih
      cases i with
      | zero => rfl
      | succ i => exact ih i
/-- no zero at the end -/
def Rw (p : List Rat) : Prop := p = [] ∨ cf p (p.length - 1) ≠ 0
theorem rw_trim : ∀ p : List Rat, Rw (trimL p)
  | [] => .inl rfl
  | x :: xs => by
    have ih := rw_trim xs
    unfold trimL
    cases h : trimL xs with
    | nil =>
      dsimp only
      by_cases hx : x = 0
      · rw [if_pos hx]; exact .inl rfl
      · rw [if_neg hx]; exact .inr hx
    | cons y ys =>
      rw [h] at ih
      rcases ih with ih | ih
      · cases ih
      · exact .inr ih
theorem trim_len : ∀ p : List Rat, (trimL p).length ≤ p.length
  | [] => Nat.le_refl _
  | x :: xs => by
    have ih := trim_len xs
    unfold trimL
    cases h : trimL xs with
    | nil =>
      dsimp only
      split
      · exact Nat.zero_le _
      · exact Nat.succ_le_succ (Nat.zero_le _)
    | cons y ys =>
      rw [h] at ih
      exact Nat.succ_le_succ ih
theorem row_ext {p q : List Rat} (hp : Rw p) (hq : Rw q) (h : ∀ i, cf p i = cf q i) : p = q := by
  have le : ∀ {p q : List Rat}, Rw q → (∀ i, cf p i = cf q i) → q.length ≤ p.length := fun {p q} hq h => by
    rcases hq with rfl | hq
    · exact Nat.zero_le _
    · by_cases z : q.length ≤ p.length
      · exact z
      · exact absurd ((h (q.length - 1)).symm.trans (cf_ge (by omega))) hq
  have l1 := le hq h
  have l2 := le hp fun i => (h i).symm
  refine List.ext_getElem (by omega) fun i h1 h2 => ?_
  rw [← cf_lt h1, ← cf_lt h2, h i]
theorem trim_eq {p q : List Rat} (hq : Rw q) (h : ∀ i, cf q i = cf p i) : q = trimL p := row_ext hq (rw_trim p) fun i => (h i).trans (cf_trim p i).symm
theorem cf_take {p : List Rat} {s : Nat} (h : ∀ i, s ≤ i → cf p i = 0) (i : Nat) : cf (p.take s) i = cf p i := by
  by_cases hi : i < s
  · unfold cf; rw [List.getElem?_take_of_lt hi]
  · rw [h i (by omega), cf_ge (by rw [List.length_take]; omega)]
theorem cf_set {p : List Rat} {k : Nat} {v : Rat} (hk : k < p.length) (i : Nat) : cf (p.set k v) i = if i = k then v else cf p i := by
  unfold cf
  rw [List.getElem?_set]
  by_cases h : i = k
  · subst h; simp [hk]
  · rw [if_neg (fun z => h z.symm), if_neg h]
theorem cf_app (p q : List Rat) (i : Nat) : cf (p ++ q) i = if i < p.length then cf p i else cf q (i - p.length) := by
  unfold cf
  rw [List.getElem?_append]
  split <;> rfl
theorem cf_zeros (k i : Nat) : cf (List.replicate k 0) i = 0 := by
  unfold cf
  rw [List.getElem?_replicate]
  split <;> rfl
theorem cf_map {f : Rat → Rat} (hf : f 0 = 0) (p : List Rat) (i : Nat) : cf (p.map f) i = f (cf p i) := by
  unfold cf
  rw [List.getElem?_map]
  cases p[i]? with
  | none => exact hf.symm
  | some x => rfl

/-! sums -/
def sm (f : Nat → Rat) : Nat → Rat
  | 0 => 0
  | n + 1 => sm f n + f n
theorem sm_cong {f g : Nat → Rat} : ∀ {n : Nat}, (∀ i, i < n → f i = g i) → sm f n = sm g n
  | 0, _ => rfl
  | n + 1, h => by
    show sm f n + f n = sm g n + g n
    rw [sm_cong fun i hi => h i (by omega), h n (by omega)]
theorem sm_zero {f : Nat → Rat} {n : Nat} : ∀ {m : Nat}, (∀ i, n ≤ i → f i = 0) → sm f (n + m) = sm f n
  | 0, _ => rfl
  | m + 1, h => by
    show sm f (n + m) + f (n + m) = sm f n
    rw [sm_zero h, h _ (by omega), Rat.add_zero]
theorem sm_first (f : Nat → Rat) : ∀ n : Nat, sm f (n + 1) = f 0 + sm (fun i => f (i + 1)) n
  | 0 => by show 0 + f 0 = f 0 + 0; rw [Rat.add_comm]
  | n + 1 => by
    show sm f (n + 1) + f (n + 1) = f 0 + (sm (fun i => f (i + 1)) n + f (n + 1))
    rw [sm_first f n, Rat.add_assoc]
theorem sm_rev : ∀ (n : Nat) (f : Nat → Rat), sm f n = sm (fun i => f (n - 1 - i)) n
  | 0, _ => rfl
  | n + 1, f => by
    rw [sm_first (fun i => f (n + 1 - 1 - i)) n]
    show sm f n + f n = f (n - 0) + sm (fun i => f (n - (i + 1))) n
    rw [sm_rev n f, Rat.add_comm]
    congr 1
    exact sm_cong fun i hi => by congr 1; omega
/-- the product's parts -/
def cvf (p q : List Rat) (j i : Nat) : Rat := if i ≤ j then cf p i * cf q (j - i) else 0
def cv (p q : List Rat) (j : Nat) : Rat := sm (cvf p q j) p.length
theorem cv_full (p q : List Rat) (j : Nat) : cv p q j = sm (fun i => cf p i * cf q (j - i)) (j + 1) := by
  have h1 : sm (cvf p q j) (p.length + (j + 1)) = sm (cvf p q j) p.length := sm_zero fun i hi => by
    unfold cvf; split
    · rw [cf_ge hi, Rat.zero_mul]
    · rfl
  have h2 : sm (cvf p q j) (j + 1 + p.length) = sm (cvf p q j) (j + 1) := sm_zero fun i hi => if_neg (by omega)
  unfold cv
  rw [← h1, Nat.add_comm, h2]
  exact sm_cong fun i hi => if_pos (by omega)
theorem cv_comm (p q : List Rat) (j : Nat) : cv p q j = cv q p j := by
  rw [cv_full, cv_full, sm_rev]
  refine sm_cong fun i hi => ?_
  show cf p (j + 1 - 1 - i) * cf q (j - (j + 1 - 1 - i)) = _
  rw [Rat.mul_comm, show j + 1 - 1 - i = j - i by omega, show j - (j - i) = i by omega]

/-! short parts -/
theorem RS.mono {k l : Nat} {x : Rat} (h : RS k x) (hl : k ≤ l) : RS l x := ⟨Nat.lt_of_lt_of_le h.1 (Nat.pow_le_pow_right (by decide) hl), Nat.lt_of_lt_of_le h.2 (Nat.pow_le_pow_right (by decide) hl)⟩
theorem rs_zero {k : Nat} (h : 1 ≤ k) : RS k 0 := RS.mono (k := 1) ⟨by decide, by decide⟩ h
theorem rs_divInt {t b : Int} {k : Nat} (hb : b ≠ 0) (h1 : t.natAbs < 2 ^ k) (h2 : b.natAbs < 2 ^ k) : RS k (Rat.divInt t b) := by
  unfold RS
  rw [Rat.num_divInt, Rat.den_divInt, if_neg hb]
  refine ⟨?_, Nat.lt_of_le_of_lt (Nat.div_le_self _ _) h2⟩
  refine Nat.lt_of_le_of_lt (Int.natAbs_ediv_le_natAbs _ _) ?_
  rw [Int.natAbs_mul, Int.natAbs_sign_of_ne_zero hb, Nat.one_mul]
  exact h1
theorem pow_mul {a b : Int} {k l : Nat} (ha : a.natAbs < 2 ^ k) (hb : b.natAbs < 2 ^ l) : (a * b).natAbs < 2 ^ (k + l) := by
  rw [Int.natAbs_mul, Nat.pow_add]
  exact Nat.mul_lt_mul'' ha hb
theorem den_nat {x : Rat} {k : Nat} (h : RS k x) : (x.den : Int).natAbs < 2 ^ k := h.2
end Mine

local macro_rules | `(tactic| walk_at "mine") => `(tactic| (repeat (first | with_reducible refine Mine.g_cons ?_ | with_reducible refine Mine.g_expr ?_ | with_reducible refine Mine.g_assign ?_ | with_reducible refine Mine.g_swap ?_ | with_reducible refine Mine.g_unpack ?_ | with_reducible refine Mine.g_setitem ?_ | with_reducible refine Mine.g_if ?_ | with_reducible refine Mine.g_ret ?_ | with_reducible refine Mine.g_nil ?_ | with_reducible refine Mine.g_pass ?_ | with_reducible refine Mine.e_bin ?_ | with_reducible refine Mine.e_cmp ?_ | with_reducible refine Mine.e_idx ?_ | with_reducible refine Mine.e_tup ?_ | with_reducible refine Mine.e_lst ?_ | with_reducible refine Mine.es_cons ?_ | with_reducible refine Mine.es_nil ?_ | with_reducible refine Mine.e_int ?_ | with_reducible refine Mine.e_bool ?_ | with_reducible refine Mine.e_none ?_ | with_reducible refine Mine.e_str ?_ | with_reducible refine Mine.e_blt ?_ | with_reducible refine Mine.e_not ?_ | with_reducible refine Mine.e_neg ?_ | with_reducible refine Mine.e_isa ?_ | with_reducible refine Mine.e_boolop ?_ | with_reducible refine Mine.b_cons ?_ | with_reducible refine Mine.b_one ?_ | with_reducible refine Mine.e_slice ?_ | with_reducible refine Mine.o_none ?_ | with_reducible refine Mine.o_some ?_ | with_reducible refine Mine.t_not ?_ | with_reducible refine Mine.t_bool ?_ | with_reducible refine Mine.t_cmp ?_ | with_reducible refine Mine.t_call ?_ | with_reducible refine Mine.t_isa ?_ | with_reducible refine Mine.ts_cons ?_ | with_reducible refine Mine.ts_nil ?_ | with_reducible refine Mine.tr_bool ?_ | with_reducible refine Mine.o_add ?_ | with_reducible refine Mine.o_sub ?_ | with_reducible refine Mine.o_neg ?_ | with_reducible refine Mine.c_lt ?_ | with_reducible refine Mine.c_le ?_ | with_reducible refine Mine.c_gt ?_ | with_reducible refine Mine.c_ge ?_ | with_reducible refine Mine.c_eq ?_ | with_reducible refine Mine.c_ne ?_ | with_reducible refine Mine.c_is ?_ | with_reducible refine Mine.c_isnot ?_ | with_reducible refine Mine.f_abs ?_ | with_reducible refine Mine.i_range ?_ | with_reducible refine Mine.i_fr0 ?_ | with_reducible refine Mine.i_fr1 ?_ | ((with_reducible apply Mine.e_var); first | exact rfl | assumption))))
/-! ## L1 -/
namespace Mine
open PySem

theorem mul_ok {a b : Int} {k : Nat} (ha : a.natAbs < 2 ^ k) (hb : b.natAbs < 2 ^ k) (hk : k ≤ 33554432) : IntMulOk a b := by
  have bits : ∀ x : Int, x.natAbs < 2 ^ k → Builtin.Int.intBits x ≤ k := fun x hx => by
    unfold Builtin.Int.intBits
    split
    · exact Nat.zero_le _
    · rename_i h0
      have hn : x.natAbs ≠ 0 := fun z => h0 (by simpa using z)
      have := (Nat.log2_lt hn).mpr hx
      omega
  have h1 := bits a ha
  have h2 := bits b hb
  unfold IntMulOk
  have : Builtin.Int.intTooBig (Builtin.Int.intBits a + Builtin.Int.intBits b) = false := by
    unfold Builtin.Int.intTooBig
    have : (bitsLine : Int) ≥ 67108864 := by decide
    simp only [decide_eq_false_iff_not]
    omega
  rw [this]; simp

theorem rat_num {t b : Int} (hb : b ≠ 0) : t.fdiv (if b < 0 then 0 - (Int.gcd t b : Int) else Int.gcd t b) = (Rat.divInt t b).num := by
  have hg : (0 : Int) < Int.gcd t b := by
    have := Int.gcd_pos_of_ne_zero_right t hb
    omega
  rw [Rat.num_divInt, Int.gcd_comm b t]
  obtain ⟨k, hk⟩ := Int.gcd_dvd_left t b
  generalize (Int.gcd t b : Int) = g at *
  subst hk
  split
  · rename_i h
    rw [Int.sign_eq_neg_one_of_neg h, show g * k = (0 - g) * (-k) by grind, Int.mul_fdiv_cancel_left _ (by omega), show -1 * ((0 - g) * -k) = g * (-k) by grind, Int.mul_ediv_cancel_left _ (by omega)]
  · rename_i h
    rw [Int.sign_eq_one_of_pos (by omega), Int.mul_fdiv_cancel_left _ (by omega), Int.one_mul, Int.mul_ediv_cancel_left _ (by omega)]
theorem rat_den {t b : Int} (hb : b ≠ 0) : b.fdiv (if b < 0 then 0 - (Int.gcd t b : Int) else Int.gcd t b) = ((Rat.divInt t b).den : Int) := by
  have hg : (0 : Int) < Int.gcd t b := by
    have := Int.gcd_pos_of_ne_zero_right t hb
    omega
  rw [Rat.den_divInt, if_neg hb, Int.gcd_comm b t]
  obtain ⟨k, hk⟩ := Int.gcd_dvd_right t b
  have hn : ((b.natAbs / Int.gcd t b : Nat) : Int) = (b.natAbs : Int) / (Int.gcd t b : Int) := by push_cast; rfl
  rw [hn]
  generalize (Int.gcd t b : Int) = g at *
  subst hk
  split
  · rename_i h
    rw [show ((g * k).natAbs : Int) = g * (-k) by rw [Int.mul_neg]; omega, show g * k = (0 - g) * (-k) by grind, Int.mul_fdiv_cancel_left _ (by omega), Int.mul_ediv_cancel_left _ (by omega)]
  · rename_i h
    rw [show ((g * k).natAbs : Int) = g * k by omega, Int.mul_fdiv_cancel_left _ (by omega), Int.mul_ediv_cancel_left _ (by omega)]

theorem gcd_step {x y : Int} (hx : 0 ≤ x) (hy : 0 ≤ y) : Int.gcd y (x % y) = Int.gcd x y := by
  obtain ⟨m, rfl⟩ := Int.eq_ofNat_of_zero_le hx
  obtain ⟨k, rfl⟩ := Int.eq_ofNat_of_zero_le hy
  show Nat.gcd k ((m : Int) % (k : Int)).natAbs = Nat.gcd m k
  rw [← Int.natCast_emod, Int.natAbs_natCast, Nat.gcd_comm k, ← Nat.gcd_rec, Nat.gcd_comm]

def s_divisor_of : List S := [
    .assign 2 (.blt .abs [.var 0]),
    .assign 3 (.blt .abs [.var 1]),
    .whiles (.cmp .Gt (.var 3) (.cint 0)) [.assign 4 (.bin .Mod (.var 2) (.var 3)), .assign 2 (.var 3), .assign 3 (.var 4)],
    .ret (.var 2)]
section
variable {c : Cx} (CO : CxOK c) (EO : ExcOK c) (RO : RzOK c)
include CO EO RO

theorem call_divisor_of {n : Nat} {f : Str} {ps vars : List Str} (hf : FnIs c f ps vars s_divisor_of) (hp : ps.length = 2) {a b : Int} {sto : Sto} {Q : D → Sto → Prop} {X : Str → Prop} (h : Q (.int (Int.gcd a b)) sto) : CallOK c (n + 1) f [.int a, .int b] sto Q X := by
  refine fn_call CO EO RO hf (by simp [hp]) ?_
  unfold s_divisor_of
  walk_at "mine"
  refine g_while (fun σ => ∃ x y : Int, σ.loc 2 = some (.int x) ∧ σ.loc 3 = some (.int y) ∧ 0 ≤ x ∧ 0 ≤ y ∧ Int.gcd x y = Int.gcd a b) (fun σ => match σ.loc 3 with | some (.int y) => y.toNat | _ => 0) ?_ ?_
  · exact ⟨a.natAbs, b.natAbs, rfl, rfl, by omega, by omega, by simp [Int.gcd]⟩
  rintro σ' ⟨x, y, h2, h3, hx, hy, hg⟩
  walk_at "mine"
  refine if_b (fun hb => ?_) fun hb => ?_
  · have hb' : y > 0 := by simpa using hb
    walk_at "mine"
    refine o_mod (by omega) ?_
    walk_at "mine"
    have e : x.fmod y = x % y := Int.fmod_eq_emod_of_nonneg x hy
    have := Int.emod_nonneg x (show y ≠ 0 by omega)
    have := Int.emod_lt_of_pos x hb'
    refine ⟨⟨y, x.fmod y, rfl, rfl, hy, by omega, ?_⟩, ?_⟩
    · rw [e, ← hg, gcd_step hx hy]
    · show (x.fmod y).toNat < _
      rw [h3]
      show (x.fmod y).toNat < y.toNat
      omega
  · have hb' : y = 0 := by simp at hb; omega
    subst hb'
    walk_at "mine"
    refine ret_plain ?_
    have : x = (Int.gcd a b : Int) := by rw [← hg]; simp [Int.gcd]; omega
    rw [this]; exact h

def s_fraction : List S := [
    .ifs (.cmp .Eq (.var 1) (.cint 0)) [.raise (Str.ofString "Nought") (Str.ofString "by nought")] [],
    .assign 2 (.call (Str.ofString "divisor_of") [.var 0, .var 1]),
    .ifs (.cmp .Lt (.var 1) (.cint 0)) [.assign 2 (.bin .Sub (.cint 0) (.var 2))] [],
    .ret (.tup [.bin .FloorDiv (.var 0) (.var 2), .bin .FloorDiv (.var 1) (.var 2)])]
/-- the defs of the text that work on numbers -/
structure Nums (c : Cx) : Prop where
  divisor_of : ∃ p v, FnIs c (Str.ofString "divisor_of") p v s_divisor_of ∧ p.length = 2
  fraction : ∃ p v, FnIs c (Str.ofString "fraction") p v s_fraction ∧ p.length = 2
  nought : ∃ C, c.cls (Str.ofString "Nought") = some C

end
end Mine

/-! ## L2 -/
namespace Mine
open PySem

def s__law_cell_at : List S := [
    .ifs (.cmp .Lt (.var 1) (.blt .len [.var 0])) [.ret (.idx (.var 0) (.var 1))] [],
    .ret (.cint 0)]
def s__law_stream : List S := [
    .assign 2 (.lst []),
    .assign 3 (.bin .Add (.bin .Mod (.var 0) (.cint 2147483647)) (.cint 48271)),
    .fors [4] true .range [.bin .Add (.var 1) (.cint 1)] [.assign 3 (.bin .Mod (.bin .Add (.bin .Add (.bin .Mult (.var 3) (.var 3)) (.bin .Mult (.cint 48271) (.var 3))) (.var 4)) (.cint 2147483647)), .expr (.append (.var 2) (.var 3))],
    .ret (.slice (.var 2) (some (.cint 1)) none)]
def s__law_divisor : List S := [
    .whiles (.cmp .Gt (.var 0) (.cint 0)) [.swap [0, 1] [.bin .Mod (.var 1) (.var 0), .var 0]],
    .ret (.var 1)]
def s__law_fraction : List S := [
    .ifs (.cmp .Lt (.var 1) (.cint 0)) [.assign 0 (.neg (.var 0)), .assign 1 (.neg (.var 1))] [],
    .assign 2 (.call (Str.ofString "_law_divisor") [.blt .abs [.var 0], .var 1]),
    .ret (.tup [.bin .FloorDiv (.var 0) (.var 2), .bin .FloorDiv (.var 1) (.var 2)])]

theorem den_ne (x : Rat) : (x.den : Int) ≠ 0 := by have := x.den_nz; omega
theorem rat_sum (x y : Rat) : Rat.divInt (x.num * y.den + y.num * x.den) (x.den * y.den) = x + y := by
  rw [← Rat.divInt_add_divInt x.num y.num (den_ne x) (den_ne y), Rat.num_divInt_den, Rat.num_divInt_den]
theorem rat_mul (x y : Rat) : Rat.divInt (x.num * y.num) (x.den * y.den) = x * y := by
  rw [← Rat.divInt_mul_divInt x.num y.num, Rat.num_divInt_den, Rat.num_divInt_den]
theorem rat_div (x y : Rat) : Rat.divInt (x.num * y.den) (x.den * y.num) = x / y := by
  rw [Rat.div_def, ← Rat.divInt_mul_divInt x.num y.den, Rat.num_divInt_den, ← Rat.inv_divInt, Rat.num_divInt_den]
section
variable {c : Cx} (CO : CxOK c) (EO : ExcOK c) (RO : RzOK c)
include CO EO RO

theorem call_cell_at {n : Nat} {p v : List Str} (hf : FnIs c (Str.ofString "_law_cell_at") p v s__law_cell_at) (hp : p.length = 2) {a : Addr} {is : List Int} {i : Int} {sto : Sto} {o : Bool} (hs : sto a = some (.list o (is.map D.int))) (hl : is.length ≤ 1000) (hi : 0 ≤ i) {Q : D → Sto → Prop} {X : Str → Prop} (h : ∀ z, Q (.int z) sto) : CallOK c (n + 1) (Str.ofString "_law_cell_at") [.lst a, .int i] sto Q X := by
  refine fn_call CO EO RO hf (by simp [hp]) ?_
  have hs' : Sto.ro sto a = some (.list false (is.map D.int)) := by unfold Sto.ro; rw [hs]; rfl
  have hlim : (is.map D.int).length ≤ lim := by simp [lim]; omega
  unfold s__law_cell_at
  walk_at "mine"
  refine f_lenL hs' hlim ?_
  walk_at "mine"
  refine if_b (fun hb => ?_) fun hb => ?_
  · have hb' : i < is.length := by simpa using hb
    have e : nth (is.map D.int) i = some (.int is[i.toNat]) := by
      unfold nth
      rw [if_pos hi]
      simp
    walk_at "mine"
    refine i_lst hs' hlim e ?_
    walk_at "mine"
    exact ret_plain (h _)
  · walk_at "mine"
    exact ret_plain (h _)

end
end Mine

/-! ## L3 -/
namespace Mine
open PySem

theorem rangeUp_len (a b : Int) : (rangeUp a b).length = (b - a).toNat := by simp [rangeUp]
theorem rangeUp_get {a b : Int} {i : Nat} {d : D} (h : (rangeUp a b)[i]? = some d) : i < (b - a).toNat ∧ d = .int (a + i) := by
  have hi := (List.getElem?_eq_some_iff.mp h).1
  rw [rangeUp_len] at hi
  refine ⟨hi, ?_⟩
  unfold rangeUp at h
  rw [List.getElem?_map, List.getElem?_range hi] at h
  simpa using h.symm
theorem rangeDn_len (a b : Int) : (rangeDn a b).length = (a - b).toNat := by simp [rangeDn]
theorem rangeDn_get {a b : Int} {i : Nat} {d : D} (h : (rangeDn a b)[i]? = some d) : i < (a - b).toNat ∧ d = .int (a - i) := by
  have hi := (List.getElem?_eq_some_iff.mp h).1
  rw [rangeDn_len] at hi
  refine ⟨hi, ?_⟩
  unfold rangeDn at h
  rw [List.getElem?_map, List.getElem?_range hi] at h
  simpa using h.symm
theorem cutL_one {α : Type} (l : List α) : cutL l (some 1) none = l.drop 1 := by
  unfold cutL cutAt
  cases l with
  | nil => rfl
  | cons a l => simp

section
variable {c : Cx} (CO : CxOK c) (EO : ExcOK c) (RO : RzOK c)
include CO EO RO

theorem call_stream {n : Nat} {p v : List Str} (hf : FnIs c (Str.ofString "_law_stream") p v s__law_stream) (hp : p.length = 2) {z : Int} {m : Nat} (hm : m ≤ 1000) {sto : Sto} {Q : D → Sto → Prop} {X : Str → Prop}
    (h : ∀ (xs : List Int) l, xs.length = m → (∀ x ∈ xs, 0 ≤ x ∧ x < 2147483647) → sto l = none → Q (.lst l) (Sto.put sto l (.list true (xs.map D.int)))) : CallOK c (n + 1) (Str.ofString "_law_stream") [.int z, .int m] sto Q X := by
  refine fn_call CO EO RO hf (by simp [hp]) ?_
  unfold s__law_stream
  walk_at "mine"
  refine ⟨by simp [lim], fun l hl => ?_⟩
  walk_at "mine"
  refine o_mod (by decide) ?_
  walk_at "mine"
  refine g_for1 ?_
  walk_at "mine"
  refine ⟨by simp [smallI]; omega, _, rfl, ?_⟩
  refine forL_inv (fun k σ => ∃ (xs : List Int) (y : Int), xs.length = k ∧ (∀ x ∈ xs, 0 ≤ x ∧ x < 2147483647) ∧ σ.loc 2 = some (.lst l) ∧ σ.loc 3 = some (.int y) ∧ 0 ≤ y ∧ y < 4294967296 ∧ σ.sto l = some (.list true (xs.map D.int))) (fun _ _ => False) _ 0 _ ?_ (fun _ _ _ => trivial) ?_ (fun _ _ z => z.elim) ?_
  · have e : z.fmod 2147483647 = z % 2147483647 := Int.fmod_eq_emod_of_nonneg z (by decide)
    refine ⟨[], _, rfl, by simp, rfl, rfl, by omega, by omega, ?_⟩
    show Sto.put _ _ _ _ = _
    simp [Sto.put]
  · rintro i d σ K hd ⟨xs, y, hxl, hxs, h2, h3, hy0, hy1, hst⟩ hn hr
    obtain ⟨hi, hdd⟩ := rangeUp_get hd
    rw [Int.zero_add] at hdd
    subst hdd
    walk_at "mine"
    refine o_mul (mul_ok (k := 32) (by omega) (by omega) (by omega)) ?_
    walk_at "mine"
    refine o_mul (mul_ok (k := 32) (by omega) (by omega) (by omega)) ?_
    walk_at "mine"
    refine o_mod (by decide) ?_
    walk_at "mine"
    refine e_append ?_
    walk_at "mine"
    refine ⟨⟨l, _, rfl, hst⟩, ?_⟩
    walk_at "mine"
    refine ap_lst hst (by simp [lim]; omega) ?_
    walk_at "mine"
    refine hn _ ⟨xs ++ [(y * y + 48271 * y + i).fmod 2147483647], _, by simp [hxl], ?_, h2, rfl, ?_, ?_, ?_⟩
    · intro x hx
      have e : (y * y + 48271 * y + i).fmod 2147483647 = (y * y + 48271 * y + i) % 2147483647 := Int.fmod_eq_emod_of_nonneg _ (by decide)
      rcases List.mem_append.mp hx with hx | hx
      · exact hxs x hx
      · rw [List.mem_singleton.mp hx, e]; omega
    · have e : (y * y + 48271 * y + i).fmod 2147483647 = (y * y + 48271 * y + i) % 2147483647 := Int.fmod_eq_emod_of_nonneg _ (by decide)
      omega
    · have e : (y * y + 48271 * y + i).fmod 2147483647 = (y * y + 48271 * y + i) % 2147483647 := Int.fmod_eq_emod_of_nonneg _ (by decide)
      omega
    · show Sto.put _ _ _ _ = _
      simp [Sto.put]
  · rintro σ ⟨xs, y, hxl, hxs, h2, h3, hy0, hy1, hst⟩
    have hxl' : xs.length = m + 1 := by rw [hxl, rangeUp_len]; omega
    walk_at "mine"
    refine sl_lst hst rfl rfl (by simp [lim]; omega) fun b hb => ?_
    refine ret_list (l := b) (xs := (xs.drop 1).map D.int) ?_ fun hb' => h (xs.drop 1) b (by simp; omega) (fun x hx => hxs x (List.mem_of_mem_drop hx)) hb'
    show Sto.put _ _ _ _ = _
    simp only [Sto.put, if_true]
    rw [cutL_one, List.map_drop]

theorem call_law_divisor {n : Nat} {p v : List Str} (hf : FnIs c (Str.ofString "_law_divisor") p v s__law_divisor) (hp : p.length = 2) {a b : Int} (ha : 0 ≤ a) (hb : 0 ≤ b) {sto : Sto} {Q : D → Sto → Prop} {X : Str → Prop} (h : Q (.int (Int.gcd a b)) sto) : CallOK c (n + 1) (Str.ofString "_law_divisor") [.int a, .int b] sto Q X := by
  refine fn_call CO EO RO hf (by simp [hp]) ?_
  unfold s__law_divisor
  walk_at "mine"
  refine g_while (fun σ => ∃ x y : Int, σ.loc 0 = some (.int x) ∧ σ.loc 1 = some (.int y) ∧ 0 ≤ x ∧ 0 ≤ y ∧ Int.gcd y x = Int.gcd a b) (fun σ => match σ.loc 0 with | some (.int y) => y.toNat | _ => 0) ?_ ?_
  · exact ⟨a, b, rfl, rfl, ha, hb, Int.gcd_comm ..⟩
  rintro σ' ⟨x, y, h2, h3, hx, hy, hg⟩
  walk_at "mine"
  refine if_b (fun hb => ?_) fun hb => ?_
  · have hb' : x > 0 := by simpa using hb
    walk_at "mine"
    refine o_mod (by omega) ?_
    walk_at "mine"
    refine ⟨by simp [lim], _, rfl, rfl, ?_⟩
    walk_at "mine"
    have e : y.fmod x = y % x := Int.fmod_eq_emod_of_nonneg y hx
    have := Int.emod_nonneg y (show x ≠ 0 by omega)
    have := Int.emod_lt_of_pos y hb'
    refine ⟨⟨y.fmod x, x, rfl, rfl, by omega, hx, ?_⟩, ?_⟩
    · rw [e, ← hg, gcd_step hy hx]
    · show (y.fmod x).toNat < _
      rw [h2]
      show (y.fmod x).toNat < x.toNat
      omega
  · have hb' : x = 0 := by simp at hb; omega
    subst hb'
    walk_at "mine"
    refine ret_plain ?_
    have : y = (Int.gcd a b : Int) := by rw [← hg]; simp [Int.gcd]; omega
    rw [this]; exact h

theorem call_law_fraction {n : Nat} {p v p' v' : List Str} (hf : FnIs c (Str.ofString "_law_fraction") p v s__law_fraction) (hp : p.length = 2) (hd : FnIs c (Str.ofString "_law_divisor") p' v' s__law_divisor) (hp' : p'.length = 2) {t b : Int} (hb : b ≠ 0) {sto : Sto} {Q : D → Sto → Prop} {X : Str → Prop} (h : Q (frD (Rat.divInt t b)) sto) : CallOK c (n + 2) (Str.ofString "_law_fraction") [.int t, .int b] sto Q X := by
  refine fn_call CO EO RO hf (by simp [hp]) ?_
  unfold s__law_fraction
  walk_at "mine"
  have main : ∀ (σ : St) (t' b' : Int), σ.loc 0 = some (.int t') → σ.loc 1 = some (.int b') → 0 < b' → Rat.divInt t' b' = Rat.divInt t b →
      wSs c (n + 1) true [.assign 2 (.call (Str.ofString "_law_divisor") [.blt .abs [.var 0], .var 1]), .ret (.tup [.bin .FloorDiv (.var 0) (.var 2), .bin .FloorDiv (.var 1) (.var 2)])] (EndQ sto Q) (fun k _ => X k) σ := by
    intro σ t' b' h0 h1 hpos he
    have hg : (0 : Int) < Int.gcd t' b' := by
      have := Int.gcd_pos_of_ne_zero_right t' (show b' ≠ 0 by omega)
      omega
    have hg' : Int.gcd (t'.natAbs : Int) b' = Int.gcd t' b' := by simp [Int.gcd]
    walk_at "mine"
    refine e_call hd.isFn ?_
    walk_at "mine"
    refine call_law_divisor CO EO RO hd hp' (by omega) (by omega) ?_
    rw [hg']
    walk_at "mine"
    refine o_fdiv (by omega) ?_
    walk_at "mine"
    refine o_fdiv (by omega) ?_
    walk_at "mine"
    refine ⟨by simp [lim], ?_⟩
    walk_at "mine"
    refine ret_plain ?_
    have := h
    rw [← he] at this
    unfold frD at this
    rw [← rat_num (show b' ≠ 0 by omega), ← rat_den (show b' ≠ 0 by omega), if_neg (show ¬ b' < 0 by omega)] at this
    exact this
  refine if_b (fun hl => ?_) fun hl => ?_
  · have hl' : b < 0 := by simpa using hl
    walk_at "mine"
    exact main _ (-t) (-b) rfl rfl (by omega) (by rw [Rat.neg_divInt_neg])
  · have hl' : ¬ b < 0 := by simpa using hl
    walk_at "mine"
    exact main _ t b rfl rfl (by omega) rfl
end
end Mine

/-! ## L4 -/
namespace Mine
open PySem

def s__law_whole : List S := [
    .ret (.bool .And [.isa (.var 0) .int, .not (.isa (.var 0) .bool)])]
def s__law_is_fraction : List S := [
    .ifs (.bool .Or [.not (.isa (.var 0) .tuple), .cmp .NotEq (.blt .len [.var 0]) (.cint 2), .not (.call (Str.ofString "_law_whole") [.idx (.var 0) (.cint 0)]), .not (.call (Str.ofString "_law_whole") [.idx (.var 0) (.cint 1)])]) [.ret (.cbool false)] [],
    .ret (.bool .And [.cmp .Gt (.idx (.var 0) (.cint 1)) (.cint 0), .cmp .Eq (.call (Str.ofString "_law_divisor") [.blt .abs [.idx (.var 0) (.cint 0)], .idx (.var 0) (.cint 1)]) (.cint 1)])]
def s__law_number : List S := [
    .ifs (.cmp .Lt (.bin .Mod (.var 0) (.cint 8)) (.cint 5)) [.ret (.tup [.bin .Sub (.bin .Mod (.bin .FloorDiv (.var 0) (.cint 8)) (.cint 13)) (.cint 6), .cint 1])] [],
    .ifs (.cmp .Gt (.bin .Mod (.bin .FloorDiv (.var 0) (.cint 8)) (.cint 16)) (.cint 0)) [.ret (.call (Str.ofString "_law_fraction") [.bin .Sub (.bin .Mod (.bin .FloorDiv (.var 0) (.cint 128)) (.cint 25)) (.cint 12), .bin .Add (.cint 1) (.bin .Mod (.bin .FloorDiv (.var 0) (.cint 3200)) (.cint 9))])] [],
    .ret (.call (Str.ofString "_law_fraction") [.bin .Sub (.bin .Mod (.bin .FloorDiv (.bin .Mult (.var 0) (.var 0)) (.cint 128)) (.cint 2000001)) (.cint 1000000), .bin .Add (.cint 1) (.bin .Mod (.bin .FloorDiv (.var 0) (.cint 128)) (.idx (.lst [.cint 1, .cint 1000]) (.bin .Mod (.bin .FloorDiv (.var 0) (.cint 128000)) (.cint 2))))])]

/-- what isinstance may be asked of -/
def Kn (sto : Sto) : D → Prop
  | .lst a => ∃ k, sto a = some k
  | .exc _ _ _ => False
  | _ => True
theorem Kn.ro {sto : Sto} {d : D} (h : Kn sto d) : Kn (Sto.ro sto) d := by
  cases d <;> first | trivial | exact h.elim | skip
  obtain ⟨k, e⟩ := h
  exact ⟨k.ro, by unfold Sto.ro; rw [e]; rfl⟩
def isTupD : D → Bool
  | .tup _ => true
  | _ => false
def isIntD : D → Bool
  | .int _ => true
  | .bool _ => true
  | _ => false
def isBoolD : D → Bool
  | .bool _ => true
  | _ => false
def isWhD : D → Bool
  | .int _ => true
  | _ => false
section
variable {c : Cx} {Q : D → St → Prop} {σ : St} {d : D}
theorem isa_tup (k : Kn σ.sto d) (h : Q (.bool (isTupD d)) σ) : opIsa c d .tuple Q σ := by
  cases d <;> first | exact ⟨trivial, h⟩ | exact k.elim | (obtain ⟨x, e⟩ := k; exact ⟨trivial, x, e, h⟩)
theorem isa_int (k : Kn σ.sto d) (h : Q (.bool (isIntD d)) σ) : opIsa c d .int Q σ := by
  cases d <;> first | exact ⟨trivial, h⟩ | exact k.elim | (obtain ⟨x, e⟩ := k; exact ⟨trivial, x, e, h⟩)
theorem isa_bool (k : Kn σ.sto d) (h : Q (.bool (isBoolD d)) σ) : opIsa c d .bool Q σ := by
  cases d <;> first | exact ⟨trivial, h⟩ | exact k.elim | (obtain ⟨x, e⟩ := k; exact ⟨trivial, x, e, h⟩)
end
/-- is it a fraction as the text wants it? -/
def isFrD : D → Bool
  | .tup [.int a, .int b] => decide (b > 0) && (Int.gcd a b == 1)
  | _ => false
def KnT (sto : Sto) : D → Prop
  | .tup ds => ds.length ≤ 1000 ∧ ∀ x ∈ ds, Kn sto x
  | d => Kn sto d
theorem isFr_frD (r : Rat) : isFrD (frD r) = true := by
  unfold frD isFrD
  have h1 := r.den_pos
  have h2 : Int.gcd r.num r.den = 1 := by
    have := r.reduced
    simpa [Nat.Coprime, Int.gcd] using this
  simp [h2, h1]
section
variable {c : Cx} (CO : CxOK c) (EO : ExcOK c) (RO : RzOK c)
include CO EO RO

theorem call_whole {n : Nat} {f : Str} {p v : List Str} (hf : FnIs c f p v s__law_whole) (hp : p.length = 1) {d : D} {sto : Sto} (k : Kn sto d) {Q : D → Sto → Prop} {X : Str → Prop} (h : Q (.bool (isWhD d)) sto) : CallOK c (n + 1) f [d] sto Q X := by
  refine fn_call CO EO RO hf (by simp [hp]) ?_
  unfold s__law_whole
  have k' := k.ro
  walk_at "mine"
  refine isa_int k' ?_
  walk_at "mine"
  refine if_and (fun hb => ?_) fun hb => ?_
  · have : isWhD d = isIntD d := by cases d <;> simp_all [isWhD, isIntD]
    rw [this] at h
    exact ret_plain h
  · walk_at "mine"
    refine isa_bool k' ?_
    walk_at "mine"
    have : isWhD d = !isBoolD d := by cases d <;> simp_all [isWhD, isIntD, isBoolD]
    rw [this] at h
    exact ret_plain h

theorem call_law_is_fraction {n : Nat} {p v p' v' p'' v'' : List Str} (hf : FnIs c (Str.ofString "_law_is_fraction") p v s__law_is_fraction) (hp : p.length = 1) (hd : FnIs c (Str.ofString "_law_divisor") p' v' s__law_divisor) (hp' : p'.length = 2) (hw : FnIs c (Str.ofString "_law_whole") p'' v'' s__law_whole) (hp'' : p''.length = 1)
    {d : D} {sto : Sto} (k : KnT sto d) {Q : D → Sto → Prop} {X : Str → Prop} (h : Q (.bool (isFrD d)) sto) : CallOK c (n + 2) (Str.ofString "_law_is_fraction") [d] sto Q X := by
  refine fn_call CO EO RO hf (by simp [hp]) ?_
  unfold s__law_is_fraction
  have k0 : Kn (Sto.ro sto) d := by cases d <;> first | exact Kn.ro k | trivial
  walk_at "mine"
  refine isa_tup k0 ?_
  walk_at "mine"
  refine if_or (fun hb => ?_) fun hb => ?_
  · refine if_b (fun _ => ?_) fun z => ?_
    · walk_at "mine"
      refine ret_plain ?_
      have : isFrD d = false := by cases d <;> simp_all [isTupD, isFrD]
      rw [this] at h
      exact h
    · rw [hb] at z; cases z
  cases d <;> first | (simp [isTupD] at hb; done) | skip
  rename_i ds
  obtain ⟨hlen, hkn⟩ := k
  walk_at "mine"
  refine f_lenT (by simp [lim]; omega) ?_
  walk_at "mine"
  refine if_or (fun hb => ?_) fun hb => ?_
  · refine if_b (fun _ => ?_) fun z => ?_
    · walk_at "mine"
      refine ret_plain ?_
      have : isFrD (.tup ds) = false := by
        unfold isFrD
        split
        · rename_i e; cases e; simp at hb
        · rfl
      rw [this] at h
      exact h
    · rw [hb] at z; cases z
  have hl2 : ds.length = 2 := by simp at hb; omega
  match ds, hl2 with
  | [x, y], _ =>
  walk_at "mine"
  refine e_call hw.isFn ?_
  walk_at "mine"
  refine i_tup (by simp [lim]) rfl ?_
  walk_at "mine"
  refine call_whole CO EO RO hw hp'' (hkn x (by simp)).ro ?_
  walk_at "mine"
  refine if_or (fun hb => ?_) fun hx => ?_
  · refine if_b (fun _ => ?_) fun z => ?_
    · walk_at "mine"
      refine ret_plain ?_
      have : isFrD (.tup [x, y]) = false := by cases x <;> simp_all [isWhD, isFrD]
      rw [this] at h
      exact h
    · rw [hb] at z; cases z
  walk_at "mine"
  refine e_call hw.isFn ?_
  walk_at "mine"
  refine i_tup (by simp [lim]) rfl ?_
  walk_at "mine"
  refine call_whole CO EO RO hw hp'' (hkn y (by simp)).ro ?_
  walk_at "mine"
  refine if_or (fun hb => ?_) fun hy => ?_
  · refine if_b (fun _ => ?_) fun z => ?_
    · walk_at "mine"
      refine ret_plain ?_
      have : isFrD (.tup [x, y]) = false := by cases x <;> cases y <;> simp_all [isWhD, isFrD]
      rw [this] at h
      exact h
    · rw [hb] at z; cases z
  obtain ⟨x, rfl⟩ : ∃ i, x = .int i := by cases x <;> simp_all [isWhD]
  obtain ⟨y, rfl⟩ : ∃ i, y = .int i := by cases y <;> simp_all [isWhD]
  walk_at "mine"
  refine if_b (fun z => by cases z) fun _ => ?_
  walk_at "mine"
  refine i_tup (by simp [lim]) rfl ?_
  walk_at "mine"
  refine if_and (fun hb => ?_) fun hb => ?_
  · refine ret_plain ?_
    have : isFrD (.tup [.int x, .int y]) = false := by
      simp only [isFrD]; rw [hb]; rfl
    rw [this] at h
    rw [hb]; exact h
  have hy0 : y > 0 := by simpa using hb
  walk_at "mine"
  refine e_call hd.isFn ?_
  walk_at "mine"
  refine i_tup (by simp [lim]) rfl ?_
  walk_at "mine"
  refine i_tup (by simp [lim]) rfl ?_
  walk_at "mine"
  refine call_law_divisor CO EO RO hd hp' (by omega) (by omega) ?_
  walk_at "mine"
  refine ret_plain ?_
  have e1 : Int.gcd (x.natAbs : Int) y = Int.gcd x y := by simp [Int.gcd]
  have e2 : isFrD (.tup [.int x, .int y]) = ((Int.gcd x y : Int) == 1) := by
    simp only [isFrD]
    rw [hb, Bool.true_and]
    cases z : (Int.gcd x y == 1) with
    | true => symm; rw [beq_iff_eq] at z ⊢; omega
    | false => symm; rw [beq_eq_false_iff_ne] at z ⊢; omega
  rw [e1]
  rw [e2] at h
  exact h

/-- the numbers that the law draws -/
theorem call_law_number {n : Nat} {p v p' v' p'' v'' : List Str} (hf : FnIs c (Str.ofString "_law_number") p v s__law_number) (hp : p.length = 1) (hd : FnIs c (Str.ofString "_law_divisor") p' v' s__law_divisor) (hp' : p'.length = 2) (hw : FnIs c (Str.ofString "_law_fraction") p'' v'' s__law_fraction) (hp'' : p''.length = 2)
    {x : Int} (hx : 0 ≤ x ∧ x < 2147483647) {sto : Sto} {Q : D → Sto → Prop} {X : Str → Prop} (h : ∀ r : Rat, r.num.natAbs ≤ 1000000 → r.den ≤ 1000 → Q (frD r) sto) : CallOK c (n + 3) (Str.ofString "_law_number") [.int x] sto Q X := by
  refine fn_call CO EO RO hf (by simp [hp]) ?_
  unfold s__law_number
  have fm : ∀ (a : Int) (b : Int), 0 < b → a.fmod b = a % b := fun a b hb => Int.fmod_eq_emod_of_nonneg a (by omega)
  have fr : ∀ (t b : Int), b ≠ 0 → t.natAbs ≤ 1000000 → b.natAbs ≤ 1000 → (Rat.divInt t b).num.natAbs ≤ 1000000 ∧ (Rat.divInt t b).den ≤ 1000 := fun t b hb h1 h2 => by
    rw [Rat.num_divInt, Rat.den_divInt, if_neg hb]
    refine ⟨?_, Nat.le_trans (Nat.div_le_self _ _) h2⟩
    refine Nat.le_trans (Int.natAbs_ediv_le_natAbs _ _) ?_
    rw [Int.natAbs_mul]
    have : b.sign.natAbs = 1 := by rw [Int.natAbs_sign_of_ne_zero hb]
    rw [this, Nat.one_mul]; exact h1
  have key : ∀ i : Int, i.natAbs ≤ 1000000 → Q (.tup [.int i, .int 1]) sto := fun i hi => by
    have := h (i : Rat) (by simpa using hi) (by simp)
    simpa [frD] using this
  walk_at "mine"
  refine o_mod (by decide) ?_
  walk_at "mine"
  refine if_b (fun hb => ?_) fun hb => ?_
  · walk_at "mine"
    refine o_fdiv (by decide) ?_
    walk_at "mine"
    refine o_mod (by decide) ?_
    walk_at "mine"
    refine ⟨by simp [lim], ?_⟩
    walk_at "mine"
    refine ret_plain ?_
    exact key _ (by rw [fm _ _ (by decide)]; omega)
  walk_at "mine"
  refine o_fdiv (by decide) ?_
  walk_at "mine"
  refine o_mod (by decide) ?_
  walk_at "mine"
  refine if_b (fun hb => ?_) fun hb => ?_
  · walk_at "mine"
    refine e_call hw.isFn ?_
    walk_at "mine"
    refine o_fdiv (by decide) ?_
    walk_at "mine"
    refine o_mod (by decide) ?_
    walk_at "mine"
    refine o_fdiv (by decide) ?_
    walk_at "mine"
    refine o_mod (by decide) ?_
    walk_at "mine"
    have e1 := fm (x.fdiv 128) 25 (by decide)
    have e2 := fm (x.fdiv 3200) 9 (by decide)
    refine call_law_fraction CO EO RO hw hp'' hd hp' (by omega) ?_
    obtain ⟨f1, f2⟩ := fr ((x.fdiv 128).fmod 25 - 12) (1 + (x.fdiv 3200).fmod 9) (by omega) (by omega) (by omega)
    exact ret_plain (h _ f1 f2)
  walk_at "mine"
  refine e_call hw.isFn ?_
  walk_at "mine"
  refine o_mul (mul_ok (k := 32) (by omega) (by omega) (by omega)) ?_
  walk_at "mine"
  refine o_fdiv (by decide) ?_
  walk_at "mine"
  refine o_mod (by decide) ?_
  walk_at "mine"
  refine o_fdiv (by decide) ?_
  walk_at "mine"
  refine ⟨by simp [lim], fun l hl => ?_⟩
  walk_at "mine"
  refine o_fdiv (by decide) ?_
  walk_at "mine"
  refine o_mod (by decide) ?_
  have e3 := fm (x.fdiv 128000) 2 (by decide)
  have e1 := fm ((x * x).fdiv 128) 2000001 (by decide)
  have hst : ∀ σ : St, (σ.put l (.list true [.int 1, .int 1000])).sto l = some (.list true [.int 1, .int 1000]) := fun σ => by simp [St.put, Sto.put]
  have tail : ∀ k : Int, (k = 1 ∨ k = 1000) → ∀ σ : St, opBin .Mod (.int (x.fdiv 128)) (.int k) (fun y σ₂ => opBin .Add (.int 1) y (fun d σ₁ => wEs c (n + 2) true [] (fun ds σ₂ => CallOK c (n + 2) (Str.ofString "_law_fraction") (D.int (((x * x).fdiv 128).fmod 2000001 - 1000000) :: d :: ds) σ₂.sto (fun d sto' => EndQ sto Q (.ret d) { σ₂ with sto := sto' }) X) (fun k _ => X k) σ₁) σ₂) σ := fun k hk σ => by
    refine o_mod (by omega) ?_
    walk_at "mine"
    have e2 := fm (x.fdiv 128) k (by omega)
    have := Int.emod_nonneg (x.fdiv 128) (show k ≠ 0 by omega)
    have := Int.emod_lt_of_pos (x.fdiv 128) (show 0 < k by omega)
    refine call_law_fraction CO EO RO hw hp'' hd hp' (by omega) ?_
    obtain ⟨f1, f2⟩ := fr (((x * x).fdiv 128).fmod 2000001 - 1000000) (1 + (x.fdiv 128).fmod k) (by omega) (by omega) (by omega)
    exact ret_plain (h _ f1 f2)
  rcases (by omega : (x.fdiv 128000).fmod 2 = 0 ∨ (x.fdiv 128000).fmod 2 = 1) with z | z
  · rw [z]
    exact i_lst (hst _) (by simp [lim]) rfl (tail 1 (.inl rfl) _)
  · rw [z]
    exact i_lst (hst _) (by simp [lim]) rfl (tail 1000 (.inr rfl) _)
end
end Mine

/-! ## L5 -/
namespace Mine
open PySem

theorem put_same {s : Sto} {l : Addr} {k : Cell} : Sto.put s l k l = some k := by simp [Sto.put]
theorem put_ne {s : Sto} {l l' : Addr} {k : Cell} (h : l' ≠ l) : Sto.put s l k l' = s l' := by simp [Sto.put, h]
theorem put_old {s : Sto} {l l' : Addr} {k k' : Cell} (h : s l = none) (h' : s l' = some k') : Sto.put s l k l' = some k' := by
  rw [put_ne (fun z => by rw [z, h] at h'; cases h')]; exact h'
/-- the numbers in a law's own words -/
structure LNums (c : Cx) : Prop where
  cell_at : ∃ p v, FnIs c (Str.ofString "_law_cell_at") p v s__law_cell_at ∧ p.length = 2
  stream : ∃ p v, FnIs c (Str.ofString "_law_stream") p v s__law_stream ∧ p.length = 2
  whole : ∃ p v, FnIs c (Str.ofString "_law_whole") p v s__law_whole ∧ p.length = 1
  divisor : ∃ p v, FnIs c (Str.ofString "_law_divisor") p v s__law_divisor ∧ p.length = 2
  fraction : ∃ p v, FnIs c (Str.ofString "_law_fraction") p v s__law_fraction ∧ p.length = 2
  is_fraction : ∃ p v, FnIs c (Str.ofString "_law_is_fraction") p v s__law_is_fraction ∧ p.length = 1
  number : ∃ p v, FnIs c (Str.ofString "_law_number") p v s__law_number ∧ p.length = 1

theorem rs_of {x : Rat} (h1 : x.num.natAbs ≤ 1000000) (h2 : x.den ≤ 1000) : RS 20 x := ⟨by omega, by omega⟩
theorem knT_frD {sto : Sto} (r : Rat) : KnT sto (frD r) := by
  refine ⟨by simp, fun z hz => ?_⟩
  simp at hz
  rcases hz with rfl | rfl <;> trivial
section
open PySem.W PyProof.Rows
theorem ints_reps {h : Heap} : ∀ {vs : List Value} {is : List Int}, IntsAre vs is → Reps h vs (is.map D.int) := by
  intro vs is hI
  induction hI with
  | nil => exact .nil
  | cons => rename_i ih; exact .cons (.int _ _) ih
/-- a law that answers True -/
theorem law_end {c : Cx} {f : Str} {fa la : Addr} {vs : List Value} {is : List Int} {n : Nat} {s₁ : Shared} {P : Value → Shared → Prop} {E : Value → Shared → Prop} (hB : c.B = s₁.heap) (hmg : c.mg f = some (.ref fa)) (hL : s₁.heap.IsList la vs.toArray) (hI : IntsAre vs is) (hn : n < 100)
    (h : CallOK c n f [.lst la] (fun b => if b = la then some (.list false (is.map D.int)) else none) (fun d _ => d = .bool true) fun _ => False)
    (hP : ∀ h' t, (∀ b o, s₁.heap.get? b = some o → h'.get? b = some o) → P (.bool true) { s₁ with heap := h', toks := t }) :
    wpAny (model c.prog c.w) callerA (call (.ref fa) [.ref la]) P E s₁ := by
  obtain ⟨a, o, fd, h1, h2, h3, h4⟩ := h
  rw [hmg] at h1; cases h1
  refine wpAny_call (codeAny_mono (h4 callerA [] s₁ [.ref la] rfl rfl (by show 301 + n < 800; omega) (by show 4 + 4 * n < 9000; omega) (fun b o e => by rw [hB] at e; exact e) (fun env he => by cases he) (.cons (.lst la) .nil) fun b k e => ?_) fun r s' hr => ?_)
  · by_cases hb : b = la
    · subst hb
      have e' : some (Cell.list false (is.map D.int)) = some k := by simpa using e
      cases e'
      exact ⟨s₁.heap, vs, hL, (fun z => nomatch z), ints_reps hI⟩
    · have e' : (none : Option Cell) = some k := by simpa [hb] using e
      cases e'
  · obtain ⟨⟨h', t, rfl⟩, _, hk, hr⟩ := hr
    match r, hr with
    | .ok (.ret v), ⟨d, sto', rv, _, hd⟩ =>
      subst hd
      cases rv
      exact hP h' t fun b o e => hk.exact e (.inl (by simp [fsOf]))
    | .error e, ⟨ea, nm, C, t, _, _, hx, _⟩ => exact hx.elim
end
end Mine

/-! ## R1 -/
namespace Mine
open PySem

def rowD (p : List Rat) : D := .tup (p.map frD)
/-- all parts short -/
def RSs (k : Nat) (p : List Rat) : Prop := ∀ i, RS k (cf p i)
theorem mul_ok2 {a b : Int} {k l : Nat} (ha : a.natAbs < 2 ^ k) (hb : b.natAbs < 2 ^ l) (hk : k + l ≤ 67108864) : IntMulOk a b := by
  have bits : ∀ (x : Int) (k : Nat), x.natAbs < 2 ^ k → Builtin.Int.intBits x ≤ k := fun x k hx => by
    unfold Builtin.Int.intBits
    split
    · exact Nat.zero_le _
    · rename_i h0
      have hn : x.natAbs ≠ 0 := fun z => h0 (by simpa using z)
      have := (Nat.log2_lt hn).mpr hx
      omega
  have h1 := bits a k ha
  have h2 := bits b l hb
  unfold IntMulOk
  have : Builtin.Int.intTooBig (Builtin.Int.intBits a + Builtin.Int.intBits b) = false := by
    unfold Builtin.Int.intTooBig
    have : (bitsLine : Int) ≥ 67108864 := by decide
    simp only [decide_eq_false_iff_not]
    omega
  rw [this]; simp
theorem rs_add {k l : Nat} {x y : Rat} (hx : RS k x) (hy : RS l y) : RS (k + l + 1) (x + y) := by
  rw [← rat_sum]
  refine rs_divInt (Int.mul_ne_zero (den_ne x) (den_ne y)) ?_ ?_
  · have h1 := pow_mul hx.1 (den_nat hy)
    have h2 := pow_mul hy.1 (den_nat hx)
    rw [Nat.add_comm l k] at h2
    have h3 : (x.num * y.den + y.num * x.den).natAbs ≤ (x.num * y.den).natAbs + (y.num * x.den).natAbs := Int.natAbs_add_le _ _
    rw [Nat.pow_succ]; omega
  · have := pow_mul (den_nat hx) (den_nat hy)
    rw [Nat.pow_succ]; omega
theorem rs_mulR {k l : Nat} {x y : Rat} (hx : RS k x) (hy : RS l y) : RS (k + l) (x * y) := by
  rw [← rat_mul]
  exact rs_divInt (Int.mul_ne_zero (den_ne x) (den_ne y)) (pow_mul hx.1 hy.1) (pow_mul (den_nat hx) (den_nat hy))

theorem nth_row {p : List Rat} {i : Nat} (h : i < p.length) : nth (p.map frD) (i : Int) = some (frD (cf p i)) := by
  unfold nth
  rw [if_pos (by omega), Int.toNat_natCast, List.getElem?_map, List.getElem?_eq_getElem h, cf_lt h]
  rfl
theorem i_row {p : List Rat} {i : Nat} {Q : D → St → Prop} {σ : St} (hl : p.length ≤ 1000) (h : i < p.length) (hq : Q (frD (cf p i)) σ) : opIdx (rowD p) (.int i) Q σ := i_tup (by rw [List.length_map]; unfold lim; omega) (nth_row h) hq
theorem i_rowL {p : List Rat} {i : Nat} {l : Addr} {o : Bool} {Q : D → St → Prop} {σ : St} (e : σ.sto l = some (.list o (p.map frD))) (hl : p.length ≤ 1000) (h : i < p.length) (hq : Q (frD (cf p i)) σ) : opIdx (.lst l) (.int i) Q σ := i_lst e (by rw [List.length_map]; unfold lim; omega) (nth_row h) hq
theorem f_lenR {p : List Rat} {Q : D → St → Prop} {σ : St} (hl : p.length ≤ 1000) (h : Q (.int p.length) σ) : opBlt .len [rowD p] Q σ := f_lenT (by rw [List.length_map]; unfold lim; omega) (by rw [List.length_map]; exact h)
theorem set_row (p : List Rat) (k : Nat) (v : Rat) : (p.map frD).set k (frD v) = (p.set k v).map frD := by rw [List.map_set]
theorem eq_fr (x y : Rat) : eqD 50 (frD x) (frD y) = some (x == y) := by
  have e : eqD 50 (frD x) (frD y) = some ((x.num == y.num) && ((x.den : Int) == (y.den : Int) && true)) := rfl
  rw [e]
  congr 1
  by_cases h : x = y
  · subst h; simp
  · rw [beq_eq_false_iff_ne.mpr h]
    cases h1 : (x.num == y.num) with
    | false => rfl
    | true =>
      cases h2 : ((x.den : Int) == (y.den : Int)) with
      | false => rfl
      | true =>
        have h1 := beq_iff_eq.mp h1
        have h2 : (x.den : Int) = y.den := beq_iff_eq.mp h2
        exact absurd (Rat.ext h1 (by omega)) h
theorem eq_fr49 (x y : Rat) : eqD 49 (frD x) (frD y) = some (x == y) := by
  have e : eqD 49 (frD x) (frD y) = some ((x.num == y.num) && ((x.den : Int) == (y.den : Int) && true)) := rfl
  exact e.trans (eq_fr x y)
theorem eqL_rows : ∀ (p q : List Rat), eqL (eqD 49) (p.map frD) (q.map frD) = some (p == q)
  | [], [] => rfl
  | [], _ :: _ => rfl
  | _ :: _, [] => rfl
  | x :: p, y :: q => by
    show (match eqD 49 (frD x) (frD y) with | some x => (match eqL (eqD 49) (p.map frD) (q.map frD) with | some y => some (x && y) | none => none) | none => none) = _
    rw [eq_fr49, eqL_rows p q]
    rfl
theorem eq_rows {τ : Sto} (p q : List Rat) : eqTop τ (rowD p) (rowD q) = some (p == q) := eqL_rows p q
theorem eq_frs {τ : Sto} (x y : Rat) : eqTop τ (frD x) (frD y) = some (x == y) := eq_fr x y

/-- a name that makes fractions -/
def FrOK (c : Cx) (n : Nat) (g : Str) : Prop := IsFn c g ∧ ∀ (t b : Int) (m : Nat) (sto : Sto) (Q : D → Sto → Prop) (X : Str → Prop), n ≤ m → b ≠ 0 → Q (frD (Rat.divInt t b)) sto → CallOK c m g [.int t, .int b] sto Q X
def s_sum (g : Str) : List S := [.ret (.call g [.bin .Add (.bin .Mult (.idx (.var 0) (.cint 0)) (.idx (.var 1) (.cint 1))) (.bin .Mult (.idx (.var 1) (.cint 0)) (.idx (.var 0) (.cint 1))), .bin .Mult (.idx (.var 0) (.cint 1)) (.idx (.var 1) (.cint 1))])]
def s_prod (g : Str) : List S := [.ret (.call g [.bin .Mult (.idx (.var 0) (.cint 0)) (.idx (.var 1) (.cint 0)), .bin .Mult (.idx (.var 0) (.cint 1)) (.idx (.var 1) (.cint 1))])]
/-- a name that sums, and one that multiplies -/
def SumOK (c : Cx) (n : Nat) (g : Str) : Prop := IsFn c g ∧ ∀ (x y : Rat) (k l m : Nat) (sto : Sto) (Q : D → Sto → Prop) (X : Str → Prop), n ≤ m → RS k x → RS l y → k + l ≤ 67108864 → Q (frD (x + y)) sto → CallOK c m g [frD x, frD y] sto Q X
def ProdOK (c : Cx) (n : Nat) (g : Str) : Prop := IsFn c g ∧ ∀ (x y : Rat) (k l m : Nat) (sto : Sto) (Q : D → Sto → Prop) (X : Str → Prop), n ≤ m → RS k x → RS l y → k + l ≤ 67108864 → Q (frD (x * y)) sto → CallOK c m g [frD x, frD y] sto Q X

section
variable {c : Cx} (CO : CxOK c) (EO : ExcOK c) (RO : RzOK c)
include CO EO RO

theorem fr_ok {p v p' v' : List Str} (hf : FnIs c (Str.ofString "fraction") p v s_fraction) (hp : p.length = 2) (hd : FnIs c (Str.ofString "divisor_of") p' v' s_divisor_of) (hp' : p'.length = 2) : FrOK c 2 (Str.ofString "fraction") := by
  refine ⟨hf.isFn, fun t b m sto Q X hm hb0 h => ?_⟩
  obtain ⟨n, rfl⟩ : ∃ n, m = n + 2 := ⟨m - 2, by omega⟩
  refine fn_call CO EO RO hf (by simp [hp]) ?_
  have hg : (0 : Int) < Int.gcd t b := by
    have := Int.gcd_pos_of_ne_zero_right t hb0
    omega
  unfold s_fraction
  walk_at "mine"
  refine if_b (fun hb => absurd (by simpa using hb) hb0) fun hb => ?_
  walk_at "mine"
  refine e_call hd.isFn ?_
  walk_at "mine"
  refine call_divisor_of CO EO RO hd hp' ?_
  walk_at "mine"
  refine if_b (fun hl => ?_) fun hl => ?_
  · have hl' : b < 0 := by simpa using hl
    walk_at "mine"
    refine o_fdiv (by omega) ?_
    walk_at "mine"
    refine o_fdiv (by omega) ?_
    walk_at "mine"
    refine ⟨by simp [lim], ?_⟩
    walk_at "mine"
    refine ret_plain ?_
    unfold frD at h
    rw [← rat_num hb0, ← rat_den hb0, if_pos hl'] at h
    exact h
  · have hl' : ¬ b < 0 := by simpa using hl
    walk_at "mine"
    refine o_fdiv (by omega) ?_
    walk_at "mine"
    refine o_fdiv (by omega) ?_
    walk_at "mine"
    refine ⟨by simp [lim], ?_⟩
    walk_at "mine"
    refine ret_plain ?_
    unfold frD at h
    rw [← rat_num hb0, ← rat_den hb0, if_neg hl'] at h
    exact h
theorem fr_law {p v p' v' : List Str} (hf : FnIs c (Str.ofString "_law_fraction") p v s__law_fraction) (hp : p.length = 2) (hd : FnIs c (Str.ofString "_law_divisor") p' v' s__law_divisor) (hp' : p'.length = 2) : FrOK c 2 (Str.ofString "_law_fraction") := by
  refine ⟨hf.isFn, fun t b m sto Q X hm hb0 h => ?_⟩
  obtain ⟨n, rfl⟩ : ∃ n, m = n + 2 := ⟨m - 2, by omega⟩
  exact call_law_fraction CO EO RO hf hp hd hp' hb0 h

theorem sum_ok {f g : Str} {p v : List Str} (hf : FnIs c f p v (s_sum g)) (hp : p.length = 2) (hg : FrOK c 2 g) : SumOK c 3 f := by
  refine ⟨hf.isFn, fun x y k l m sto Q X hm hx hy hk h => ?_⟩
  obtain ⟨n, rfl⟩ : ∃ n, m = n + 1 := ⟨m - 1, by omega⟩
  refine fn_call CO EO RO hf (by simp [hp]) ?_
  unfold s_sum
  walk_at "mine"
  refine e_call hg.1 ?_
  walk_at "mine"
  refine o_mul (mul_ok2 hx.1 (den_nat hy) hk) ?_
  walk_at "mine"
  refine o_mul (mul_ok2 hy.1 (den_nat hx) (by omega)) ?_
  walk_at "mine"
  refine o_mul (mul_ok2 (den_nat hx) (den_nat hy) hk) ?_
  walk_at "mine"
  refine hg.2 _ _ _ _ _ _ (by omega) (Int.mul_ne_zero (den_ne x) (den_ne y)) ?_
  rw [rat_sum]
  exact ret_plain h
theorem prod_ok {f g : Str} {p v : List Str} (hf : FnIs c f p v (s_prod g)) (hp : p.length = 2) (hg : FrOK c 2 g) : ProdOK c 3 f := by
  refine ⟨hf.isFn, fun x y k l m sto Q X hm hx hy hk h => ?_⟩
  obtain ⟨n, rfl⟩ : ∃ n, m = n + 1 := ⟨m - 1, by omega⟩
  refine fn_call CO EO RO hf (by simp [hp]) ?_
  unfold s_prod
  walk_at "mine"
  refine e_call hg.1 ?_
  walk_at "mine"
  refine o_mul (mul_ok2 hx.1 hy.1 hk) ?_
  walk_at "mine"
  refine o_mul (mul_ok2 (den_nat hx) (den_nat hy) hk) ?_
  walk_at "mine"
  refine hg.2 _ _ _ _ _ _ (by omega) (Int.mul_ne_zero (den_ne x) (den_ne y)) ?_
  rw [rat_mul]
  exact ret_plain h
end
end Mine

/-! ## R2 -/
namespace Mine
open PySem

def s_trimmed : List S := [
    .assign 1 (.blt .len [.var 0]),
    .whiles (.bool .And [.cmp .Gt (.var 1) (.cint 0), .cmp .Eq (.idx (.var 0) (.bin .Sub (.var 1) (.cint 1))) (.glob (Str.ofString "ZERO"))]) [.assign 1 (.bin .Sub (.var 1) (.cint 1))],
    .ret (.blt .tuple [.slice (.var 0) none (some (.var 1))])]
def s__law_trim : List S := [
    .whiles (.bool .And [.cmp .Gt (.blt .len [.var 0]) (.cint 0), .cmp .Eq (.idx (.idx (.var 0) (.neg (.cint 1))) (.cint 0)) (.cint 0)]) [.assign 0 (.slice (.var 0) none (some (.neg (.cint 1))))],
    .ret (.blt .tuple [.var 0])]

/-- a name that drops the zeros at the end -/
def TrimOK (c : Cx) (n : Nat) (g : Str) : Prop := IsFn c g ∧ ∀ (p : List Rat) (l : Addr) (o : Bool) (m : Nat) (sto : Sto) (Q : D → Sto → Prop) (X : Str → Prop), n ≤ m → sto l = some (.list o (p.map frD)) → p.length ≤ 1000 → Q (rowD (trimL p)) sto → CallOK c m g [.lst l] sto Q X
theorem ro_at {sto : Sto} {l : Addr} {o : Bool} {xs : List D} (h : sto l = some (.list o xs)) : Sto.ro sto l = some (.list false xs) := by unfold Sto.ro; rw [h]; rfl
theorem cut_take {α : Type} (l : List α) (s : Nat) (h : s ≤ l.length) : cutL l none (some (s : Int)) = l.take s := by
  unfold cutL cutAt
  simp only
  rw [if_pos (by omega), Int.toNat_natCast, Nat.min_eq_left h, List.drop_zero]
theorem cut_last {α : Type} (l : List α) (h : 1 ≤ l.length) : cutL l none (some (-1)) = l.take (l.length - 1) := by
  unfold cutL cutAt
  simp only
  rw [if_neg (by decide), List.drop_zero]
  congr 1
  omega
theorem rw_take {p : List Rat} {s : Nat} (hs : s ≤ p.length) (h : s = 0 ∨ cf p (s - 1) ≠ 0) : Rw (p.take s) := by
  rcases h with rfl | h
  · exact .inl rfl
  · by_cases z : s = 0
    · subst z; exact .inl rfl
    · refine .inr ?_
      rw [List.length_take, Nat.min_eq_left hs]
      unfold cf
      rw [List.getElem?_take_of_lt (by omega)]
      exact h

section
variable {c : Cx} (CO : CxOK c) (EO : ExcOK c) (RO : RzOK c)
include CO EO RO

theorem trimmed_ok (hz : c.cs (Str.ofString "ZERO") = some (frD 0)) {p v : List Str} (hf : FnIs c (Str.ofString "trimmed") p v s_trimmed) (hp : p.length = 1) : TrimOK c 1 (Str.ofString "trimmed") := by
  refine ⟨hf.isFn, fun p l o m sto Q X hm hl hlen h => ?_⟩
  obtain ⟨n, rfl⟩ : ∃ n, m = n + 1 := ⟨m - 1, by omega⟩
  refine fn_call CO EO RO hf (by simp [hp]) ?_
  have hl' := ro_at hl
  have hlim : (p.map frD).length ≤ lim := by rw [List.length_map]; unfold lim; omega
  have tail : ∀ (σ : St) (s : Nat), σ.loc 0 = some (.lst l) → σ.loc 1 = some (.int s) → σ.sto l = some (.list false (p.map frD)) → s ≤ p.length → (∀ i, s ≤ i → cf p i = 0) → (s = 0 ∨ cf p (s - 1) ≠ 0) →
      wSs c n true [.ret (.blt .tuple [.slice (.var 0) none (some (.var 1))])] (EndQ sto Q) (fun k _ => X k) σ := fun σ s h0 h1 h2 hs hzz hn => by
    walk_at "mine"
    refine sl_lst h2 rfl rfl hlim fun b hb => ?_
    walk_at "mine"
    refine f_tupL (o := true) (xs := (p.take s).map frD) ?_ (by rw [List.length_map, List.length_take]; unfold lim; omega) ?_
    · show Sto.put _ _ _ _ = _
      rw [put_same, cut_take _ _ (by rw [List.length_map]; exact hs), List.map_take]
    · walk_at "mine"
      refine ret_plain ?_
      rw [trim_eq (rw_take hs hn) (cf_take hzz)]
      exact h
  unfold s_trimmed
  walk_at "mine"
  refine f_lenL hl' hlim ?_
  rw [List.length_map]
  walk_at "mine"
  refine g_while (fun σ => ∃ s : Nat, σ.loc 0 = some (.lst l) ∧ σ.loc 1 = some (.int s) ∧ σ.sto l = some (.list false (p.map frD)) ∧ s ≤ p.length ∧ ∀ i, s ≤ i → cf p i = 0) (fun σ => match σ.loc 1 with | some (.int y) => y.toNat | _ => 0) ?_ ?_
  · exact ⟨p.length, rfl, rfl, hl', Nat.le_refl _, fun i hi => cf_ge hi⟩
  rintro σ' ⟨s, h0, h1, h2, hs, hzz⟩
  walk_at "mine"
  refine if_and (fun hb => ?_) fun hb => ?_
  · refine if_b (fun z => by rw [hb] at z; cases z) fun _ => ?_
    have : s = 0 := by simpa using hb
    exact tail σ' s h0 h1 h2 hs hzz (.inl this)
  have hs0 : 0 < s := by simpa using hb
  walk_at "mine"
  rw [show (s : Int) - 1 = ((s - 1 : Nat) : Int) by omega]
  refine i_rowL h2 hlen (by omega) ?_
  refine e_glob hz ?_
  refine c_eqD (eq_frs _ _) ?_
  walk_at "mine"
  refine if_and (fun hb => ?_) fun hb => ?_
  · refine if_b (fun z => by rw [hb] at z; cases z) fun _ => ?_
    exact tail σ' s h0 h1 h2 hs hzz (.inr (beq_eq_false_iff_ne.mp hb))
  walk_at "mine"
  refine if_b (fun _ => ?_) fun z => by cases z
  walk_at "mine"
  refine ⟨⟨s - 1, h0, ?_, h2, by omega, fun i hi => ?_⟩, ?_⟩
  · show some (D.int ((s : Int) - 1)) = some (D.int ((s - 1 : Nat) : Int))
    congr 2; omega
  · by_cases z : i = s - 1
    · subst z; exact beq_iff_eq.mp hb
    · exact hzz i (by omega)
  · show ((s : Int) - 1).toNat < _
    rw [h1]
    show ((s : Int) - 1).toNat < (s : Int).toNat
    omega

theorem law_trim_ok {p v : List Str} (hf : FnIs c (Str.ofString "_law_trim") p v s__law_trim) (hp : p.length = 1) : TrimOK c 1 (Str.ofString "_law_trim") := by
  refine ⟨hf.isFn, fun p l o m sto Q X hm hl hlen h => ?_⟩
  obtain ⟨n, rfl⟩ : ∃ n, m = n + 1 := ⟨m - 1, by omega⟩
  refine fn_call CO EO RO hf (by simp [hp]) ?_
  have tail : ∀ (σ : St) (a : Addr) (o : Bool) (s : Nat), σ.loc 0 = some (.lst a) → σ.sto a = some (.list o ((p.take s).map frD)) → s ≤ p.length → (∀ i, s ≤ i → cf p i = 0) → (s = 0 ∨ cf p (s - 1) ≠ 0) →
      wSs c n true [.ret (.blt .tuple [.var 0])] (EndQ sto Q) (fun k _ => X k) σ := fun σ a o s h0 h2 hs hzz hn => by
    walk_at "mine"
    refine f_tupL h2 (by rw [List.length_map, List.length_take]; unfold lim; omega) ?_
    walk_at "mine"
    refine ret_plain ?_
    rw [trim_eq (rw_take hs hn) (cf_take hzz)]
    exact h
  unfold s__law_trim
  refine g_cons ?_
  refine g_while (fun σ => ∃ (a : Addr) (o : Bool) (s : Nat), σ.loc 0 = some (.lst a) ∧ σ.sto a = some (.list o ((p.take s).map frD)) ∧ s ≤ p.length ∧ ∀ i, s ≤ i → cf p i = 0) (fun σ => match σ.loc 0 with | some (.lst a) => (match σ.sto a with | some (.list _ xs) => xs.length | _ => 0) | _ => 0) ?_ ?_
  · exact ⟨l, false, p.length, rfl, by rw [List.take_length]; exact ro_at hl, Nat.le_refl _, fun i hi => cf_ge hi⟩
  rintro σ' ⟨a, o', s, h0, h2, hs, hzz⟩
  have hsl : ((p.take s).map frD).length = s := by rw [List.length_map, List.length_take]; omega
  have hlim : ((p.take s).map frD).length ≤ lim := by rw [hsl]; unfold lim; omega
  walk_at "mine"
  refine f_lenL h2 hlim ?_
  rw [hsl]
  walk_at "mine"
  refine if_and (fun hb => ?_) fun hb => ?_
  · refine if_b (fun z => by rw [hb] at z; cases z) fun _ => ?_
    have : s = 0 := by simpa using hb
    exact tail σ' a o' s h0 h2 hs hzz (.inl this)
  have hs0 : 0 < s := by simpa using hb
  have hcf : cf (p.take s) (s - 1) = cf p (s - 1) := by unfold cf; rw [List.getElem?_take_of_lt (by omega)]
  walk_at "mine"
  refine i_lst h2 hlim (d := frD (cf p (s - 1))) ?_ ?_
  · have := nth_row (p := p.take s) (i := s - 1) (by rw [List.length_take]; omega)
    unfold nth
    rw [if_neg (by decide), if_pos (by rw [hsl]; omega), hsl]
    unfold nth at this
    rw [if_pos (by omega), Int.toNat_natCast, hcf] at this
    rw [show ((s : Int) + -1).toNat = s - 1 by omega]
    exact this
  walk_at "mine"
  refine if_and (fun hb => ?_) fun hb => ?_
  · refine if_b (fun z => by rw [hb] at z; cases z) fun _ => ?_
    refine tail σ' a o' s h0 h2 hs hzz (.inr fun z => ?_)
    rw [z] at hb; cases hb
  walk_at "mine"
  refine if_b (fun _ => ?_) fun z => by cases z
  walk_at "mine"
  refine sl_lst h2 rfl rfl hlim fun b hb' => ?_
  walk_at "mine"
  have e : cutL ((p.take s).map frD) none (some (-1)) = (p.take (s - 1)).map frD := by
    rw [cut_last _ (by omega), hsl, ← List.map_take, List.take_take, Nat.min_eq_left (by omega)]
  have e2 : Sto.put σ'.sto b (.list true (cutL ((p.take s).map frD) none (some (-1)))) b = some (.list true ((p.take (s - 1)).map frD)) := by rw [put_same, e]
  refine ⟨⟨b, true, s - 1, rfl, e2, by omega, fun i hi => ?_⟩, ?_⟩
  · by_cases z : i = s - 1
    · subst z; exact Rat.num_eq_zero.mp (beq_iff_eq.mp hb)
    · exact hzz i (by omega)
  · show (match Sto.put σ'.sto b (.list true (cutL ((p.take s).map frD) none (some (-1)))) b with | some (.list _ xs) => xs.length | _ => 0) < _
    rw [e2, h0]
    show ((p.take (s - 1)).map frD).length < (match σ'.sto a with | some (.list _ xs) => xs.length | _ => 0)
    rw [h2]
    show ((p.take (s - 1)).map frD).length < ((p.take s).map frD).length
    rw [hsl, List.length_map, List.length_take]
    omega
end
end Mine

/-! ## R3 -/
namespace Mine
open PySem

def s_is_fraction : List S := [
    .ifs (.bool .Or [.not (.isa (.var 0) .tuple), .cmp .NotEq (.blt .len [.var 0]) (.cint 2), .not (.call (Str.ofString "is_whole") [.idx (.var 0) (.cint 0)]), .not (.call (Str.ofString "is_whole") [.idx (.var 0) (.cint 1)])]) [.ret (.cbool false)] [],
    .ret (.bool .And [.cmp .Gt (.idx (.var 0) (.cint 1)) (.cint 0), .cmp .Eq (.call (Str.ofString "divisor_of") [.idx (.var 0) (.cint 0), .idx (.var 0) (.cint 1)]) (.cint 1)])]
def s_is_row : List S := [
    .ifs (.not (.isa (.var 0) .tuple)) [.ret (.cbool false)] [],
    .fors [1] true .plain [.var 0] [.ifs (.not (.call (Str.ofString "is_fraction") [.var 1])) [.ret (.cbool false)] []],
    .ret (.bool .Or [.cmp .Eq (.var 0) (.tup []), .cmp .NotEq (.idx (.var 0) (.neg (.cint 1))) (.glob (Str.ofString "ZERO"))])]
def s_need_row : List S := [
    .ifs (.not (.call (Str.ofString "is_row") [.var 0])) [.raise (Str.ofString "NoRow") (Str.ofString "no row")] []]
def s__law_is_row : List S := [
    .ifs (.not (.isa (.var 0) .tuple)) [.ret (.cbool false)] [],
    .fors [1] true .plain [.var 0] [.ifs (.not (.call (Str.ofString "_law_is_fraction") [.var 1])) [.ret (.cbool false)] []],
    .ret (.bool .Or [.cmp .Eq (.blt .len [.var 0]) (.cint 0), .cmp .NotEq (.idx (.idx (.var 0) (.neg (.cint 1))) (.cint 0)) (.cint 0)])]
def s_rowLoop (g : Str) : S := .fors [1] true .plain [.var 0] [.ifs (.not (.call g [.var 1])) [.ret (.cbool false)] []]
/-- a name that asks after fractions -/
def IsFrOK (c : Cx) (n : Nat) (g : Str) : Prop := IsFn c g ∧ ∀ (d : D) (m : Nat) (sto : Sto) (Q : D → Sto → Prop) (X : Str → Prop), n ≤ m → KnT sto d → Q (.bool (isFrD d)) sto → CallOK c m g [d] sto Q X
/-- what may be asked after as a row -/
def KnR (sto : Sto) : D → Prop
  | .tup ds => ds.length ≤ 1000 ∧ ∀ x ∈ ds, KnT sto x
  | d => Kn sto d
/-- the answer of is_row -/
def RowB (d : D) (b : Bool) : Prop := (∃ p, d = rowD p ∧ (b = true ↔ Rw p)) ∨ (b = false ∧ ∀ ds, d = .tup ds → ds.all isFrD = false)
theorem KnT.ro {sto : Sto} {d : D} (h : KnT sto d) : KnT (Sto.ro sto) d := by
  cases d with
  | tup ds => exact ⟨h.1, fun x hx => (h.2 x hx).ro⟩
  | lst a => exact Kn.ro (d := .lst a) h
  | exc => exact (show False from h).elim
  | _ => trivial
theorem all_row (p : List Rat) : (p.map frD).all isFrD = true := by
  rw [List.all_eq_true]
  intro d hd
  obtain ⟨x, _, rfl⟩ := List.mem_map.mp hd
  exact isFr_frD x
theorem knT_row {sto : Sto} (p : List Rat) : ∀ x ∈ p.map frD, KnT sto x := fun d hd => by
  obtain ⟨x, _, rfl⟩ := List.mem_map.mp hd
  exact knT_frD x
theorem knR_row {sto : Sto} {p : List Rat} (h : p.length ≤ 1000) : KnR sto (rowD p) := ⟨by rw [List.length_map]; exact h, knT_row p⟩
theorem nth_last {p : List Rat} (h : p ≠ []) : nth (p.map frD) (-1) = some (frD (cf p (p.length - 1))) := by
  have hl : 1 ≤ p.length := List.length_pos_iff.mpr h
  have := nth_row (p := p) (i := p.length - 1) (by omega)
  unfold nth at this ⊢
  rw [if_pos (by omega), Int.toNat_natCast] at this
  rw [if_neg (by decide), List.length_map, if_pos (by omega), show ((p.length : Int) + -1).toNat = p.length - 1 by omega]
  exact this

section
variable {c : Cx} (CO : CxOK c) (EO : ExcOK c) (RO : RzOK c)
include CO EO RO

theorem call_is_fraction {n : Nat} {p v p' v' p'' v'' : List Str} (hf : FnIs c (Str.ofString "is_fraction") p v s_is_fraction) (hp : p.length = 1) (hd : FnIs c (Str.ofString "divisor_of") p' v' s_divisor_of) (hp' : p'.length = 2) (hw : FnIs c (Str.ofString "is_whole") p'' v'' s__law_whole) (hp'' : p''.length = 1)
    {d : D} {sto : Sto} (k : KnT sto d) {Q : D → Sto → Prop} {X : Str → Prop} (h : Q (.bool (isFrD d)) sto) : CallOK c (n + 2) (Str.ofString "is_fraction") [d] sto Q X := by
  refine fn_call CO EO RO hf (by simp [hp]) ?_
  unfold s_is_fraction
  have k0 : Kn (Sto.ro sto) d := by cases d <;> first | exact Kn.ro k | trivial
  walk_at "mine"
  refine isa_tup k0 ?_
  walk_at "mine"
  refine if_or (fun hb => ?_) fun hb => ?_
  · refine if_b (fun _ => ?_) fun z => ?_
    · walk_at "mine"
      refine ret_plain ?_
      have : isFrD d = false := by cases d <;> simp_all [isTupD, isFrD]
      rw [this] at h
      exact h
    · rw [hb] at z; cases z
  cases d <;> first | (simp [isTupD] at hb; done) | skip
  rename_i ds
  obtain ⟨hlen, hkn⟩ := k
  walk_at "mine"
  refine f_lenT (by simp [lim]; omega) ?_
  walk_at "mine"
  refine if_or (fun hb => ?_) fun hb => ?_
  · refine if_b (fun _ => ?_) fun z => ?_
    · walk_at "mine"
      refine ret_plain ?_
      have : isFrD (.tup ds) = false := by
        unfold isFrD
        split
        · rename_i e; cases e; simp at hb
        · rfl
      rw [this] at h
      exact h
    · rw [hb] at z; cases z
  have hl2 : ds.length = 2 := by simp at hb; omega
  match ds, hl2 with
  | [x, y], _ =>
  walk_at "mine"
  refine e_call hw.isFn ?_
  walk_at "mine"
  refine i_tup (by simp [lim]) rfl ?_
  walk_at "mine"
  refine call_whole CO EO RO hw hp'' (hkn x (by simp)).ro ?_
  walk_at "mine"
  refine if_or (fun hb => ?_) fun hx => ?_
  · refine if_b (fun _ => ?_) fun z => ?_
    · walk_at "mine"
      refine ret_plain ?_
      have : isFrD (.tup [x, y]) = false := by cases x <;> simp_all [isWhD, isFrD]
      rw [this] at h
      exact h
    · rw [hb] at z; cases z
  walk_at "mine"
  refine e_call hw.isFn ?_
  walk_at "mine"
  refine i_tup (by simp [lim]) rfl ?_
  walk_at "mine"
  refine call_whole CO EO RO hw hp'' (hkn y (by simp)).ro ?_
  walk_at "mine"
  refine if_or (fun hb => ?_) fun hy => ?_
  · refine if_b (fun _ => ?_) fun z => ?_
    · walk_at "mine"
      refine ret_plain ?_
      have : isFrD (.tup [x, y]) = false := by cases x <;> cases y <;> simp_all [isWhD, isFrD]
      rw [this] at h
      exact h
    · rw [hb] at z; cases z
  obtain ⟨x, rfl⟩ : ∃ i, x = .int i := by cases x <;> simp_all [isWhD]
  obtain ⟨y, rfl⟩ : ∃ i, y = .int i := by cases y <;> simp_all [isWhD]
  walk_at "mine"
  refine if_b (fun z => by cases z) fun _ => ?_
  walk_at "mine"
  refine i_tup (by simp [lim]) rfl ?_
  walk_at "mine"
  refine if_and (fun hb => ?_) fun hb => ?_
  · refine ret_plain ?_
    have : isFrD (.tup [.int x, .int y]) = false := by
      simp only [isFrD]; rw [hb]; rfl
    rw [this] at h
    rw [hb]; exact h
  walk_at "mine"
  refine e_call hd.isFn ?_
  walk_at "mine"
  refine i_tup (by simp [lim]) rfl ?_
  walk_at "mine"
  refine i_tup (by simp [lim]) rfl ?_
  walk_at "mine"
  refine call_divisor_of CO EO RO hd hp' ?_
  walk_at "mine"
  refine ret_plain ?_
  have e2 : isFrD (.tup [.int x, .int y]) = ((Int.gcd x y : Int) == 1) := by
    simp only [isFrD]
    rw [hb, Bool.true_and]
    cases z : (Int.gcd x y == 1) with
    | true => symm; rw [beq_iff_eq] at z ⊢; omega
    | false => symm; rw [beq_eq_false_iff_ne] at z ⊢; omega
  rw [e2] at h
  exact h

omit CO EO RO in
theorem row_loop {n : Nat} {g : Str} (hg : IsFrOK c 2 g) (hn : 2 ≤ n) {ds : List D} {σ : St} (h0 : σ.loc 0 = some (.tup ds)) (hlen : ds.length ≤ 1000) (hk : ∀ x ∈ ds, KnT σ.sto x) {Q : Fl → St → Prop} {X : Str → St → Prop}
    (hall : ds.all isFrD = true → ∀ σ' : St, σ'.loc 0 = some (.tup ds) → σ'.sto = σ.sto → Q .next σ') (hno : ds.all isFrD = false → ∀ σ' : St, Q (.ret (.bool false)) σ') : wS c n true (s_rowLoop g) Q X σ := by
  unfold s_rowLoop
  refine g_for1 (i_tup1 (e_var h0 ⟨by unfold lim; omega, ?_⟩))
  refine forL_inv (fun k σ' => σ'.loc 0 = some (.tup ds) ∧ σ'.sto = σ.sto ∧ ∀ i d, i < k → ds[i]? = some d → isFrD d = true) (fun v _ => v = .bool false ∧ ds.all isFrD = false) _ 0 _ ⟨h0, rfl, fun i d hi => absurd hi (Nat.not_lt_zero _)⟩ (fun _ _ _ => trivial) ?_ ?_ ?_
  · rintro i d σ₁ K hd ⟨k1, k2, k3⟩ hnx hrt
    rw [Nat.zero_add] at k3 hnx
    walk_at "mine"
    refine e_call hg.1 ?_
    walk_at "mine"
    refine hg.2 d n _ _ _ hn (by rw [show (σ₁.set 1 d).sto = σ₁.sto from rfl, k2]; exact hk d (List.mem_of_getElem? hd)) ?_
    walk_at "mine"
    refine if_b (fun hb => ?_) fun hb => ?_
    · have hb : isFrD d = false := by simpa using hb
      walk_at "mine"
      refine hrt _ _ ⟨rfl, ?_⟩
      rw [List.all_eq_false]
      exact ⟨d, List.mem_of_getElem? hd, by rw [hb]; exact Bool.false_ne_true⟩
    · have hb : isFrD d = true := by simpa using hb
      walk_at "mine"
      refine hnx _ ⟨k1, k2, fun j e hj he => ?_⟩
      by_cases z : j = i
      · subst z; rw [hd] at he; cases he; exact hb
      · exact k3 j e (by omega) he
  · rintro v σ₁ ⟨rfl, h⟩
    exact hno h σ₁
  · rintro σ₁ ⟨k1, k2, k3⟩
    refine hall ?_ σ₁ k1 k2
    rw [List.all_eq_true]
    intro d hd
    obtain ⟨i, hi⟩ := List.getElem?_of_mem hd
    exact k3 i d (by have := (List.getElem?_eq_some_iff.mp hi).1; omega) hi

/-- a name that asks after rows -/
def IsRowOK (c : Cx) (n : Nat) (g : Str) : Prop := IsFn c g ∧ ∀ (d : D) (b : Bool) (m : Nat) (sto : Sto) (Q : D → Sto → Prop) (X : Str → Prop), n ≤ m → KnR sto d → RowB d b → Q (.bool b) sto → CallOK c m g [d] sto Q X
theorem is_row_ok (hz : c.cs (Str.ofString "ZERO") = some (frD 0)) (hg : IsFrOK c 2 (Str.ofString "is_fraction")) {p v : List Str} (hf : FnIs c (Str.ofString "is_row") p v s_is_row) (hp : p.length = 1) : IsRowOK c 3 (Str.ofString "is_row") := by
  refine ⟨hf.isFn, fun d b m sto Q X hm hk hB h => ?_⟩
  obtain ⟨n, rfl⟩ : ∃ n, m = n + 1 := ⟨m - 1, by omega⟩
  refine fn_call CO EO RO hf (by simp [hp]) ?_
  have k0 : Kn (Sto.ro sto) d := by
    cases d with
    | tup ds => trivial
    | lst a => exact Kn.ro (d := .lst a) hk
    | exc => exact (show False from hk).elim
    | _ => trivial
  unfold s_is_row
  walk_at "mine"
  refine isa_tup k0 ?_
  walk_at "mine"
  refine if_b (fun hb => ?_) fun hb => ?_
  · walk_at "mine"
    refine ret_plain ?_
    have : b = false := by
      rcases hB with ⟨p, rfl, _⟩ | ⟨hb', _⟩
      · cases hb
      · exact hb'
    rw [← this]; exact h
  obtain ⟨ds, rfl⟩ : ∃ ds, d = .tup ds := by
    cases d with
    | tup ds => exact ⟨ds, rfl⟩
    | _ => cases hb
  walk_at "mine"
  refine row_loop hg (by omega) (ds := ds) rfl hk.1 (fun x hx => (hk.2 x hx).ro) (fun ha σ' h0 hs => ?_) fun ha σ' => ?_
  · rcases hB with ⟨p, e, hB⟩ | ⟨_, hB⟩
    · cases e
      walk_at "mine"
      refine ⟨by simp [lim], ?_⟩
      refine c_eqD (eq_rows p []) ?_
      walk_at "mine"
      refine if_or (fun hb => ?_) fun hb => ?_
      · have e : p = [] := beq_iff_eq.mp hb
        rw [hb]
        refine ret_plain ?_
        rw [← hB.mpr (.inl e)]; exact h
      · have hne : p ≠ [] := beq_eq_false_iff_ne.mp hb
        walk_at "mine"
        refine i_tup (by rw [List.length_map]; unfold lim; have := hk.1; rw [List.length_map] at this; omega) (nth_last hne) ?_
        refine e_glob hz ?_
        refine c_neD (eq_frs _ _) ?_
        refine ret_plain ?_
        have e : b = !(cf p (p.length - 1) == 0) := by
          cases hc : (cf p (p.length - 1) == 0) with
          | true =>
            cases b with
            | false => rfl
            | true =>
              rcases hB.mp rfl with z | z
              · exact absurd z hne
              · exact absurd (beq_iff_eq.mp hc) z
          | false => exact hB.mpr (.inr (beq_eq_false_iff_ne.mp hc))
        rw [← e]; exact h
    · rw [hB ds rfl] at ha; cases ha
  · refine ret_plain ?_
    have : b = false := by
      rcases hB with ⟨p, e, _⟩ | ⟨hb', _⟩
      · cases e; rw [all_row] at ha; cases ha
      · exact hb'
    rw [← this]; exact h
theorem need_row_ok (hg : IsRowOK c 3 (Str.ofString "is_row")) {p v : List Str} (hf : FnIs c (Str.ofString "need_row") p v s_need_row) (hp : p.length = 1) {p : List Rat} (hr : Rw p) (hl : p.length ≤ 1000) {m : Nat} (hm : 4 ≤ m) {sto : Sto} {Q : D → Sto → Prop} {X : Str → Prop} (h : Q .none sto) : CallOK c m (Str.ofString "need_row") [rowD p] sto Q X := by
  obtain ⟨n, rfl⟩ : ∃ n, m = n + 1 := ⟨m - 1, by omega⟩
  refine fn_call CO EO RO hf (by simp [hp]) ?_
  unfold s_need_row
  walk_at "mine"
  refine e_call hg.1 ?_
  walk_at "mine"
  refine hg.2 _ true _ _ _ _ (by omega) (knR_row hl) (.inl ⟨p, rfl, fun _ => hr, fun _ => rfl⟩) ?_
  walk_at "mine"
  refine if_b (fun z => by cases z) fun _ => ?_
  walk_at "mine"
  exact ret_plain h
theorem law_is_row_ok (hg : IsFrOK c 2 (Str.ofString "_law_is_fraction")) {p v : List Str} (hf : FnIs c (Str.ofString "_law_is_row") p v s__law_is_row) (hp : p.length = 1) {p : List Rat} (hr : Rw p) (hl : p.length ≤ 1000) {m : Nat} (hm : 3 ≤ m) {sto : Sto} {Q : D → Sto → Prop} {X : Str → Prop} (h : Q (.bool true) sto) : CallOK c m (Str.ofString "_law_is_row") [rowD p] sto Q X := by
  obtain ⟨n, rfl⟩ : ∃ n, m = n + 1 := ⟨m - 1, by omega⟩
  refine fn_call CO EO RO hf (by simp [hp]) ?_
  unfold s__law_is_row
  walk_at "mine"
  refine isa_tup (d := rowD p) trivial ?_
  walk_at "mine"
  refine if_b (fun z => by cases z) fun _ => ?_
  walk_at "mine"
  refine row_loop hg (by omega) (ds := p.map frD) rfl (by rw [List.length_map]; exact hl) (knT_row p) (fun ha σ' h0 hs => ?_) fun ha σ' => ?_
  · walk_at "mine"
    refine f_lenT (by rw [List.length_map]; unfold lim; omega) ?_
    rw [List.length_map]
    walk_at "mine"
    refine if_or (fun hb => ?_) fun hb => ?_
    · rw [hb]; exact ret_plain h
    · have hne : p ≠ [] := fun z => by subst z; cases hb
      walk_at "mine"
      refine i_tup (by rw [List.length_map]; unfold lim; omega) (nth_last hne) ?_
      walk_at "mine"
      refine ret_plain ?_
      have e : ((cf p (p.length - 1)).num == 0) = false := by
        rw [beq_eq_false_iff_ne]
        intro z
        rcases hr with z' | z'
        · exact hne z'
        · exact z' (Rat.num_eq_zero.mp z)
      rw [e]; exact h
  · rw [all_row] at ha; cases ha
end
end Mine

/-! ## R4 -/
namespace Mine
open PySem

theorem repL_one (z : Int) (x : Rat) : repL z [frD x] = (List.replicate z.toNat x).map frD := by
  unfold repL
  rw [PyProof.Rows.lm_rep_flat_one, List.map_replicate]
theorem fr0 : D.tup [.int 0, .int 1] = frD 0 := rfl
/-- the sum of two rows, ahead of the trimming -/
def IsSum (p q r : List Rat) : Prop := ∀ i, cf r i = cf p i + cf q i
def IsProd (p q r : List Rat) : Prop := ∀ j, cf r j = cv p q j
section
variable {c : Cx} (CO : CxOK c) (EO : ExcOK c) (RO : RzOK c)
include CO EO RO

end
end Mine

/-! ## R5 -/
namespace Mine
open PySem

def s__law_plus : List S := [
    .assign 2 (.blt .max [.blt .len [.var 0], .blt .len [.var 1]]),
    .assign 0 (.bin .Add (.blt .list [.var 0]) (.bin .Mult (.lst [.tup [.cint 0, .cint 1]]) (.bin .Sub (.var 2) (.blt .len [.var 0])))),
    .assign 1 (.bin .Add (.blt .list [.var 1]) (.bin .Mult (.lst [.tup [.cint 0, .cint 1]]) (.bin .Sub (.var 2) (.blt .len [.var 1])))),
    .ret (.call (Str.ofString "_law_trim") [.comp (.call (Str.ofString "_law_sum") [.var 100, .var 101]) [(100, (Str.ofString "_law_x")), (101, (Str.ofString "_law_y"))] .zip [.var 0, .var 1]])]
def s__law_scale : List S := [
    .ret (.call (Str.ofString "_law_trim") [.comp (.call (Str.ofString "_law_product") [.var 100, .var 1]) [(100, (Str.ofString "_law_part"))] .plain [.var 0]])]
def s__law_times : List S := [
    .assign 2 (.tup []),
    .fors [3] true .range [.blt .len [.var 0]] [.assign 2 (.call (Str.ofString "_law_plus") [.var 2, .bin .Add (.bin .Mult (.tup [.tup [.cint 0, .cint 1]]) (.var 3)) (.call (Str.ofString "_law_scale") [.var 1, .idx (.var 0) (.var 3)])])],
    .ret (.var 2)]
def s__law_row_by : List S := [
    .assign 2 (.call (Str.ofString "_law_stream") [.var 0, .bin .Add (.var 1) (.cint 1)]),
    .ret (.call (Str.ofString "_law_trim") [.comp (.call (Str.ofString "_law_number") [.idx (.var 2) (.bin .Add (.cint 1) (.var 100))]) [(100, (Str.ofString "_law_k"))] .range [.bin .Mod (.idx (.var 2) (.cint 0)) (.bin .Add (.var 1) (.cint 1))]])]
theorem compL_map {α : Type} {step : D → (D → Prop) → Prop} {Kf : List D → Prop} (f g : α → D) : ∀ (xs : List α) (acc : List D), (∀ a ∈ xs, ∀ K : D → Prop, K (g a) → step (f a) K) → Kf (acc ++ xs.map g) → compL step (xs.map f) acc Kf
  | [], acc, _, h => by
    have : acc ++ List.map g [] = acc := List.append_nil acc
    rw [this] at h; exact h
  | a :: xs, acc, hs, h => hs a (.head _) _ (compL_map f g xs (acc ++ [g a]) (fun e he => hs e (.tail _ he)) (by
    rw [List.append_assoc]; exact h))
theorem turn1 {x : Nat} {s : Str} {elt : (D → St → Prop) → St → Prop} {P : D → Prop} {σ : St} {d : D} {K : D → Prop} (h : elt (fun r _ => P r ∧ K r) (σ.ro.set x d)) : turnW [(x, s)] elt P σ d K := h
theorem rangeUp_map (a b : Int) : rangeUp a b = (List.range (b - a).toNat).map fun (k : Nat) => D.int (a + k) := rfl

theorem zip_rows (p q : List Rat) : List.zipWith (fun u v => D.tup [u, v]) (p.map frD) (q.map frD) = (p.zip q).map fun a => D.tup [frD a.1, frD a.2] := by
  rw [List.zipWith_map, List.zip, List.map_zipWith]
theorem flat_row (p : List Rat) : (p.map frD).all flatD = true := by
  rw [List.all_eq_true]
  intro d hd
  obtain ⟨x, _, rfl⟩ := List.mem_map.mp hd
  rfl
theorem tup_row (p : List Rat) : (p.map frD).all isTup = true := by
  rw [List.all_eq_true]
  intro d hd
  obtain ⟨x, _, rfl⟩ := List.mem_map.mp hd
  rfl
section
variable {c : Cx} (CO : CxOK c) (EO : ExcOK c) (RO : RzOK c)
include CO EO RO

/-! the law's own words -/
def ScaleOK (c : Cx) (n : Nat) (f : Str) : Prop := IsFn c f ∧ ∀ (p : List Rat) (x : Rat) (k l m : Nat) (sto : Sto) (Q : D → Sto → Prop) (X : Str → Prop), n ≤ m → RSs k p → RS l x → k + l ≤ 67108864 → p.length ≤ 400 → Q (rowD (trimL (p.map (· * x)))) sto → CallOK c m f [rowD p, frD x] sto Q X
theorem scale_ok (ht : TrimOK c 1 (Str.ofString "_law_trim")) (hg : ProdOK c 3 (Str.ofString "_law_product")) {ps v : List Str} (hf : FnIs c (Str.ofString "_law_scale") ps v s__law_scale) (hps : ps.length = 2) : ScaleOK c 4 (Str.ofString "_law_scale") := by
  refine ⟨hf.isFn, fun p x k l m sto Q X hm hp hx hkl hpl h => ?_⟩
  obtain ⟨n, rfl⟩ : ∃ n, m = n + 1 := ⟨m - 1, by omega⟩
  refine fn_call CO EO RO hf (by simp [hps]) ?_
  unfold s__law_scale
  walk_at "mine"
  refine e_call ht.1 ?_
  refine es_cons (e_comp ?_)
  walk_at "mine"
  refine ⟨by rw [List.length_map]; unfold lim; omega, by rw [List.length_map]; unfold lim; omega, ?_⟩
  refine compL_map frD (fun y => frD (y * x)) p [] (fun y hy K hK => ?_) fun l' hl' => ?_
  · refine turn1 ?_
    refine e_call hg.1 ?_
    walk_at "mine"
    obtain ⟨i, hi⟩ := List.getElem?_of_mem hy
    have e : cf p i = y := by unfold cf; rw [hi]; rfl
    refine hg.2 y x k l _ _ _ _ (by omega) (e ▸ hp i) hx hkl ?_
    exact ⟨trivial, hK⟩
  · rw [List.nil_append]
    walk_at "mine"
    have e : (p.map fun y => frD (y * x)) = (p.map (· * x)).map frD := by rw [List.map_map]; rfl
    rw [e]
    refine ht.2 _ l' _ _ _ _ _ (by omega) put_same (by rw [List.length_map]; omega) ?_
    exact ret_plain h

def PlusOK (c : Cx) (n : Nat) (f : Str) : Prop := IsFn c f ∧ ∀ (p q : List Rat) (k l m : Nat) (sto : Sto) (Q : D → Sto → Prop) (X : Str → Prop), n ≤ m → RSs k p → RSs l q → k + l ≤ 67108864 → p.length ≤ 400 → q.length ≤ 400 → (∀ r, IsSum p q r → r.length ≤ max p.length q.length → Q (rowD (trimL r)) sto) → CallOK c m f [rowD p, rowD q] sto Q X
theorem plus_ok (ht : TrimOK c 1 (Str.ofString "_law_trim")) (hg : SumOK c 3 (Str.ofString "_law_sum")) {ps v : List Str} (hf : FnIs c (Str.ofString "_law_plus") ps v s__law_plus) (hps : ps.length = 2) : PlusOK c 4 (Str.ofString "_law_plus") := by
  refine ⟨hf.isFn, fun p q k l m sto Q X hm hp hq hkl hpl hql h => ?_⟩
  obtain ⟨n, rfl⟩ : ∃ n, m = n + 1 := ⟨m - 1, by omega⟩
  refine fn_call CO EO RO hf (by simp [hps]) ?_
  unfold s__law_plus
  walk_at "mine"
  refine f_lenR (by omega) ?_
  walk_at "mine"
  refine f_lenR (by omega) ?_
  walk_at "mine"
  refine f_max ?_
  walk_at "mine"
  refine f_listT (by rw [List.length_map]; unfold lim; omega) fun l1 hl1 => ?_
  walk_at "mine"
  refine ⟨by simp [lim], ?_⟩
  walk_at "mine"
  refine ⟨by simp [lim], fun l2 hl2 => ?_⟩
  rw [fr0]
  walk_at "mine"
  refine f_lenR (by omega) ?_
  walk_at "mine"
  refine o_mulL put_same (by simp) (by omega) (by omega) fun l3 hl3 => ?_
  refine o_addL (put_old hl3 (put_old hl2 put_same)) put_same (by rw [List.length_map]; unfold lim; omega) (by rw [repL_one, List.length_map, List.length_replicate]; unfold lim; omega) fun l4 hl4 => ?_
  rw [repL_one, ← List.map_append]
  walk_at "mine"
  refine f_listT (by rw [List.length_map]; unfold lim; omega) fun l5 hl5 => ?_
  walk_at "mine"
  refine ⟨by simp [lim], ?_⟩
  walk_at "mine"
  refine ⟨by simp [lim], fun l6 hl6 => ?_⟩
  rw [fr0]
  walk_at "mine"
  refine f_lenR (by omega) ?_
  walk_at "mine"
  refine o_mulL put_same (by simp) (by omega) (by omega) fun l7 hl7 => ?_
  refine o_addL (put_old hl7 (put_old hl6 put_same)) put_same (by rw [List.length_map]; unfold lim; omega) (by rw [repL_one, List.length_map, List.length_replicate]; unfold lim; omega) fun l8 hl8 => ?_
  rw [repL_one] at hl8 ⊢
  rw [← List.map_append]
  walk_at "mine"
  refine e_call ht.1 ?_
  refine es_cons (e_comp ?_)
  walk_at "mine"
  refine ⟨l4, l8, true, (p ++ List.replicate (max (p.length : Int) q.length - p.length).toNat 0).map frD, true, (q ++ List.replicate (max (p.length : Int) q.length - q.length).toNat 0).map frD, rfl, rfl, ?_, (show Sto.put _ _ _ _ = _ from put_same), tup_row _, flat_row _, flat_row _, rfl, ?_⟩
  · exact put_old hl8 (put_old hl7 (put_old hl6 (put_old hl5 put_same)))
  have lp : (p ++ List.replicate (max (p.length : Int) q.length - p.length).toNat 0).length = max p.length q.length := by rw [List.length_append, List.length_replicate]; omega
  have lq : (q ++ List.replicate (max (p.length : Int) q.length - q.length).toNat 0).length = max p.length q.length := by rw [List.length_append, List.length_replicate]; omega
  have cp : ∀ i, cf (p ++ List.replicate (max (p.length : Int) q.length - p.length).toNat 0) i = cf p i := fun i => by
    rw [cf_app]
    split
    · rfl
    · rw [cf_zeros, cf_ge (p := p) (by omega)]
  have cq : ∀ i, cf (q ++ List.replicate (max (p.length : Int) q.length - q.length).toNat 0) i = cf q i := fun i => by
    rw [cf_app]
    split
    · rfl
    · rw [cf_zeros, cf_ge (p := q) (by omega)]
  generalize (p ++ List.replicate (max (p.length : Int) q.length - p.length).toNat 0) = P at *
  generalize (q ++ List.replicate (max (p.length : Int) q.length - q.length).toNat 0) = R at *
  rw [zip_rows]
  refine ⟨by rw [List.length_map, List.length_zip]; unfold lim; omega, ?_⟩
  refine compL_map (α := Rat × Rat) (fun a => D.tup [frD a.1, frD a.2]) (fun a => frD (a.1 + a.2)) (P.zip R) [] ?_ ?_
  · intro a ha K hK
    obtain ⟨i, hi⟩ := List.getElem?_of_mem ha
    have hx : RS k a.1 ∧ RS l a.2 := by
      rw [List.getElem?_zip_eq_some] at hi
      have e1 : cf p i = a.1 := by rw [← cp i]; unfold cf; rw [hi.1]; rfl
      have e2 : cf q i = a.2 := by rw [← cq i]; unfold cf; rw [hi.2]; rfl
      exact ⟨e1 ▸ hp i, e2 ▸ hq i⟩
    refine ⟨_, rfl, rfl, ?_⟩
    refine e_call hg.1 ?_
    walk_at "mine"
    refine hg.2 a.1 a.2 k l _ _ _ _ (by omega) hx.1 hx.2 hkl ?_
    exact ⟨rfl, hK⟩
  · intro l' hl'
    rw [List.nil_append]
    walk_at "mine"
    have e : ((P.zip R).map fun a => frD (a.1 + a.2)) = ((P.zip R).map fun a => a.1 + a.2).map frD := by rw [List.map_map]; rfl
    rw [e]
    refine ht.2 _ l' _ _ _ _ _ (by omega) put_same (by rw [List.length_map, List.length_zip]; omega) ?_
    refine ret_plain (h _ (fun i => ?_) (by rw [List.length_map, List.length_zip]; omega))
    rw [← cp i, ← cq i]
    by_cases z : i < max p.length q.length
    · rw [cf_lt (by rw [List.length_map, List.length_zip]; omega), List.getElem_map, List.getElem_zip, cf_lt (by omega), cf_lt (by omega)]
    · rw [cf_ge (by rw [List.length_map, List.length_zip]; omega), cf_ge (p := P) (by omega), cf_ge (p := R) (by omega), Rat.add_zero]
end
end Mine

/-! ## R6 -/
namespace Mine
open PySem

theorem rss_trim {k : Nat} {p : List Rat} (h : RSs k p) : RSs k (trimL p) := fun i => by rw [cf_trim]; exact h i
theorem rss_sum {k l : Nat} {p q r : List Rat} (hp : RSs k p) (hq : RSs l q) (h : IsSum p q r) : RSs (k + l + 1) r := fun i => by rw [h i]; exact rs_add (hp i) (hq i)
theorem rs_pos {k : Nat} {x : Rat} (h : RS k x) : 1 ≤ k := by
  have h1 := x.den_pos
  by_cases z : k = 0
  · subst z; have := h.2; simp at this; omega
  · omega
section
variable {c : Cx} (CO : CxOK c) (EO : ExcOK c) (RO : RzOK c)
include CO EO RO

def TimesOK (c : Cx) (n : Nat) (f : Str) : Prop := IsFn c f ∧ ∀ (p q : List Rat) (k l m : Nat) (sto : Sto) (Q : D → Sto → Prop) (X : Str → Prop), n ≤ m → RSs k p → RSs l q → (k + l + 1) * (p.length + 1) + (k + l + 1) ≤ 67108864 → p.length ≤ 100 → q.length ≤ 100 → (∀ r, Rw r → IsProd p q r → r.length ≤ 200 → RSs (1 + (k + l + 1) * p.length) r → Q (rowD r) sto) → CallOK c m f [rowD p, rowD q] sto Q X
theorem times_ok (hpl : PlusOK c 4 (Str.ofString "_law_plus")) (hsc : ScaleOK c 4 (Str.ofString "_law_scale")) {ps v : List Str} (hf : FnIs c (Str.ofString "_law_times") ps v s__law_times) (hps : ps.length = 2) : TimesOK c 5 (Str.ofString "_law_times") := by
  refine ⟨hf.isFn, fun p q k l m sto Q X hm hp hq hB h1 h2 h => ?_⟩
  obtain ⟨n, rfl⟩ : ∃ n, m = n + 1 := ⟨m - 1, by omega⟩
  refine fn_call CO EO RO hf (by simp [hps]) ?_
  unfold s__law_times
  walk_at "mine"
  refine ⟨by simp [lim], ?_⟩
  walk_at "mine"
  refine g_for1 ?_
  walk_at "mine"
  refine f_lenR (by omega) ?_
  walk_at "mine"
  refine ⟨by simp [smallI]; omega, _, rfl, ?_⟩
  refine forL_inv (fun i σ => ∃ F : List Rat, Rw F ∧ F.length ≤ i + 100 ∧ (∀ j, cf F j = sm (cvf p q j) i) ∧ RSs (1 + (k + l + 1) * i) F ∧ σ.loc 0 = some (rowD p) ∧ σ.loc 1 = some (rowD q) ∧ σ.loc 2 = some (rowD F)) (fun _ _ => False) _ 0 _ ?_ (fun _ _ _ => trivial) ?_ (fun _ _ z => z.elim) ?_
  · exact ⟨[], .inl rfl, by simp, fun j => rfl, fun j => rs_zero (by omega), rfl, rfl, rfl⟩
  · rintro i d σ K hd ⟨F, hw, hF1, hF, hFs, g0, g1, g2⟩ hn hr
    obtain ⟨hi, hdd⟩ := rangeUp_get hd
    rw [Int.zero_add] at hdd
    subst hdd
    rw [Nat.zero_add] at hF1 hF hFs hn
    have hi : i < p.length := by omega
    have hb : (k + l + 1) * i ≤ (k + l + 1) * p.length := Nat.mul_le_mul (Nat.le_refl _) (by omega)
    have hb2 : (k + l + 1) * (p.length + 1) = (k + l + 1) * p.length + (k + l + 1) := by rw [Nat.mul_add, Nat.mul_one]
    walk_at "mine"
    refine e_call hpl.1 ?_
    walk_at "mine"
    refine ⟨by simp [lim], ?_⟩
    walk_at "mine"
    refine ⟨by simp [lim], ?_⟩
    rw [fr0]
    walk_at "mine"
    refine o_mulT (by simp) (by simp) (by omega) (by omega) ?_
    rw [repL_one, Int.toNat_natCast]
    walk_at "mine"
    refine e_call hsc.1 ?_
    walk_at "mine"
    refine i_row (by omega) hi ?_
    walk_at "mine"
    refine hsc.2 q (cf p i) l k _ _ _ _ (by omega) hq (hp i) (by omega) (by omega) ?_
    have ll : (trimL (q.map (· * cf p i))).length ≤ q.length := by have := trim_len (q.map (· * cf p i)); rw [List.length_map] at this; exact this
    refine o_addT (by rw [List.length_map, List.length_replicate]; unfold lim; omega) (by rw [List.length_map]; unfold lim; omega) ?_
    rw [← List.map_append]
    walk_at "mine"
    have cs : ∀ j, cf (List.replicate i 0 ++ trimL (q.map (· * cf p i))) j = cvf p q j i := fun j => by
      rw [cf_app, List.length_replicate]
      unfold cvf
      by_cases z : j < i
      · rw [if_pos z, if_neg (by omega), cf_zeros]
      · rw [if_neg z, if_pos (by omega), cf_trim, cf_map (f := fun y => y * cf p i) (Rat.zero_mul _), Rat.mul_comm]
    have rsc : RSs (k + l) (List.replicate i 0 ++ trimL (q.map (· * cf p i))) := fun j => by
      rw [cs j]
      unfold cvf
      split
      · exact rs_mulR (hp i) (hq _)
      · exact rs_zero (by have := rs_pos (hp 0); omega)
    refine hpl.2 F _ (1 + (k + l + 1) * i) (k + l) _ _ _ _ (by omega) hFs rsc (by omega) (by omega) (by rw [List.length_append, List.length_replicate]; omega) fun r hr hrl => ?_
    walk_at "mine"
    refine hn _ ⟨trimL r, rw_trim r, ?_, fun j => ?_, ?_, g0, g1, rfl⟩
    · have := trim_len r
      rw [List.length_append, List.length_replicate] at hrl
      omega
    · rw [cf_trim, hr j, hF j, cs j]; rfl
    · refine fun j => ((rss_trim (rss_sum hFs rsc hr)) j).mono ?_
      rw [Nat.mul_add, Nat.mul_one]; omega
  · rintro σ ⟨F, hw, hF1, hF, hFs, g0, g1, g2⟩
    rw [Nat.zero_add, rangeUp_len] at hF1 hF hFs
    rw [show ((p.length : Int) - 0).toNat = p.length by omega] at hF1 hF hFs
    walk_at "mine"
    exact ret_plain (h F hw hF (by omega) hFs)

/-- the rows that the law draws -/
theorem row_by_ok (LN : LNums c) (ht : TrimOK c 1 (Str.ofString "_law_trim")) {ps v : List Str} (hf : FnIs c (Str.ofString "_law_row_by") ps v s__law_row_by) (hps : ps.length = 2) {x : Int} {most : Nat} (hmo : most ≤ 50) {m : Nat} (hm : 4 ≤ m) {sto : Sto} {Q : D → Sto → Prop} {X : Str → Prop} (h : ∀ p, Rw p → p.length ≤ most → RSs 20 p → Q (rowD p) sto) : CallOK c m (Str.ofString "_law_row_by") [.int x, .int most] sto Q X := by
  obtain ⟨n, rfl⟩ : ∃ n, m = n + 4 := ⟨m - 4, by omega⟩
  obtain ⟨_, _, hst, hst'⟩ := LN.stream
  obtain ⟨_, _, hdv, hdv'⟩ := LN.divisor
  obtain ⟨_, _, hfr, hfr'⟩ := LN.fraction
  obtain ⟨_, _, hnu, hnu'⟩ := LN.number
  refine fn_call CO EO RO hf (by simp [hps]) ?_
  unfold s__law_row_by
  walk_at "mine"
  refine e_call hst.isFn ?_
  walk_at "mine"
  rw [show (most : Int) + 1 = ((most + 1 : Nat) : Int) by omega]
  refine call_stream CO EO RO hst hst' (by omega) fun xs l hxl hxs hl => ?_
  have e0 : ∀ (σ : St), (σ.put l (.list true (xs.map D.int))).sto l = some (.list true (xs.map D.int)) := fun σ => put_same
  have hx0 : nth (xs.map D.int) 0 = some (.int xs[0]) := by
    unfold nth
    rw [if_pos (by decide)]
    simp
  walk_at "mine"
  refine e_call ht.1 ?_
  refine es_cons (e_comp ?_)
  walk_at "mine"
  refine i_lst put_same (by rw [List.length_map]; unfold lim; omega) hx0 ?_
  walk_at "mine"
  refine o_mod (by omega) ?_
  walk_at "mine"
  have fm : (xs[0]).fmod ((most : Int) + 1) = xs[0] % ((most : Int) + 1) := Int.fmod_eq_emod_of_nonneg _ (by omega)
  have m1 := Int.emod_nonneg xs[0] (show ((most : Int) + 1) ≠ 0 by omega)
  have m2 := Int.emod_lt_of_pos xs[0] (show 0 < ((most : Int) + 1) by omega)
  obtain ⟨u, hu⟩ := Int.eq_ofNat_of_zero_le m1
  have hu' : (xs[0]).fmod ((most : Int) + 1) = (u : Int) := fm.trans hu
  rw [hu']
  have hum : u ≤ most := by omega
  refine ⟨by simp [smallI]; omega, _, rfl, ?_⟩
  rw [rangeUp_map]
  refine ⟨by rw [List.length_map, List.length_range]; unfold lim; omega, ?_⟩
  have key : ∀ (us : List Nat) (acc : List Rat), (∀ j ∈ us, j < u) → acc.length + us.length ≤ most → (∀ x ∈ acc, RS 20 x) → ∀ Kf : List D → Prop, (∀ F : List Rat, F.length ≤ most → (∀ x ∈ F, RS 20 x) → Kf (F.map frD)) →
      compL (turnW [(100, Str.ofString "_law_k")] (fun K σ₂ => wE c (n + 3) true (.call (Str.ofString "_law_number") [.idx (.var 2) (.bin .Add (.cint 1) (.var 100))]) K noX σ₂) (fun _ => True) (St.set { loc := (startSt [.int x, .int most] sto).loc, sto := Sto.put (Sto.ro sto) l (.list true (xs.map D.int)) } 2 (.lst l))) (us.map fun (k : Nat) => D.int (0 + k)) (acc.map frD) Kf := by
    intro us
    induction us with
    | nil => intro acc _ hl ha Kf hK; exact hK acc (by simpa using hl) ha
    | cons j us ih =>
      intro acc hus hl ha Kf hK
      have hj := hus j (.head _)
      refine turn1 ?_
      refine e_call hnu.isFn ?_
      walk_at "mine"
      rw [show (1 : Int) + (0 + (j : Int)) = ((j + 1 : Nat) : Int) by omega]
      have hxj : nth (xs.map D.int) ((j + 1 : Nat) : Int) = some (.int xs[j + 1]) := by
        unfold nth
        rw [if_pos (by omega), Int.toNat_natCast, List.getElem?_map, List.getElem?_eq_getElem (by omega)]
        rfl
      refine i_lst (o := false) (ds := xs.map D.int) (ro_at (o := true) put_same) (by rw [List.length_map]; unfold lim; omega) hxj ?_
      walk_at "mine"
      refine call_law_number CO EO RO hnu hnu' hdv hdv' hfr hfr' (hxs _ (List.getElem_mem _)) fun r h1 h2 => ?_
      refine ⟨trivial, ?_⟩
      have e : acc.map frD ++ [frD r] = (acc ++ [r]).map frD := by rw [List.map_append]; rfl
      rw [e]
      exact ih (acc ++ [r]) (fun i hi => hus i (.tail _ hi)) (by rw [List.length_append]; simp at hl ⊢; omega) (fun y hy => by
        rcases List.mem_append.mp hy with hy | hy
        · exact ha y hy
        · rw [List.mem_singleton.mp hy]; exact rs_of h1 h2) Kf hK
  refine key (List.range ((u : Int) - 0).toNat) [] (fun j hj => by have := List.mem_range.mp hj; omega) (by rw [List.length_range]; simp; omega) (fun x hx => by cases hx) _ fun F hF hFs l' hl' => ?_
  walk_at "mine"
  refine ht.2 F l' _ _ _ _ _ (by omega) put_same (by omega) ?_
  refine ret_plain (h _ (rw_trim F) (Nat.le_trans (trim_len F) hF) (rss_trim fun i => ?_))
  by_cases z : i < F.length
  · rw [cf_lt z]; exact hFs _ (List.getElem_mem _)
  · rw [cf_ge (by omega)]; exact rs_zero (by decide)
end
end Mine

/-! ## Q2 -/
namespace Mine
open PySem

theorem g_app' {c : Cx} {n : Nat} {s : S} {ss : List S} {Q : Fl → St → Prop} {X : Str → St → Prop} {σ : St} (h : wS c n true s (fun fl σ₁ => match fl with | .next => wSs c n true ss Q X σ₁ | fl => Q fl σ₁) X σ) : wSs c n true (s :: ss) Q X σ := h
theorem sm_at {f g : Nat → Rat} {a : Nat} {d : Rat} (h : ∀ i, g i = f i + if i = a then d else 0) : ∀ n, sm g n = sm f n + if a < n then d else 0
  | 0 => by rw [if_neg (Nat.not_lt_zero a), Rat.add_zero]; rfl
  | n + 1 => by
    show sm g n + g n = sm f n + f n + _
    rw [sm_at h n, h n]
    by_cases z : n = a
    · subst z
      rw [if_pos rfl, if_neg (Nat.lt_irrefl n), if_pos (Nat.lt_succ_self n)]
      grind
    · rw [if_neg z]
      by_cases z2 : a < n
      · rw [if_pos z2, if_pos (by omega)]; grind
      · rw [if_neg z2, if_neg (by omega)]; grind
theorem sm_one {f : Nat → Rat} {a n : Nat} (ha : a < n) (h : ∀ i, i ≠ a → f i = 0) : sm f n = f a := by
  have e := sm_at (f := fun _ => 0) (g := f) (a := a) (d := f a) (fun i => by
    by_cases z : i = a
    · subst z; rw [if_pos rfl, Rat.zero_add]
    · rw [if_neg z, h i z, Rat.add_zero]) n
  have z : ∀ n, sm (fun _ => (0 : Rat)) n = 0 := fun n => by
    induction n with
    | zero => rfl
    | succ n ih => show sm (fun _ => 0) n + 0 = 0; rw [ih, Rat.add_zero]
  rw [e, z, if_pos ha, Rat.zero_add]
theorem sm_sub (f g : Nat → Rat) : ∀ n, sm (fun i => f i - g i) n = sm f n - sm g n
  | 0 => by show (0 : Rat) = 0 - 0; grind
  | n + 1 => by
    show sm (fun i => f i - g i) n + (f n - g n) = sm f n + f n - (sm g n + g n)
    rw [sm_sub f g n]; grind
theorem cv_set {W q : List Rat} {k : Nat} {t : Rat} (hk : k < W.length) (h0 : cf W k = 0) (j : Nat) : cv (W.set k t) q j = cv W q j + if k ≤ j then t * cf q (j - k) else 0 := by
  unfold cv
  rw [List.length_set, sm_at (f := cvf W q j) (a := k) (d := if k ≤ j then t * cf q (j - k) else 0) (fun i => ?_), if_pos hk]
  unfold cvf
  rw [cf_set hk]
  by_cases z : i = k
  · subst z
    rw [if_pos rfl, if_pos rfl, h0, Rat.zero_mul]
    by_cases z2 : i ≤ j
    · rw [if_pos z2, if_pos z2, Rat.zero_add]
    · rw [if_neg z2, if_neg z2, Rat.zero_add]
  · rw [if_neg z, if_neg z, Rat.add_zero]
/-- a quotient with a rest shorter than the divisor leaves none, where the whole is a product -/
theorem div_unique {W r q R : List Rat} (hq : q ≠ []) (hq0 : cf q (q.length - 1) ≠ 0) (h : ∀ j, cv r q j = cv W q j + cf R j) (hR : ∀ j, q.length - 1 ≤ j → cf R j = 0) : ∀ j, cf R j = 0 := by
  have hl : 1 ≤ q.length := List.length_pos_iff.mpr hq
  have key : ∀ j, sm (fun i => (cf r i - cf W i) * cf q (j - i)) (j + 1) = cf R j := fun j => by
    have e : (fun i => (cf r i - cf W i) * cf q (j - i)) = fun i => cf r i * cf q (j - i) - cf W i * cf q (j - i) := by funext i; grind
    rw [e, sm_sub, ← cv_full, ← cv_full, h j]; grind
  have dz : ∀ N, (∀ i, N ≤ i → cf r i - cf W i = 0) → ∀ i, cf r i - cf W i = 0 := fun N => by
    induction N with
    | zero => intro hN i; exact hN i (Nat.zero_le _)
    | succ N ih =>
      intro hN
      refine ih fun i hi => ?_
      by_cases z : i = N
      · subst z
        have k := key (i + (q.length - 1))
        rw [hR _ (by omega), sm_one (a := i) (by omega) (fun i' hi' => ?_)] at k
        · rw [show i + (q.length - 1) - i = q.length - 1 by omega] at k
          exact (Rat.mul_eq_zero.mp k).resolve_right hq0
        · by_cases z2 : i' < i
          · rw [cf_ge (p := q) (by omega), Rat.mul_zero]
          · rw [hN i' (by omega), Rat.zero_mul]
      · exact hN i (by omega)
  have all := dz (r.length + W.length) fun i hi => by rw [cf_ge (p := r) (by omega), cf_ge (p := W) (by omega)]; grind
  intro j
  rw [← key j, show (fun i => (cf r i - cf W i) * cf q (j - i)) = fun _ => 0 by funext i; rw [all i, Rat.zero_mul]]
  have z : ∀ n, sm (fun _ => (0 : Rat)) n = 0 := fun n => by
    induction n with
    | zero => rfl
    | succ n ih => show sm (fun _ => 0) n + 0 = 0; rw [ih, Rat.add_zero]
  exact z _

def bd : Nat → Nat
  | 0 => 256
  | i + 1 => 2 * bd i + 64
theorem bd_mono {i j : Nat} (h : i ≤ j) : bd i ≤ bd j := by
  induction h with
  | refl => exact Nat.le_refl _
  | step _ ih => exact Nat.le_trans ih (by show _ ≤ 2 * bd _ + 64; omega)
theorem bd_13 : bd 13 = 2621376 := by decide
theorem rs_divR {k l : Nat} {x y : Rat} (hx : RS k x) (hy : RS l y) (h0 : y ≠ 0) : RS (k + l) (x / y) := by
  rw [← rat_div]
  exact rs_divInt (Int.mul_ne_zero (den_ne x) (fun z => h0 (Rat.num_eq_zero.mp z))) (pow_mul hx.1 (den_nat hy)) (pow_mul (den_nat hx) hy.1)
theorem rs_neg {k : Nat} {x : Rat} (hx : RS k x) : RS k (-x) := by
  refine ⟨?_, hx.2⟩
  show (-x.num).natAbs < _
  rw [Int.natAbs_neg]; exact hx.1
theorem fr_neg (x : Rat) : D.tup [.int (0 - x.num), .int x.den] = frD (-x) := by
  unfold frD
  rw [Int.zero_sub]; rfl

def s_part (g : Str) : List S := [.ret (.call g [.bin .Mult (.idx (.var 0) (.cint 0)) (.idx (.var 1) (.cint 1)), .bin .Mult (.idx (.var 0) (.cint 1)) (.idx (.var 1) (.cint 0))])]
def s_turned : List S := [
    .ret (.tup [.bin .Sub (.cint 0) (.idx (.var 0) (.cint 0)), .idx (.var 0) (.cint 1)])]
def s_parted : List S := [
    .assign 2 (.blt .list [.var 0]),
    .assign 3 (.bin .Mult (.lst [.glob (Str.ofString "ZERO")]) (.blt .max [.cint 0, .bin .Add (.bin .Sub (.blt .len [.var 0]) (.blt .len [.var 1])) (.cint 1)])),
    .fors [4] true .range [.bin .Sub (.blt .len [.var 3]) (.cint 1), .neg (.cint 1), .neg (.cint 1)] [.assign 5 (.call (Str.ofString "part_of") [.idx (.var 2) (.bin .Sub (.bin .Add (.var 4) (.blt .len [.var 1])) (.cint 1)), .idx (.var 1) (.neg (.cint 1))]), .setitem (.var 3) (.var 4) (.var 5), .fors [6] true .range [.blt .len [.var 1]] [.setitem (.var 2) (.bin .Add (.var 4) (.var 6)) (.call (Str.ofString "sum_of") [.idx (.var 2) (.bin .Add (.var 4) (.var 6)), .call (Str.ofString "turned") [.call (Str.ofString "product_of") [.var 5, .idx (.var 1) (.var 6)]]])]],
    .ret (.tup [.call (Str.ofString "trimmed") [.var 3], .call (Str.ofString "trimmed") [.var 2]])]
def PartOK (c : Cx) (n : Nat) (g : Str) : Prop := IsFn c g ∧ ∀ (x y : Rat) (k l m : Nat) (sto : Sto) (Q : D → Sto → Prop) (X : Str → Prop), n ≤ m → RS k x → RS l y → k + l ≤ 67108864 → y ≠ 0 → Q (frD (x / y)) sto → CallOK c m g [frD x, frD y] sto Q X
section
variable {c : Cx} (CO : CxOK c) (EO : ExcOK c) (RO : RzOK c)
include CO EO RO
theorem part_ok {f g : Str} {p v : List Str} (hf : FnIs c f p v (s_part g)) (hp : p.length = 2) (hg : FrOK c 2 g) : PartOK c 3 f := by
  refine ⟨hf.isFn, fun x y k l m sto Q X hm hx hy hk h0 h => ?_⟩
  obtain ⟨n, rfl⟩ : ∃ n, m = n + 1 := ⟨m - 1, by omega⟩
  refine fn_call CO EO RO hf (by simp [hp]) ?_
  unfold s_part
  walk_at "mine"
  refine e_call hg.1 ?_
  walk_at "mine"
  refine o_mul (mul_ok2 hx.1 (den_nat hy) hk) ?_
  walk_at "mine"
  refine o_mul (mul_ok2 (den_nat hx) hy.1 hk) ?_
  walk_at "mine"
  refine hg.2 _ _ _ _ _ _ (by omega) (Int.mul_ne_zero (den_ne x) (fun z => h0 (Rat.num_eq_zero.mp z))) ?_
  rw [rat_div]
  exact ret_plain h
theorem turned_ok {p v : List Str} (hf : FnIs c (Str.ofString "turned") p v s_turned) (hp : p.length = 1) {x : Rat} {m : Nat} (hm : 1 ≤ m) {sto : Sto} {Q : D → Sto → Prop} {X : Str → Prop} (h : Q (frD (-x)) sto) : CallOK c m (Str.ofString "turned") [frD x] sto Q X := by
  obtain ⟨n, rfl⟩ : ∃ n, m = n + 1 := ⟨m - 1, by omega⟩
  refine fn_call CO EO RO hf (by simp [hp]) ?_
  unfold s_turned
  walk_at "mine"
  refine ⟨by simp [lim], ?_⟩
  rw [fr_neg]
  walk_at "mine"
  exact ret_plain h

/-- what a division gives -/
def IsDiv (p q W R : List Rat) : Prop := (∀ j, cf p j = cv W q j + cf R j) ∧ (∀ j, q.length - 1 ≤ j → cf R j = 0) ∧ RSs 2621500 W ∧ RSs 2621500 R ∧ W.length ≤ 13
theorem parted_ok (hz : c.cs (Str.ofString "ZERO") = some (frD 0)) (hs : SumOK c 3 (Str.ofString "sum_of")) (hpr : ProdOK c 3 (Str.ofString "product_of")) (hpa : PartOK c 3 (Str.ofString "part_of")) (ht : TrimOK c 1 (Str.ofString "trimmed")) {ps' v' : List Str} (htu : FnIs c (Str.ofString "turned") ps' v' s_turned) (htu' : ps'.length = 1) {ps v : List Str} (hf : FnIs c (Str.ofString "parted") ps v s_parted) (hps : ps.length = 2) {p q : List Rat} (hp : RSs 256 p) (hq : RSs 20 q) (hq0 : q ≠ []) (hqw : cf q (q.length - 1) ≠ 0) (hpl : p.length ≤ 13) (hql : q.length ≤ 13) {m : Nat} (hm : 4 ≤ m) {sto : Sto} {Q : D → Sto → Prop} {X : Str → Prop}
    (h : ∀ W R, IsDiv p q W R → Q (.tup [rowD (trimL W), rowD (trimL R)]) sto) : CallOK c m (Str.ofString "parted") [rowD p, rowD q] sto Q X := by
  obtain ⟨n, rfl⟩ : ∃ n, m = n + 1 := ⟨m - 1, by omega⟩
  have hq1 : 1 ≤ q.length := List.length_pos_iff.mpr hq0
  refine fn_call CO EO RO hf (by simp [hps]) ?_
  unfold s_parted
  walk_at "mine"
  refine f_listT (by rw [List.length_map]; unfold lim; omega) fun l2 hl2 => ?_
  walk_at "mine"
  refine e_glob hz ?_
  walk_at "mine"
  refine ⟨by simp [lim], fun l3 hl3 => ?_⟩
  walk_at "mine"
  refine f_lenR (by omega) ?_
  walk_at "mine"
  refine f_lenR (by omega) ?_
  walk_at "mine"
  refine f_max ?_
  refine o_mulL put_same (by simp) (by omega) (by omega) fun l4 hl4 => ?_
  rw [repL_one] at *
  obtain ⟨N, hN⟩ : ∃ N : Nat, (max (0 : Int) ((p.length : Int) - q.length + 1)) = (N : Int) := Int.eq_ofNat_of_zero_le (by omega)
  rw [hN, Int.toNat_natCast]
  have hN13 : N ≤ 13 := by omega
  have hNn : N = 0 ∨ N + q.length = p.length + 1 := by omega
  have hNs : N = 0 → p.length < q.length := by omega
  walk_at "mine"
  refine g_for1 ?_
  walk_at "mine"
  refine f_lenL put_same (by rw [List.length_map, List.length_replicate]; unfold lim; omega) ?_
  rw [List.length_map, List.length_replicate]
  walk_at "mine"
  refine ⟨by simp [smallI]; omega, _, rfl, ?_⟩
  refine forL_inv (fun i σ => ∃ W R : List Rat, W.length = N ∧ R.length = p.length ∧ (∀ j, cf p j = cv W q j + cf R j) ∧ (∀ a, a + i < N → cf W a = 0) ∧ (∀ j, N + q.length ≤ j + 1 + i → q.length ≤ j + 1 → cf R j = 0) ∧ RSs (bd i) R ∧ RSs 2621500 W ∧ σ.loc 1 = some (rowD q) ∧ σ.loc 2 = some (.lst l2) ∧ σ.loc 3 = some (.lst l4) ∧ l2 ≠ l4 ∧ σ.sto l2 = some (.list true (R.map frD)) ∧ σ.sto l4 = some (.list true (W.map frD))) (fun _ _ => False) _ 0 _ ?_ (fun _ _ _ => trivial) ?_ (fun _ _ z => z.elim) ?_
  · have hs2 := put_old (k := Cell.list true ((List.replicate N 0).map frD)) hl4 (put_old hl3 (put_same (s := (startSt [rowD p, rowD q] sto).sto) (l := l2) (k := Cell.list true (p.map frD))))
    refine ⟨List.replicate N 0, p, List.length_replicate, rfl, fun j => ?_, fun a _ => cf_zeros _ _, fun j hj hj2 => cf_ge (by omega), hp, fun j => by rw [cf_zeros]; exact rs_zero (by decide), rfl, rfl, rfl, fun z => ?_, hs2, put_same⟩
    · have : cv (List.replicate N 0) q j = 0 := by
        rw [cv_comm, cv_full]
        have e : (fun i => cf q i * cf (List.replicate N 0) (j - i)) = fun _ => 0 := by funext i; rw [cf_zeros, Rat.mul_zero]
        rw [e]
        exact sm_one (f := fun _ => 0) (a := 0) (by omega) (fun _ _ => rfl)
      rw [this, Rat.zero_add]
    · subst z
      have h4 : Sto.put (Sto.put (startSt [rowD p, rowD q] sto).sto l2 (Cell.list true (p.map frD))) l3 (Cell.list true [frD 0]) l2 = none := hl4
      exact absurd (h4.symm.trans (put_old (s := Sto.put (startSt [rowD p, rowD q] sto).sto l2 (Cell.list true (p.map frD))) hl3 put_same)) (by simp)
  · rintro i d σ K hd ⟨W, R, hW1, hR1, hE, hW0, hR0, hRs, hWs, g1, g2, g3, hne, s2, s4⟩ hn hr
    obtain ⟨hi, hdd⟩ := rangeDn_get hd
    subst hdd
    rw [Nat.zero_add] at hW0 hR0 hRs hn
    have hi : i < N := by omega
    obtain ⟨a, ha⟩ : ∃ a : Nat, N = a + i + 1 := ⟨N - 1 - i, by omega⟩
    have hap : a + q.length ≤ p.length := by omega
    rw [show (N : Int) - 1 - (i : Int) = (a : Int) by omega]
    have hbi : bd i ≤ 2621376 := Nat.le_trans (bd_mono (show i ≤ 13 by omega)) (Nat.le_of_eq bd_13)
    have hbi1 : bd (i + 1) ≤ 2621376 := Nat.le_trans (bd_mono (show i + 1 ≤ 13 by omega)) (Nat.le_of_eq bd_13)
    have hbs : bd (i + 1) = 2 * bd i + 64 := rfl
    walk_at "mine"
    refine e_call hpa.1 ?_
    walk_at "mine"
    refine f_lenR (by omega) ?_
    walk_at "mine"
    rw [show (a : Int) + (q.length : Int) - 1 = ((a + q.length - 1 : Nat) : Int) by omega]
    refine i_rowL s2 (by omega) (by omega) ?_
    walk_at "mine"
    refine i_tup (by rw [List.length_map]; unfold lim; omega) (nth_last hq0) ?_
    walk_at "mine"
    refine hpa.2 _ _ (bd i) 20 _ _ _ _ (by omega) (hRs _) (hq _) (by omega) hqw ?_
    have rt : RS (bd i + 20) (cf R (a + q.length - 1) / cf q (q.length - 1)) := rs_divR (hRs _) (hq _) hqw
    have et : cf R (a + q.length - 1) / cf q (q.length - 1) * cf q (q.length - 1) = cf R (a + q.length - 1) := Rat.div_mul_cancel hqw
    generalize cf R (a + q.length - 1) / cf q (q.length - 1) = t at rt et ⊢
    walk_at "mine"
    refine st_lst s4 (by rw [List.length_map]; unfold lim; omega) (by omega) (by rw [List.length_map]; omega) ?_
    rw [Int.toNat_natCast, set_row]
    refine g_app' (g_for1 ?_)
    walk_at "mine"
    refine f_lenR (by omega) ?_
    walk_at "mine"
    refine ⟨by simp [smallI]; omega, _, rfl, ?_⟩
    refine forL_inv (fun u τ => ∃ G : List Rat, G.length = p.length ∧ (∀ j, cf G j = cf R j + if a ≤ j ∧ j - a < u then -(t * cf q (j - a)) else 0) ∧ τ.loc 1 = some (rowD q) ∧ τ.loc 2 = some (.lst l2) ∧ τ.loc 3 = some (.lst l4) ∧ τ.loc 4 = some (.int a) ∧ τ.loc 5 = some (frD t) ∧ τ.sto l2 = some (.list true (G.map frD)) ∧ τ.sto l4 = some (.list true ((W.set a t).map frD))) (fun _ _ => False) _ 0 _ ?_ (fun _ _ _ => trivial) ?_ (fun _ _ z => z.elim) ?_
    · exact ⟨R, hR1, fun j => by rw [if_neg (fun z => Nat.not_lt_zero _ z.2), Rat.add_zero], g1, g2, g3, rfl, rfl, (put_ne hne).trans s2, put_same⟩
    · rintro u d τ K₂ hd₂ ⟨G, hG1, hG, k1, k2, k3, k4, k5, t2, t4⟩ hn₂ hr₂
      obtain ⟨hu, hdd⟩ := rangeUp_get hd₂
      rw [Int.zero_add] at hdd
      subst hdd
      rw [Nat.zero_add] at hG hn₂
      have hu : u < q.length := by omega
      have e : cf G (a + u) = cf R (a + u) := by rw [hG, if_neg (fun z => by have := z.2; omega), Rat.add_zero]
      walk_at "mine"
      refine e_call hs.1 ?_
      walk_at "mine"
      rw [show (a : Int) + (u : Int) = ((a + u : Nat) : Int) by omega]
      refine i_rowL t2 (by omega) (by omega) ?_
      rw [e]
      walk_at "mine"
      refine e_call htu.isFn ?_
      walk_at "mine"
      refine e_call hpr.1 ?_
      walk_at "mine"
      refine i_row (by omega) hu ?_
      walk_at "mine"
      refine hpr.2 _ _ (bd i + 20) 20 _ _ _ _ (by omega) rt (hq u) (by omega) ?_
      walk_at "mine"
      refine turned_ok CO EO RO htu htu' (by omega) ?_
      walk_at "mine"
      refine hs.2 _ _ (bd i) (bd i + 20 + 20) _ _ _ _ (by omega) (hRs _) (rs_neg (rs_mulR rt (hq u))) (by omega) ?_
      walk_at "mine"
      rw [show (a : Int) + (u : Int) = ((a + u : Nat) : Int) by omega]
      refine st_lst t2 (by rw [List.length_map]; unfold lim; omega) (by omega) (by rw [List.length_map]; omega) ?_
      refine hn₂ _ ⟨G.set (a + u) (cf R (a + u) + -(t * cf q u)), by rw [List.length_set]; exact hG1, fun j => ?_, k1, k2, k3, k4, k5, ?_, ?_⟩
      · rw [cf_set (by omega)]
        by_cases z : j = a + u
        · subst z; rw [if_pos rfl, if_pos ⟨by omega, by omega⟩, show a + u - a = u by omega]
        · rw [if_neg z, hG j]
          congr 1
          by_cases z2 : a ≤ j ∧ j - a < u
          · rw [if_pos z2, if_pos ⟨z2.1, by omega⟩]
          · rw [if_neg z2, if_neg (fun z3 => z2 ⟨z3.1, by omega⟩)]
      · show Sto.put _ _ _ _ = _
        rw [put_same, Int.toNat_natCast, set_row]
      · exact (put_ne (fun z => hne z.symm)).trans t4
    · rintro τ ⟨G, hG1, hG, k1, k2, k3, k4, k5, t2, t4⟩
      rw [Nat.zero_add, rangeUp_len] at hG
      have hG : ∀ j, cf G j = cf R j + if a ≤ j then -(t * cf q (j - a)) else 0 := fun j => by
        rw [hG j]
        congr 1
        by_cases z : a ≤ j
        · rw [if_pos z]
          by_cases z2 : j - a < q.length
          · rw [if_pos ⟨z, by omega⟩]
          · rw [if_neg (fun z3 => z2 (by have := z3.2; omega)), cf_ge (p := q) (by omega), Rat.mul_zero]; rfl
        · rw [if_neg z, if_neg (fun z3 => z z3.1)]
      refine hn _ ⟨W.set a t, G, by rw [List.length_set]; exact hW1, hG1, fun j => ?_, fun b hb => ?_, fun j hj hj2 => ?_, fun j => ?_, fun b => ?_, k1, k2, k3, hne, t2, t4⟩
      · rw [cv_set (by omega) (hW0 a (by omega)), hG j, hE j]
        by_cases z : a ≤ j
        · rw [if_pos z, if_pos z]; grind
        · rw [if_neg z, if_neg z]; grind
      · rw [cf_set (by omega), if_neg (by omega)]; exact hW0 b (by omega)
      · rw [hG j, if_pos (by omega)]
        by_cases z : j = a + q.length - 1
        · subst z
          rw [show a + q.length - 1 - a = q.length - 1 by omega, et]; grind
        · rw [hR0 j (by omega) hj2, cf_ge (p := q) (by omega), Rat.mul_zero]; grind
      · rw [hG j]
        have r2 : RS (bd i + 20 + 20) (if a ≤ j then -(t * cf q (j - a)) else 0) := by
          split
          · exact rs_neg (rs_mulR rt (hq _))
          · exact rs_zero (by omega)
        exact (rs_add (hRs j) r2).mono (by rw [hbs]; omega)
      · rw [cf_set (by omega)]
        split
        · exact rt.mono (by omega)
        · exact hWs b
  · rintro σ ⟨W, R, hW1, hR1, hE, hW0, hR0, hRs, hWs, g1, g2, g3, hne, s2, s4⟩
    rw [Nat.zero_add, rangeDn_len] at hW0 hR0 hRs
    walk_at "mine"
    refine e_call ht.1 ?_
    walk_at "mine"
    refine ht.2 W l4 _ _ _ _ _ (by omega) s4 (by omega) ?_
    walk_at "mine"
    refine e_call ht.1 ?_
    walk_at "mine"
    refine ht.2 R l2 _ _ _ _ _ (by omega) s2 (by omega) ?_
    walk_at "mine"
    refine ⟨by simp [lim], ?_⟩
    walk_at "mine"
    refine ret_plain (h W R ⟨hE, fun j hj => ?_, hWs, fun j => (hRs j).mono ?_, by omega⟩)
    · exact hR0 j (by omega) (by omega)
    · exact Nat.le_trans (bd_mono (show ((N : Int) - 1 - -1).toNat ≤ 13 by omega)) (by rw [bd_13]; omega)
end
end Mine

/-! ## P04 -/
namespace Mine
open PySem

def s_divided : List S := [
    .expr (.call (Str.ofString "need_row") [.var 0]),
    .expr (.call (Str.ofString "need_row") [.var 1]),
    .ifs (.cmp .Eq (.var 1) (.tup [])) [.raise (Str.ofString "Nought") (Str.ofString "a row by nought")] [],
    .ret (.call (Str.ofString "parted") [.var 0, .var 1])]
def s_lawD : List S := [
    .ret (.cmp .Eq (.call (Str.ofString "_law_plus") [.call (Str.ofString "_law_times") [.idx (.var 5) (.cint 0), .var 4], .idx (.var 5) (.cint 1)]) (.var 3))]
def s_lawC : List S := (
    .assign 5 (.call (Str.ofString "divided") [.var 3, .var 4])) :: (
    .ifs (.bool .Or [.not (.isa (.var 5) .tuple), .cmp .NotEq (.blt .len [.var 5]) (.cint 2), .not (.call (Str.ofString "_law_is_row") [.idx (.var 5) (.cint 0)]), .not (.call (Str.ofString "_law_is_row") [.idx (.var 5) (.cint 1)])]) [.ret (.cbool false)] []) :: (
    .ifs (.bool .Or [.cmp .GtE (.blt .len [.idx (.var 5) (.cint 1)]) (.blt .len [.var 4]), .bool .And [.cmp .Eq (.bin .Mod (.idx (.var 1) (.cint 2)) (.cint 4)) (.cint 0), .cmp .NotEq (.idx (.var 5) (.cint 1)) (.tup [])]]) [.ret (.cbool false)] []) :: s_lawD
def s_lawB : List S := (
    .ifs (.cmp .Eq (.blt .len [.var 4]) (.cint 0)) [.tryx [.expr (.call (Str.ofString "divided") [.var 3, .var 4])] (Str.ofString "Nought") none [.ret (.cbool true)], .ret (.cbool false)] []) :: s_lawC
def s_law04 : List S := (
    .assign 1 (.call (Str.ofString "_law_stream") [.call (Str.ofString "_law_cell_at") [.var 0, .cint 0], .cint 3])) :: (
    .assign 2 (.call (Str.ofString "_law_stream") [.call (Str.ofString "_law_cell_at") [.var 0, .cint 1], .cint 2])) :: (
    .assign 3 (.call (Str.ofString "_law_row_by") [.idx (.var 1) (.cint 0), .idx (.lst [.cint 6, .cint 13]) (.blt .int [.cmp .Eq (.bin .Mod (.idx (.var 1) (.cint 1)) (.cint 16)) (.cint 0)])])) :: (
    .assign 4 (.call (Str.ofString "_law_row_by") [.idx (.var 2) (.cint 0), .cint 5])) :: (
    .ifs (.cmp .Eq (.bin .Mod (.idx (.var 1) (.cint 2)) (.cint 4)) (.cint 0)) [.assign 3 (.call (Str.ofString "_law_times") [.var 4, .call (Str.ofString "_law_row_by") [.idx (.var 2) (.cint 1), .cint 4]])] []) :: s_lawB

theorem rw_len {r : List Rat} {n : Nat} (hr : Rw r) (h : ∀ j, n ≤ j → cf r j = 0) : r.length ≤ n := by
  rcases hr with rfl | hr
  · exact Nat.zero_le _
  · by_cases z : r.length ≤ n
    · exact z
    · exact absurd (h _ (by omega)) hr
theorem cv_trim (W q : List Rat) (j : Nat) : cv (trimL W) q j = cv W q j := by
  rw [cv_full, cv_full]
  exact sm_cong fun i _ => by rw [cf_trim]
structure Defs04 (c : Cx) : Prop where
  zero : c.cs (Str.ofString "ZERO") = some (frD 0)
  divisor_of : ∃ p v, FnIs c (Str.ofString "divisor_of") p v s_divisor_of ∧ p.length = 2
  fraction : ∃ p v, FnIs c (Str.ofString "fraction") p v s_fraction ∧ p.length = 2
  is_whole : ∃ p v, FnIs c (Str.ofString "is_whole") p v s__law_whole ∧ p.length = 1
  is_fraction : ∃ p v, FnIs c (Str.ofString "is_fraction") p v s_is_fraction ∧ p.length = 1
  sum_of : ∃ p v, FnIs c (Str.ofString "sum_of") p v (s_sum (Str.ofString "fraction")) ∧ p.length = 2
  product_of : ∃ p v, FnIs c (Str.ofString "product_of") p v (s_prod (Str.ofString "fraction")) ∧ p.length = 2
  part_of : ∃ p v, FnIs c (Str.ofString "part_of") p v (s_part (Str.ofString "fraction")) ∧ p.length = 2
  turned : ∃ p v, FnIs c (Str.ofString "turned") p v s_turned ∧ p.length = 1
  is_row : ∃ p v, FnIs c (Str.ofString "is_row") p v s_is_row ∧ p.length = 1
  need_row : ∃ p v, FnIs c (Str.ofString "need_row") p v s_need_row ∧ p.length = 1
  trimmed : ∃ p v, FnIs c (Str.ofString "trimmed") p v s_trimmed ∧ p.length = 1
  parted : ∃ p v, FnIs c (Str.ofString "parted") p v s_parted ∧ p.length = 2
  divided : ∃ p v, FnIs c (Str.ofString "divided") p v s_divided ∧ p.length = 2
  is_row_l : ∃ p v, FnIs c (Str.ofString "_law_is_row") p v s__law_is_row ∧ p.length = 1
  sum_l : ∃ p v, FnIs c (Str.ofString "_law_sum") p v (s_sum (Str.ofString "_law_fraction")) ∧ p.length = 2
  product_l : ∃ p v, FnIs c (Str.ofString "_law_product") p v (s_prod (Str.ofString "_law_fraction")) ∧ p.length = 2
  trim_l : ∃ p v, FnIs c (Str.ofString "_law_trim") p v s__law_trim ∧ p.length = 1
  plus_l : ∃ p v, FnIs c (Str.ofString "_law_plus") p v s__law_plus ∧ p.length = 2
  scale_l : ∃ p v, FnIs c (Str.ofString "_law_scale") p v s__law_scale ∧ p.length = 2
  times_l : ∃ p v, FnIs c (Str.ofString "_law_times") p v s__law_times ∧ p.length = 2
  row_by_l : ∃ p v, FnIs c (Str.ofString "_law_row_by") p v s__law_row_by ∧ p.length = 2
  nought : ∃ C, c.cls (Str.ofString "Nought") = some C
  sub : c.sub (Str.ofString "Nought") (Str.ofString "Nought") = true
structure Does04 (c : Cx) : Prop where
  divided : IsFn c (Str.ofString "divided") ∧ ∀ (p q : List Rat) (m : Nat) (sto : Sto) (Q : D → Sto → Prop) (X : Str → Prop), 6 ≤ m → Rw p → Rw q → RSs 256 p → RSs 20 q → p.length ≤ 13 → q.length ≤ 13 → (q = [] → X (Str.ofString "Nought")) → (q ≠ [] → ∀ W R, IsDiv p q W R → Q (.tup [rowD (trimL W), rowD (trimL R)]) sto) → CallOK c m (Str.ofString "divided") [rowD p, rowD q] sto Q X
  isrowL : IsFn c (Str.ofString "_law_is_row") ∧ ∀ (p : List Rat) (m : Nat) (sto : Sto) (Q : D → Sto → Prop) (X : Str → Prop), 3 ≤ m → Rw p → p.length ≤ 1000 → Q (.bool true) sto → CallOK c m (Str.ofString "_law_is_row") [rowD p] sto Q X
  plusL : PlusOK c 4 (Str.ofString "_law_plus")
  timesL : TimesOK c 5 (Str.ofString "_law_times")
  rowBy : IsFn c (Str.ofString "_law_row_by") ∧ ∀ (x : Int) (most m : Nat) (sto : Sto) (Q : D → Sto → Prop) (X : Str → Prop), 4 ≤ m → most ≤ 50 → (∀ p, Rw p → p.length ≤ most → RSs 20 p → Q (rowD p) sto) → CallOK c m (Str.ofString "_law_row_by") [.int x, .int most] sto Q X
  nought : ∃ C, c.cls (Str.ofString "Nought") = some C
  sub : c.sub (Str.ofString "Nought") (Str.ofString "Nought") = true

section
variable {c : Cx} (CO : CxOK c) (EO : ExcOK c) (RO : RzOK c)
include CO EO RO
theorem does04 (N : Defs04 c) (LN : LNums c) : Does04 c := by
  obtain ⟨_, _, f1, f1'⟩ := N.divisor_of
  obtain ⟨_, _, f2, f2'⟩ := N.fraction
  obtain ⟨_, _, f3, f3'⟩ := N.is_whole
  obtain ⟨_, _, f4, f4'⟩ := N.is_fraction
  obtain ⟨_, _, f5, f5'⟩ := N.sum_of
  obtain ⟨_, _, f6, f6'⟩ := N.product_of
  obtain ⟨_, _, f7, f7'⟩ := N.is_row
  obtain ⟨_, _, f8, f8'⟩ := N.need_row
  obtain ⟨_, _, f9, f9'⟩ := N.trimmed
  obtain ⟨_, _, g1, g1'⟩ := N.part_of
  obtain ⟨_, _, g2, g2'⟩ := N.turned
  obtain ⟨_, _, g3, g3'⟩ := N.parted
  obtain ⟨_, _, g4, g4'⟩ := N.divided
  obtain ⟨_, _, l1, l1'⟩ := N.is_row_l
  obtain ⟨_, _, l2, l2'⟩ := N.sum_l
  obtain ⟨_, _, l3, l3'⟩ := N.product_l
  obtain ⟨_, _, l4, l4'⟩ := N.trim_l
  obtain ⟨_, _, l5, l5'⟩ := N.plus_l
  obtain ⟨_, _, l6, l6'⟩ := N.scale_l
  obtain ⟨_, _, l7, l7'⟩ := N.times_l
  obtain ⟨_, _, l9, l9'⟩ := N.row_by_l
  obtain ⟨_, _, n1, n1'⟩ := LN.fraction
  obtain ⟨_, _, n2, n2'⟩ := LN.divisor
  obtain ⟨_, _, n3, n3'⟩ := LN.is_fraction
  obtain ⟨_, _, n4, n4'⟩ := LN.whole
  obtain ⟨C, hC⟩ := N.nought
  have frO := fr_ok CO EO RO f2 f2' f1 f1'
  have frL := fr_law CO EO RO n1 n1' n2 n2'
  have sumO := sum_ok CO EO RO f5 f5' frO
  have prodO := prod_ok CO EO RO f6 f6' frO
  have partO := part_ok CO EO RO g1 g1' frO
  have sumL := sum_ok CO EO RO l2 l2' frL
  have prodL := prod_ok CO EO RO l3 l3' frL
  have trimO := trimmed_ok CO EO RO N.zero f9 f9'
  have trimL' := law_trim_ok CO EO RO l4 l4'
  have isfO : IsFrOK c 2 (Str.ofString "is_fraction") := ⟨f4.isFn, fun d m sto Q X hm hk h => by
    obtain ⟨n, rfl⟩ : ∃ n, m = n + 2 := ⟨m - 2, by omega⟩
    exact call_is_fraction CO EO RO f4 f4' f1 f1' f3 f3' hk h⟩
  have isfL : IsFrOK c 2 (Str.ofString "_law_is_fraction") := ⟨n3.isFn, fun d m sto Q X hm hk h => by
    obtain ⟨n, rfl⟩ : ∃ n, m = n + 2 := ⟨m - 2, by omega⟩
    exact call_law_is_fraction CO EO RO n3 n3' n2 n2' n4 n4' hk h⟩
  have rowO := is_row_ok CO EO RO N.zero isfO f7 f7'
  have plL := plus_ok CO EO RO trimL' sumL l5 l5'
  have scL := scale_ok CO EO RO trimL' prodL l6 l6'
  exact {
    divided := ⟨g4.isFn, fun p q m sto Q X hm hp hq kp kq lp lq h0 h => by
      obtain ⟨n, rfl⟩ : ∃ n, m = n + 1 := ⟨m - 1, by omega⟩
      refine fn_call CO EO RO g4 (by simp [g4']) ?_
      unfold s_divided
      walk_at "mine"
      refine e_call f8.isFn ?_
      walk_at "mine"
      refine need_row_ok CO EO RO rowO f8 f8' hp (by omega) (by omega) ?_
      walk_at "mine"
      refine e_call f8.isFn ?_
      walk_at "mine"
      refine need_row_ok CO EO RO rowO f8 f8' hq (by omega) (by omega) ?_
      walk_at "mine"
      refine ⟨by simp [lim], ?_⟩
      refine c_eqD (eq_rows q []) ?_
      walk_at "mine"
      refine if_b (fun hb => ?_) fun hb => ?_
      · walk_at "mine"
        exact g_raise hC (h0 (beq_iff_eq.mp hb))
      · have hne : q ≠ [] := beq_eq_false_iff_ne.mp hb
        walk_at "mine"
        refine e_call g3.isFn ?_
        walk_at "mine"
        exact parted_ok CO EO RO N.zero sumO prodO partO trimO g2 g2' g3 g3' kp kq hne (hq.resolve_left hne) lp lq (by omega) fun W R hD => ret_plain (h hne W R hD)⟩
    isrowL := ⟨l1.isFn, fun p m sto Q X hm hp lp h => law_is_row_ok CO EO RO isfL l1 l1' hp lp hm h⟩
    plusL := plL
    timesL := times_ok CO EO RO plL scL l7 l7'
    rowBy := ⟨l9.isFn, fun x most m sto Q X hm hmo h => row_by_ok CO EO RO LN trimL' l9 l9' hmo hm h⟩
    nought := N.nought
    sub := N.sub }
end

section
variable {c : Cx} (DO : Does04 c) {n : Nat} (hn : 6 ≤ n) {sto : Sto} {X : Str → St → Prop}
include DO hn
theorem law4_D {σ : St} {p q W R : List Rat} (hp : Rw p) (hD : IsDiv p q W R) (kq : RSs 20 q) (lq : q.length ≤ 13) (lr : (trimL R).length ≤ 13) (h3 : σ.loc 3 = some (rowD p)) (h4 : σ.loc 4 = some (rowD q)) (h5 : σ.loc 5 = some (.tup [rowD (trimL W), rowD (trimL R)])) :
    wSs c n true s_lawD (EndQ sto fun d _ => d = .bool true) X σ := by
  obtain ⟨hE, hR0, kW, kR, lW⟩ := hD
  have lw := trim_len W
  have hmul : (2621500 + 20 + 1) * (trimL W).length ≤ 2621521 * 13 := Nat.mul_le_mul (by decide) (by omega)
  unfold s_lawD
  walk_at "mine"
  refine e_call DO.plusL.1 ?_
  walk_at "mine"
  refine e_call DO.timesL.1 ?_
  walk_at "mine"
  refine i_tup (by simp [lim]) rfl ?_
  walk_at "mine"
  refine DO.timesL.2 (trimL W) q 2621500 20 _ _ _ _ (by omega) (rss_trim kW) kq (by rw [Nat.mul_add, Nat.mul_one]; omega) (by omega) (by omega) fun r hr cr lr' kr => ?_
  walk_at "mine"
  refine i_tup (by simp [lim]) rfl ?_
  walk_at "mine"
  refine DO.plusL.2 r (trimL R) _ 2621500 _ _ _ _ (by omega) kr (rss_trim kR) (by omega) (by omega) (by omega) fun s hs _ => ?_
  have e : trimL s = p := row_ext (rw_trim s) hp fun i => by rw [cf_trim, hs i, cr i, cv_trim, cf_trim, hE i]
  rw [e]
  walk_at "mine"
  refine c_eqD (eq_rows _ _) ?_
  rw [beq_self_eq_true]
  exact (ret_plain rfl : Ret sto _ (fun d _ => d = .bool true) (.bool true))

theorem law4_C {σ : St} {p q : List Rat} {l1 : Addr} {o1 : Bool} {x0 x1 x2 : Int} (hp : Rw p) (hq : Rw q) (hq0 : q ≠ []) (kp : RSs 256 p) (kq : RSs 20 q) (lp : p.length ≤ 13) (lq : q.length ≤ 13) (hx : (x2.fmod 4 == 0) = true → ∃ r, IsProd q r p) (g1 : σ.loc 1 = some (.lst l1)) (s1 : σ.sto l1 = some (.list o1 ([x0, x1, x2].map D.int))) (h3 : σ.loc 3 = some (rowD p)) (h4 : σ.loc 4 = some (rowD q)) :
    wSs c n true s_lawC (EndQ sto fun d _ => d = .bool true) X σ := by
  have hq1 : 1 ≤ q.length := List.length_pos_iff.mpr hq0
  unfold s_lawC
  walk_at "mine"
  refine e_call DO.divided.1 ?_
  walk_at "mine"
  refine DO.divided.2 p q _ _ _ _ (by omega) hp hq kp kq lp lq (fun z => absurd z hq0) fun _ W R hD => ?_
  obtain ⟨hE, hR0, kW, kR, lW⟩ := id hD
  have lw := trim_len W
  have lr : (trimL R).length ≤ q.length - 1 := rw_len (rw_trim R) fun j hj => by rw [cf_trim]; exact hR0 j hj
  walk_at "mine"
  refine isa_tup (d := .tup [rowD (trimL W), rowD (trimL R)]) trivial ?_
  walk_at "mine"
  refine if_or (fun z => by cases z) fun _ => ?_
  walk_at "mine"
  refine f_lenT (by simp [lim]) ?_
  walk_at "mine"
  refine if_or (fun z => by cases z) fun _ => ?_
  walk_at "mine"
  refine e_call DO.isrowL.1 ?_
  walk_at "mine"
  refine i_tup (by simp [lim]) rfl ?_
  walk_at "mine"
  refine DO.isrowL.2 _ _ _ _ _ (by omega) (rw_trim W) (by omega) ?_
  walk_at "mine"
  refine if_or (fun z => by cases z) fun _ => ?_
  walk_at "mine"
  refine e_call DO.isrowL.1 ?_
  walk_at "mine"
  refine i_tup (by simp [lim]) rfl ?_
  walk_at "mine"
  refine DO.isrowL.2 _ _ _ _ _ (by omega) (rw_trim R) (by omega) ?_
  walk_at "mine"
  refine if_or (fun z => by cases z) fun _ => ?_
  walk_at "mine"
  refine if_b (fun z => by cases z) fun _ => ?_
  walk_at "mine"
  refine i_tup (by simp [lim]) rfl ?_
  walk_at "mine"
  refine f_lenR (by omega) ?_
  walk_at "mine"
  refine f_lenR (by omega) ?_
  walk_at "mine"
  refine if_or (fun z => ?_) fun _ => ?_
  · have z : ((trimL R).length : Int) ≥ q.length := by simpa using z
    omega
  walk_at "mine"
  refine i_lst s1 (by simp [lim]) rfl ?_
  walk_at "mine"
  refine o_mod (by decide) ?_
  walk_at "mine"
  refine if_and (fun hb => ?_) fun hb => ?_
  · refine if_or (fun z => by rw [hb] at z; cases z) fun _ => ?_
    walk_at "mine"
    refine if_b (fun z => by cases z) fun _ => ?_
    walk_at "mine"
    exact law4_D DO hn hp hD kq lq (by omega) h3 h4 rfl
  · obtain ⟨r, hr⟩ := hx hb
    have rz : trimL R = [] := row_ext (rw_trim R) (.inl rfl) fun i => by
      rw [cf_trim, cf_nil]
      exact div_unique hq0 (hq.resolve_left hq0) (W := W) (r := r) (fun j => by rw [cv_comm r q, ← hr j, hE j]) hR0 i
    walk_at "mine"
    refine i_tup (by simp [lim]) rfl ?_
    walk_at "mine"
    refine ⟨by simp [lim], ?_⟩
    refine c_neD (eq_rows (trimL R) []) ?_
    rw [rz]
    walk_at "mine"
    refine if_and (fun _ => ?_) fun z => by cases z
    refine if_or (fun z => by cases z) fun _ => ?_
    walk_at "mine"
    refine if_b (fun z => by cases z) fun _ => ?_
    walk_at "mine"
    exact law4_D DO hn hp hD kq lq (by omega) h3 h4 (by rw [rz]; rfl)
theorem law4_B {σ : St} {p q : List Rat} {l1 : Addr} {o1 : Bool} {x0 x1 x2 : Int} (hp : Rw p) (hq : Rw q) (kp : RSs 256 p) (kq : RSs 20 q) (lp : p.length ≤ 13) (lq : q.length ≤ 13) (hx : (x2.fmod 4 == 0) = true → ∃ r, IsProd q r p) (g1 : σ.loc 1 = some (.lst l1)) (s1 : σ.sto l1 = some (.list o1 ([x0, x1, x2].map D.int))) (h3 : σ.loc 3 = some (rowD p)) (h4 : σ.loc 4 = some (rowD q)) :
    wSs c n true s_lawB (EndQ sto fun d _ => d = .bool true) X σ := by
  obtain ⟨C, hC⟩ := DO.nought
  unfold s_lawB
  walk_at "mine"
  refine f_lenR (by omega) ?_
  walk_at "mine"
  refine if_b (fun hb => ?_) fun hb => ?_
  · have e : q = [] := by
      have : q.length = 0 := by simpa using hb
      exact List.length_eq_zero_iff.mp this
    refine g_app' (g_try0 hC ?_)
    walk_at "mine"
    refine e_call DO.divided.1 ?_
    walk_at "mine"
    refine DO.divided.2 p q _ _ _ _ (by omega) hp hq kp kq lp lq (fun _ => ⟨DO.sub, ?_⟩) fun z => absurd e z
    walk_at "mine"
    exact (ret_plain rfl : Ret sto _ (fun d _ => d = .bool true) (.bool true))
  · have hq0 : q ≠ [] := fun z => by subst z; cases hb
    walk_at "mine"
    exact law4_C DO hn hp hq hq0 kp kq lp lq hx g1 s1 h3 h4
end

section
variable {c : Cx} (CO : CxOK c) (EO : ExcOK c) (RO : RzOK c)
include CO EO RO
theorem call_law04 (N : Defs04 c) (LN : LNums c) {p v : List Str} (hf : FnIs c (Str.ofString "law") p v s_law04) (hp : p.length = 1) {a : Addr} {is : List Int} {sto : Sto} {o : Bool} (hs : sto a = some (.list o (is.map D.int))) (hl : is.length ≤ 1000) :
    CallOK c 10 (Str.ofString "law") [.lst a] sto (fun d _ => d = .bool true) (fun _ => False) := by
  have DO := does04 CO EO RO N LN
  obtain ⟨_, _, hcell, hcell'⟩ := LN.cell_at
  obtain ⟨_, _, hstr, hstr'⟩ := LN.stream
  refine fn_call CO EO RO hf (by simp [hp]) ?_
  have hs' := ro_at hs
  unfold s_law04
  walk_at "mine"
  refine e_call hstr.isFn ?_
  walk_at "mine"
  refine e_call hcell.isFn ?_
  walk_at "mine"
  refine (call_cell_at CO EO RO (n := 0) hcell hcell' hs' hl (by omega) fun z => ?_).mono (by omega)
  walk_at "mine"
  refine (call_stream CO EO RO (n := 0) (m := 3) hstr hstr' (by omega) fun xs l1 hxl hxb hl1 => ?_).mono (by omega)
  obtain ⟨x0, x1, x2, rfl⟩ : ∃ a b d, xs = [a, b, d] := by
    match xs, hxl with
    | [a, b, d], _ => exact ⟨a, b, d, rfl⟩
  have s1 : Sto.put (Sto.ro sto) l1 (.list true ([x0, x1, x2].map D.int)) a = some (.list false (is.map D.int)) := put_old hl1 hs'
  have s1' : Sto.put (Sto.ro sto) l1 (.list true ([x0, x1, x2].map D.int)) l1 = some (.list true ([x0, x1, x2].map D.int)) := put_same
  generalize Sto.put (Sto.ro sto) l1 (.list true ([x0, x1, x2].map D.int)) = τ1 at *
  walk_at "mine"
  refine e_call hstr.isFn ?_
  walk_at "mine"
  refine e_call hcell.isFn ?_
  walk_at "mine"
  refine (call_cell_at CO EO RO (n := 0) hcell hcell' s1 hl (by omega) fun z => ?_).mono (by omega)
  walk_at "mine"
  refine (call_stream CO EO RO (n := 0) (m := 2) hstr hstr' (by omega) fun ys l2 hyl hyb hl2 => ?_).mono (by omega)
  obtain ⟨y0, y1, rfl⟩ : ∃ a b, ys = [a, b] := by
    match ys, hyl with
    | [a, b], _ => exact ⟨a, b, rfl⟩
  have s2 : Sto.put τ1 l2 (.list true ([y0, y1].map D.int)) l1 = some (.list true ([x0, x1, x2].map D.int)) := put_old hl2 s1'
  have s2' : Sto.put τ1 l2 (.list true ([y0, y1].map D.int)) l2 = some (.list true ([y0, y1].map D.int)) := put_same
  generalize Sto.put τ1 l2 (.list true ([y0, y1].map D.int)) = τ2 at *
  have rest : ∀ (p : List Rat) (σ : St), Rw p → p.length ≤ 13 → RSs 20 p → σ.loc 1 = some (.lst l1) → σ.loc 2 = some (.lst l2) → σ.loc 3 = some (rowD p) → σ.sto l1 = some (.list true ([x0, x1, x2].map D.int)) → σ.sto l2 = some (.list true ([y0, y1].map D.int)) →
      wSs c 9 true ((
    .assign 4 (.call (Str.ofString "_law_row_by") [.idx (.var 2) (.cint 0), .cint 5])) :: (
    .ifs (.cmp .Eq (.bin .Mod (.idx (.var 1) (.cint 2)) (.cint 4)) (.cint 0)) [.assign 3 (.call (Str.ofString "_law_times") [.var 4, .call (Str.ofString "_law_row_by") [.idx (.var 2) (.cint 1), .cint 4]])] []) :: s_lawB) (EndQ sto fun d _ => d = .bool true) (fun k _ => False) σ := fun p σ hp lp kp g1 g2 g3 t1 t2 => by
    walk_at "mine"
    refine e_call DO.rowBy.1 ?_
    walk_at "mine"
    refine i_lst t2 (by simp [lim]) rfl ?_
    walk_at "mine"
    refine DO.rowBy.2 y0 5 _ _ _ _ (by omega) (by omega) fun q hq lq kq => ?_
    walk_at "mine"
    refine i_lst t1 (by simp [lim]) rfl ?_
    walk_at "mine"
    refine o_mod (by decide) ?_
    walk_at "mine"
    refine if_b (fun hb => ?_) fun hb => ?_
    · walk_at "mine"
      refine e_call DO.timesL.1 ?_
      walk_at "mine"
      refine e_call DO.rowBy.1 ?_
      walk_at "mine"
      refine i_lst t2 (by simp [lim]) rfl ?_
      walk_at "mine"
      refine DO.rowBy.2 y1 4 _ _ _ _ (by omega) (by omega) fun r hr lr kr => ?_
      walk_at "mine"
      have hm : (20 + 20 + 1) * q.length ≤ 41 * 5 := Nat.mul_le_mul (by decide) lq
      refine DO.timesL.2 q r 20 20 _ _ _ _ (by omega) kq kr (by rw [Nat.mul_add, Nat.mul_one]; omega) (by omega) (by omega) fun s hs cs _ ks => ?_
      walk_at "mine"
      refine law4_B DO (by omega) hs hq (fun i => (ks i).mono (by omega)) kq ?_ (by omega) (fun _ => ⟨r, cs⟩) g1 t1 rfl rfl
      refine rw_len hs fun j hj => ?_
      rw [cs j, cv_full]
      have e : (fun i => cf q i * cf r (j - i)) = fun _ => 0 := by
        funext i
        by_cases z : i < q.length
        · rw [cf_ge (p := r) (by omega), Rat.mul_zero]
        · rw [cf_ge (p := q) (by omega), Rat.zero_mul]
      rw [e]
      exact sm_one (f := fun _ => 0) (a := 0) (by omega) (fun _ _ => rfl)
    · walk_at "mine"
      exact law4_B DO (by omega) hp hq (fun i => (kp i).mono (by omega)) kq lp (by omega) (fun z => by rw [hb] at z; cases z) g1 t1 g3 rfl
  walk_at "mine"
  refine e_call DO.rowBy.1 ?_
  walk_at "mine"
  refine i_lst s2 (by simp [lim]) rfl ?_
  walk_at "mine"
  refine ⟨by simp [lim], fun l3 hl3 => ?_⟩
  walk_at "mine"
  refine i_lst (put_old hl3 s2) (by simp [lim]) rfl ?_
  walk_at "mine"
  refine o_mod (by decide) ?_
  walk_at "mine"
  refine f_int ?_
  cases hb : (x1.fmod 16 == 0) with
  | true =>
    refine i_lst put_same (by simp [lim]) rfl ?_
    walk_at "mine"
    refine DO.rowBy.2 x0 13 _ _ _ _ (by omega) (by omega) fun p hp lp kp => ?_
    exact rest p _ hp (by omega) kp rfl rfl rfl (put_old hl3 s2) (put_old hl3 s2')
  | false =>
    refine i_lst put_same (by simp [lim]) rfl ?_
    walk_at "mine"
    refine DO.rowBy.2 x0 6 _ _ _ _ (by omega) (by omega) fun p hp lp kp => ?_
    exact rest p _ hp (by omega) kp rfl rfl rfl (put_old hl3 s2) (put_old hl3 s2')
end
end Mine

end

/-! ## H04 -/
open PySem PySem.W PyProof.Rows Mine
/-- two objects of the top: the names, and ZERO -/
def Mine.k04 (P : Params) : Frag := [     (3, { cls := PySem.Value.type "dict", data := PySem.Data.dict #[{ hash := PySem.PyData.keyHash P (PySem.Str.ofString "__name__"), key := PySem.Value.str (PySem.Str.ofString "__name__") 165, val := PySem.Value.str (PySem.Str.ofString "law_uf030008_04") 355 }, { hash := PySem.PyData.keyHash P (PySem.Str.ofString "__doc__"), key := PySem.Value.str (PySem.Str.ofString "__doc__") 166, val := PySem.Value.none }, { hash := PySem.PyData.keyHash P (PySem.Str.ofString "__package__"), key := PySem.Value.str (PySem.Str.ofString "__package__") 167, val := PySem.Value.none }, { hash := PySem.PyData.keyHash P (PySem.Str.ofString "__loader__"), key := PySem.Value.str (PySem.Str.ofString "__loader__") 168, val := PySem.Value.builtin "__main__.__loader__#opaque" }, { hash := PySem.PyData.keyHash P (PySem.Str.ofString "__spec__"), key := PySem.Value.str (PySem.Str.ofString "__spec__") 169, val := PySem.Value.none }, { hash := PySem.PyData.keyHash P (PySem.Str.ofString "__annotations__"), key := PySem.Value.str (PySem.Str.ofString "__annotations__") 170, val := PySem.Value.ref 6 }, { hash := PySem.PyData.keyHash P (PySem.Str.ofString "__builtins__"), key := PySem.Value.str (PySem.Str.ofString "__builtins__") 171, val := PySem.Value.ref 4 }, { hash := PySem.PyData.keyHash P (PySem.Str.ofString "__file__"), key := PySem.Value.str (PySem.Str.ofString "__file__") 173, val := PySem.Value.str (PySem.Str.ofString "/claim/cut.py") 172 }, { hash := PySem.PyData.keyHash P (PySem.Str.ofString "__cached__"), key := PySem.Value.str (PySem.Str.ofString "__cached__") 174, val := PySem.Value.none }, { hash := PySem.PyData.keyHash P (PySem.Str.ofString "PartError"), key := PySem.Value.str (PySem.Str.ofString "PartError") 206, val := PySem.Value.ref 24 }, { hash := PySem.PyData.keyHash P (PySem.Str.ofString "NoRow"), key := PySem.Value.str (PySem.Str.ofString "NoRow") 222, val := PySem.Value.ref 37 }, { hash := PySem.PyData.keyHash P (PySem.Str.ofString "Nought"), key := PySem.Value.str (PySem.Str.ofString "Nought") 238, val := PySem.Value.ref 49 }, { hash := PySem.PyData.keyHash P (PySem.Str.ofString "is_whole"), key := PySem.Value.str (PySem.Str.ofString "is_whole") 247, val := PySem.Value.ref 58 }, { hash := PySem.PyData.keyHash P (PySem.Str.ofString "divisor_of"), key := PySem.Value.str (PySem.Str.ofString "divisor_of") 258, val := PySem.Value.ref 65 }, { hash := PySem.PyData.keyHash P (PySem.Str.ofString "fraction"), key := PySem.Value.str (PySem.Str.ofString "fraction") 267, val := PySem.Value.ref 72 }, { hash := PySem.PyData.keyHash P (PySem.Str.ofString "is_fraction"), key := PySem.Value.str (PySem.Str.ofString "is_fraction") 274, val := PySem.Value.ref 79 }, { hash := PySem.PyData.keyHash P (PySem.Str.ofString "sum_of"), key := PySem.Value.str (PySem.Str.ofString "sum_of") 282, val := PySem.Value.ref 86 }, { hash := PySem.PyData.keyHash P (PySem.Str.ofString "product_of"), key := PySem.Value.str (PySem.Str.ofString "product_of") 290, val := PySem.Value.ref 93 }, { hash := PySem.PyData.keyHash P (PySem.Str.ofString "part_of"), key := PySem.Value.str (PySem.Str.ofString "part_of") 298, val := PySem.Value.ref 100 }, { hash := PySem.PyData.keyHash P (PySem.Str.ofString "turned"), key := PySem.Value.str (PySem.Str.ofString "turned") 305, val := PySem.Value.ref 107 }, { hash := PySem.PyData.keyHash P (PySem.Str.ofString "ZERO"), key := PySem.Value.str (PySem.Str.ofString "ZERO") 310, val := PySem.Value.ref 108 }, { hash := PySem.PyData.keyHash P (PySem.Str.ofString "is_row"), key := PySem.Value.str (PySem.Str.ofString "is_row") 318, val := PySem.Value.ref 115 }, { hash := PySem.PyData.keyHash P (PySem.Str.ofString "need_row"), key := PySem.Value.str (PySem.Str.ofString "need_row") 325, val := PySem.Value.ref 122 }, { hash := PySem.PyData.keyHash P (PySem.Str.ofString "trimmed"), key := PySem.Value.str (PySem.Str.ofString "trimmed") 333, val := PySem.Value.ref 129 }, { hash := PySem.PyData.keyHash P (PySem.Str.ofString "parted"), key := PySem.Value.str (PySem.Str.ofString "parted") 346, val := PySem.Value.ref 136 }, { hash := PySem.PyData.keyHash P (PySem.Str.ofString "divided"), key := PySem.Value.str (PySem.Str.ofString "divided") 354, val := PySem.Value.ref 143 }, { hash := PySem.PyData.keyHash P (PySem.Str.ofString "_law_cell_at"), key := PySem.Value.str (PySem.Str.ofString "_law_cell_at") 364, val := PySem.Value.ref 150 }, { hash := PySem.PyData.keyHash P (PySem.Str.ofString "_law_stream"), key := PySem.Value.str (PySem.Str.ofString "_law_stream") 375, val := PySem.Value.ref 157 }, { hash := PySem.PyData.keyHash P (PySem.Str.ofString "_law_whole"), key := PySem.Value.str (PySem.Str.ofString "_law_whole") 382, val := PySem.Value.ref 164 }, { hash := PySem.PyData.keyHash P (PySem.Str.ofString "_law_divisor"), key := PySem.Value.str (PySem.Str.ofString "_law_divisor") 390, val := PySem.Value.ref 171 }, { hash := PySem.PyData.keyHash P (PySem.Str.ofString "_law_fraction"), key := PySem.Value.str (PySem.Str.ofString "_law_fraction") 399, val := PySem.Value.ref 178 }, { hash := PySem.PyData.keyHash P (PySem.Str.ofString "_law_is_fraction"), key := PySem.Value.str (PySem.Str.ofString "_law_is_fraction") 406, val := PySem.Value.ref 185 }, { hash := PySem.PyData.keyHash P (PySem.Str.ofString "_law_is_row"), key := PySem.Value.str (PySem.Str.ofString "_law_is_row") 414, val := PySem.Value.ref 192 }, { hash := PySem.PyData.keyHash P (PySem.Str.ofString "_law_sum"), key := PySem.Value.str (PySem.Str.ofString "_law_sum") 422, val := PySem.Value.ref 199 }, { hash := PySem.PyData.keyHash P (PySem.Str.ofString "_law_product"), key := PySem.Value.str (PySem.Str.ofString "_law_product") 430, val := PySem.Value.ref 206 }, { hash := PySem.PyData.keyHash P (PySem.Str.ofString "_law_trim"), key := PySem.Value.str (PySem.Str.ofString "_law_trim") 437, val := PySem.Value.ref 213 }, { hash := PySem.PyData.keyHash P (PySem.Str.ofString "_law_plus"), key := PySem.Value.str (PySem.Str.ofString "_law_plus") 443, val := PySem.Value.ref 218 }, { hash := PySem.PyData.keyHash P (PySem.Str.ofString "_law_scale"), key := PySem.Value.str (PySem.Str.ofString "_law_scale") 449, val := PySem.Value.ref 223 }, { hash := PySem.PyData.keyHash P (PySem.Str.ofString "_law_times"), key := PySem.Value.str (PySem.Str.ofString "_law_times") 459, val := PySem.Value.ref 230 }, { hash := PySem.PyData.keyHash P (PySem.Str.ofString "_law_number"), key := PySem.Value.str (PySem.Str.ofString "_law_number") 466, val := PySem.Value.ref 237 }, { hash := PySem.PyData.keyHash P (PySem.Str.ofString "_law_row_by"), key := PySem.Value.str (PySem.Str.ofString "_law_row_by") 472, val := PySem.Value.ref 242 }, { hash := PySem.PyData.keyHash P (PySem.Str.ofString "law"), key := PySem.Value.str (PySem.Str.ofString "law") 484, val := PySem.Value.ref 249 }] 42 }),     (108, { cls := PySem.Value.type "tuple", data := PySem.Data.seq #[PySem.Value.int 0 308, PySem.Value.int 1 309] })] 
theorem Mine.lookup_one {y x : Str} {e d : Mine.D} (h : [(y, e)].lookup x = some d) : x = y ∧ d = e := by
  rw [List.lookup_cons] at h
  by_cases z : x = y
  · subst z
    rw [beq_self_eq_true] at h
    cases h
    exact ⟨rfl, rfl⟩
  · rw [beq_eq_false_iff_ne.mpr z] at h
    cases h
theorem Mine.zero_of {K : Frag} {h : Heap} {mg : Str → Option Value} (X : K.In h) (G : h.Ns mainGlobals mg) (a : Addr) (t u : Tok) (e1 : nsIn K mainGlobals (Str.ofString "ZERO") = some (some (.ref a))) (e2 : K.lookup a = some { cls := .type "tuple", data := .seq #[.int 0 t, .int 1 u] }) : ∀ x d, [(Str.ofString "ZERO", frD 0)].lookup x = some d → ∃ v, mg x = some v ∧ Rep h v d := fun x d hx => by
  have hm := Mine.lookup_one hx
  obtain ⟨rfl, rfl⟩ := hm
  exact ⟨_, mg_of X G e1, .tup (n := 0) (vs := [.int 0 t, .int 1 u]) (X _ _ e2) (.cons (.int 0 t) (.cons (.int 1 u) .nil))⟩
set_option maxHeartbeats 8000000 in
theorem PySem.Challenge.cw_uf030008_04_holds : PySem.Challenge.rw_uf030008_04.Holds := by
  (w_on; o_law; o_head (kHook Mine.k04 [3, 108] (fun _ => rfl)); (case hw => w_witness2))
  intro w s₀ s₁ mg mb G Y fa o pm cd doc dV kV ho hd hcd hD hmg hg args vals as hpre hlay hrd hwl hlo
  have KX := kIn_of Y
  refine Ground.open G ?_
  intro T B D TE TW
  clear ho hd hcd hD Y B D TE TW
  wrow_args hpre hlay hrd hwl hlo
  rename_i is _ _ _ _ _ _ _ la vs _ hL _ _ _ hI _ hlen _
  have hz := Mine.zero_of KX T.g 108 308 309 (by kernel_rfl) (by kernel_rfl)
  obtain ⟨C, CO, EO, RO⟩ := mk_one (prog := Challenge.rw_uf030008_04.row.prog) (w := w) T (by decide +kernel) (by rfl) (by kernel_rfl) hz (Str.ofString "Nought") (by kernel_rfl)
  have hlaw : mg (Str.ofString "law") = some (.ref fa) := hmg
  clear hmg G
  have fn := fun {f : Str} {ps vars : List Str} {ss : List S} e el => fnIs_top (c := mkCx Challenge.rw_uf030008_04.row.prog w s₁.heap mg [(Str.ofString "ZERO", frD 0)] [(Str.ofString "Nought", C)] [(Str.ofString "Nought", Str.ofString "Nought")]) (f := f) (ps := ps) (vars := vars) (ss := ss) T e el
  have call := call_law04 CO EO RO (a := la) (is := is) (o := false) (sto := fun b => if b = la then some (.list false (is.map D.int)) else none)
    ⟨rfl, ⟨_, _, fn (ps := [Str.ofString "one", Str.ofString "other"]) (vars := [Str.ofString "one", Str.ofString "other", Str.ofString "here", Str.ofString "there", Str.ofString "rest"]) (by kernel_rfl) (by kernel_rfl), rfl⟩, ⟨_, _, fn (ps := [Str.ofString "top", Str.ofString "bottom"]) (vars := [Str.ofString "top", Str.ofString "bottom", Str.ofString "by"]) (by kernel_rfl) (by kernel_rfl), rfl⟩, ⟨_, _, fn (ps := [Str.ofString "thing"]) (vars := [Str.ofString "thing"]) (by kernel_rfl) (by kernel_rfl), rfl⟩, ⟨_, _, fn (ps := [Str.ofString "thing"]) (vars := [Str.ofString "thing"]) (by kernel_rfl) (by kernel_rfl), rfl⟩, ⟨_, _, fn (ps := [Str.ofString "one", Str.ofString "other"]) (vars := [Str.ofString "one", Str.ofString "other"]) (by kernel_rfl) (by kernel_rfl), rfl⟩, ⟨_, _, fn (ps := [Str.ofString "one", Str.ofString "other"]) (vars := [Str.ofString "one", Str.ofString "other"]) (by kernel_rfl) (by kernel_rfl), rfl⟩, ⟨_, _, fn (ps := [Str.ofString "one", Str.ofString "other"]) (vars := [Str.ofString "one", Str.ofString "other"]) (by kernel_rfl) (by kernel_rfl), rfl⟩, ⟨_, _, fn (ps := [Str.ofString "one"]) (vars := [Str.ofString "one"]) (by kernel_rfl) (by kernel_rfl), rfl⟩, ⟨_, _, fn (ps := [Str.ofString "thing"]) (vars := [Str.ofString "thing", Str.ofString "one"]) (by kernel_rfl) (by kernel_rfl), rfl⟩, ⟨_, _, fn (ps := [Str.ofString "thing"]) (vars := [Str.ofString "thing"]) (by kernel_rfl) (by kernel_rfl), rfl⟩, ⟨_, _, fn (ps := [Str.ofString "some"]) (vars := [Str.ofString "some", Str.ofString "size"]) (by kernel_rfl) (by kernel_rfl), rfl⟩, ⟨_, _, fn (ps := [Str.ofString "one", Str.ofString "other"]) (vars := [Str.ofString "one", Str.ofString "other", Str.ofString "rest", Str.ofString "whole", Str.ofString "place", Str.ofString "often", Str.ofString "at"]) (by kernel_rfl) (by kernel_rfl), rfl⟩, ⟨_, _, fn (ps := [Str.ofString "one", Str.ofString "other"]) (vars := [Str.ofString "one", Str.ofString "other"]) (by kernel_rfl) (by kernel_rfl), rfl⟩, ⟨_, _, fn (ps := [Str.ofString "_law_found"]) (vars := [Str.ofString "_law_found", Str.ofString "_law_part"]) (by kernel_rfl) (by kernel_rfl), rfl⟩, ⟨_, _, fn (ps := [Str.ofString "_law_one", Str.ofString "_law_other"]) (vars := [Str.ofString "_law_one", Str.ofString "_law_other"]) (by kernel_rfl) (by kernel_rfl), rfl⟩, ⟨_, _, fn (ps := [Str.ofString "_law_one", Str.ofString "_law_other"]) (vars := [Str.ofString "_law_one", Str.ofString "_law_other"]) (by kernel_rfl) (by kernel_rfl), rfl⟩, ⟨_, _, fn (ps := [Str.ofString "_law_row"]) (vars := [Str.ofString "_law_row"]) (by kernel_rfl) (by kernel_rfl), rfl⟩, ⟨_, _, fn (ps := [Str.ofString "_law_one", Str.ofString "_law_other"]) (vars := [Str.ofString "_law_one", Str.ofString "_law_other", Str.ofString "_law_size"]) (by kernel_rfl) (by kernel_rfl), rfl⟩, ⟨_, _, fn (ps := [Str.ofString "_law_row", Str.ofString "_law_number_here"]) (vars := [Str.ofString "_law_row", Str.ofString "_law_number_here"]) (by kernel_rfl) (by kernel_rfl), rfl⟩, ⟨_, _, fn (ps := [Str.ofString "_law_one", Str.ofString "_law_other"]) (vars := [Str.ofString "_law_one", Str.ofString "_law_other", Str.ofString "_law_found", Str.ofString "_law_k"]) (by kernel_rfl) (by kernel_rfl), rfl⟩, ⟨_, _, fn (ps := [Str.ofString "_law_x", Str.ofString "_law_most"]) (vars := [Str.ofString "_law_x", Str.ofString "_law_most", Str.ofString "_law_xs"]) (by kernel_rfl) (by kernel_rfl), rfl⟩, ⟨C, rfl⟩, by rfl⟩
    ⟨⟨_, _, fn (ps := [Str.ofString "_law_script", Str.ofString "_law_k"]) (vars := [Str.ofString "_law_script", Str.ofString "_law_k"]) (by kernel_rfl) (by kernel_rfl), rfl⟩, ⟨_, _, fn (ps := [Str.ofString "_law_cell", Str.ofString "_law_many"]) (vars := [Str.ofString "_law_cell", Str.ofString "_law_many", Str.ofString "_law_found", Str.ofString "_law_number_here", Str.ofString "_law_k"]) (by kernel_rfl) (by kernel_rfl), rfl⟩, ⟨_, _, fn (ps := [Str.ofString "_law_found"]) (vars := [Str.ofString "_law_found"]) (by kernel_rfl) (by kernel_rfl), rfl⟩, ⟨_, _, fn (ps := [Str.ofString "_law_one", Str.ofString "_law_other"]) (vars := [Str.ofString "_law_one", Str.ofString "_law_other"]) (by kernel_rfl) (by kernel_rfl), rfl⟩, ⟨_, _, fn (ps := [Str.ofString "_law_top", Str.ofString "_law_bottom"]) (vars := [Str.ofString "_law_top", Str.ofString "_law_bottom", Str.ofString "_law_by"]) (by kernel_rfl) (by kernel_rfl), rfl⟩, ⟨_, _, fn (ps := [Str.ofString "_law_found"]) (vars := [Str.ofString "_law_found"]) (by kernel_rfl) (by kernel_rfl), rfl⟩, ⟨_, _, fn (ps := [Str.ofString "_law_x"]) (vars := [Str.ofString "_law_x"]) (by kernel_rfl) (by kernel_rfl), rfl⟩⟩ (fn (ps := [Str.ofString "_law_script"]) (vars := [Str.ofString "_law_script", Str.ofString "_law_xs", Str.ofString "_law_ys", Str.ofString "_law_one", Str.ofString "_law_other", Str.ofString "_law_found"]) (by kernel_rfl) (by kernel_rfl)) rfl (by simp) (by omega)
  refine law_end (c := mkCx Challenge.rw_uf030008_04.row.prog w s₁.heap mg [(Str.ofString "ZERO", frD 0)] [(Str.ofString "Nought", C)] [(Str.ofString "Nought", Str.ofString "Nought")]) rfl hlaw hL hI (by omega) call fun h' t hk => ?_
  refine ⟨.inl ⟨_, ofPy (.bool true), [], rfl, ?_, ?_, ?_, ?_⟩, ?_, rfl, ?_⟩
  · exact raisesW_false (by wrow_none_raised)
  · exact .bool true
  · wrow_post
  · intro h; exact ⟨List.nodup_nil, fun a ha => by cases ha⟩
  · exact .of_keep hk
  · exact .of_eq hg
