import PyProof.Rows.All
import PyProof.Calls
import PyProof.Rules2
import PyProof.TupleIter
import PyProof.NoPylong
import PyProof.Rules3
import PyProof.SliceList
import PyProof.Cells
import PyProof.Walks
import PyProof.CompFree
import PyProof.PureInt
import PyProof.Conv_bool
import PyProof.ListOps
import PyProof.Rows.RowHeap
import PyProof.IsRules
import PyProof.ForAppend
import PyProof.WalksMore
import PyProof.RangeFor
import PyProof.IsiPairs
import PyProof.LetGo
import PyProof.ListCopy
import PyProof.ListIndexNeg
import PyProof.WalkInts
import PyProof.P3In
import PyProof.Rows.Globals
import PyProof.Rows.TupAssign
import PyProof.Rows.TupSub
import PyProof.Rows.SeqGen
import PyProof.WalksPairs
import PyProof.Rows.Exc
import PyProof.Rows.Nodes
import PyProof.Rows.RuleB_mul
import PyProof.Rows.RuleB_pow
import PyProof.Rows.RuleB_floordiv
import PyProof.Rows.RuleB_mod
import PyProof.Rows.RuleN_abs
import PyProof.TupleOps
import PyProof.Rows.StrRules
import PyProof.Rows.EqDataRows
import PyProof.RulesMatch
import PyProof.TypeOfCall
import PyProof.TupleOfSeq
import Wide.BridgeG
import OpenK.KLine
import KE.IntBitsLaws
import KE.KItem
import Wide.FinOn
import Wide.All
import Lean
import PySem.Challenge.RW_k4_0032
set_option maxRecDepth 100000
set_option Elab.async false
set_option linter.unusedVariables false
namespace Mine
open PySem PyProof.Rows

/-- the heap only grows -/
def Up (h h' : Heap) : Prop := ∀ b o, h.get? b = some o → h'.get? b = some o
theorem Up.refl (h : Heap) : Up h h := fun _ _ e => e
theorem Up.trans {h h' h'' : Heap} (x : Up h h') (y : Up h' h'') : Up h h'' := fun b o e => y b o (x b o e)
theorem Up.none {h h' : Heap} (x : Up h h') {a : Addr} (e : h'.get? a = none) : h.get? a = none := by
  cases q : h.get? a with
  | none => rfl
  | some o => rw [x a o q] at e; cases e
theorem Up.push (h : Heap) (o : Obj) : Up h (h.push o) := fun _ _ e => Heap.get?_push_of_some o e

abbrev lst (vs : List Value) (n : Nat) : Obj := { cls := .type "list", dict := none, data := .seq vs.toArray n, slots := #[] }
abbrev tup (vs : List Value) (n : Nat) : Obj := { cls := .type "tuple", dict := none, data := .seq vs.toArray n, slots := #[] }

mutual
/-- the value v is the datum d in the heap h; every list in it lies at an address that is ok -/
inductive Rep (ok : Addr → Prop) (h : Heap) : PyData → Value → Prop
  | none : Rep ok h .none .none
  | bool (b : Bool) : Rep ok h (.bool b) (.bool b)
  | int (i : Int) (t : Tok) : Rep ok h (.int i) (.int i t)
  | str (x : Str) (t : Tok) : Rep ok h (.str x) (.str x t)
  | list {a : Addr} {vs : List Value} {n : Nat} {ds : List PyData} : h.get? a = some (lst vs n) → ok a → RepAll ok h ds vs → Rep ok h (.list ds) (.ref a)
  | tuple {a : Addr} {vs : List Value} {n : Nat} {ds : List PyData} : h.get? a = some (tup vs n) → RepAll ok h ds vs → Rep ok h (.tuple ds) (.ref a)
inductive RepAll (ok : Addr → Prop) (h : Heap) : List PyData → List Value → Prop
  | nil : RepAll ok h [] []
  | cons {v : Value} {vs : List Value} {d : PyData} {ds : List PyData} : Rep ok h d v → RepAll ok h ds vs → RepAll ok h (d :: ds) (v :: vs)
end

mutual
theorem Rep.gen {ok ok' : Addr → Prop} {h h' : Heap} (hk : ∀ b vs n, h.get? b = some (lst vs n) → ok b → h'.get? b = some (lst vs n) ∧ ok' b) (ht : ∀ b vs n, h.get? b = some (tup vs n) → h'.get? b = some (tup vs n)) :
    ∀ {d : PyData} {v : Value}, Rep ok h d v → Rep ok' h' d v
  | _, _, .none => .none
  | _, _, .bool b => .bool b
  | _, _, .int i t => .int i t
  | _, _, .str x t => .str x t
  | _, _, .list h1 h2 h3 => .list (hk _ _ _ h1 h2).1 (hk _ _ _ h1 h2).2 (RepAll.gen hk ht h3)
  | _, _, .tuple h1 h3 => .tuple (ht _ _ _ h1) (RepAll.gen hk ht h3)
theorem RepAll.gen {ok ok' : Addr → Prop} {h h' : Heap} (hk : ∀ b vs n, h.get? b = some (lst vs n) → ok b → h'.get? b = some (lst vs n) ∧ ok' b) (ht : ∀ b vs n, h.get? b = some (tup vs n) → h'.get? b = some (tup vs n)) :
    ∀ {ds : List PyData} {vs : List Value}, RepAll ok h ds vs → RepAll ok' h' ds vs
  | _, _, .nil => .nil
  | _, _, .cons h1 h2 => .cons (Rep.gen hk ht h1) (RepAll.gen hk ht h2)
end

section
variable {ok ok' : Addr → Prop} {h h' : Heap} {d : PyData} {v : Value} {ds es : List PyData} {vs ws : List Value}
theorem Rep.up (x : Rep ok h d v) (u : Up h h') : Rep ok h' d v := x.gen (fun b _ _ e o => ⟨u b _ e, o⟩) fun b _ _ e => u b _ e
theorem RepAll.up (x : RepAll ok h ds vs) (u : Up h h') : RepAll ok h' ds vs := x.gen (fun b _ _ e o => ⟨u b _ e, o⟩) fun b _ _ e => u b _ e
theorem Rep.imp (x : Rep ok h d v) (i : ∀ a, ok a → ok' a) : Rep ok' h d v := x.gen (fun b _ _ e o => ⟨e, i b o⟩) fun _ _ _ e => e
theorem RepAll.imp (x : RepAll ok h ds vs) (i : ∀ a, ok a → ok' a) : RepAll ok' h ds vs := x.gen (fun b _ _ e o => ⟨e, i b o⟩) fun _ _ _ e => e
/-- its lists are there -/
theorem Rep.there (x : Rep ok h d v) : Rep (fun a => ok a ∧ h.get? a ≠ Option.none) h d v := x.gen (fun b _ _ e o => ⟨e, o, by rw [e]; intro q; cases q⟩) fun _ _ _ e => e
theorem RepAll.there (x : RepAll ok h ds vs) : RepAll (fun a => ok a ∧ h.get? a ≠ Option.none) h ds vs := x.gen (fun b _ _ e o => ⟨e, o, by rw [e]; intro q; cases q⟩) fun _ _ _ e => e
theorem RepAll.length (x : RepAll ok h ds vs) : vs.length = ds.length := by
  induction vs generalizing ds with
  | nil => cases x; rfl
  | cons v vs ih =>
    cases x with
    | cons _ r => rw [List.length_cons, List.length_cons, ih r]
theorem RepAll.append (x : RepAll ok h ds vs) (y : RepAll ok h es ws) : RepAll ok h (ds ++ es) (vs ++ ws) := by
  induction vs generalizing ds with
  | nil => cases x; exact y
  | cons v vs ih =>
    cases x with
    | cons h r => exact .cons h (ih r)
theorem RepAll.one (x : Rep ok h d v) : RepAll ok h [d] [v] := .cons x .nil
theorem RepAll.get (x : RepAll ok h ds vs) {k : Nat} {d : PyData} (hk : ds[k]? = some d) : ∃ v, vs[k]? = some v ∧ Rep ok h d v := by
  induction vs generalizing ds k with
  | nil => cases x; simp at hk
  | cons v vs ih =>
    cases x with
    | cons h r =>
      cases k with
      | zero => simp at hk; subst hk; exact ⟨v, rfl, h⟩
      | succ k => simpa using ih r (by simpa using hk)
theorem RepAll.getV (x : RepAll ok h ds vs) {k : Nat} {v : Value} (hk : vs[k]? = some v) : ∃ d, ds[k]? = some d ∧ Rep ok h d v := by
  induction vs generalizing ds k with
  | nil => simp at hk
  | cons u vs ih =>
    cases x with
    | cons h r =>
      cases k with
      | zero => simp at hk; subst hk; exact ⟨_, rfl, h⟩
      | succ k => simpa using ih r (by simpa using hk)
theorem RepAll.take (x : RepAll ok h ds vs) (n : Nat) : RepAll ok h (ds.take n) (vs.take n) := by
  induction vs generalizing ds n with
  | nil => cases x; simp; exact .nil
  | cons v vs ih =>
    cases x with
    | cons h r =>
      cases n with
      | zero => exact .nil
      | succ n => exact .cons h (ih r n)
theorem RepAll.drop (x : RepAll ok h ds vs) (n : Nat) : RepAll ok h (ds.drop n) (vs.drop n) := by
  induction vs generalizing ds n with
  | nil => cases x; simp; exact .nil
  | cons v vs ih =>
    cases x with
    | cons h r =>
      cases n with
      | zero => exact .cons h r
      | succ n => exact ih r n
theorem RepAll.set (x : RepAll ok h ds vs) (n : Nat) (y : Rep ok h d v) : RepAll ok h (ds.set n d) (vs.set n v) := by
  induction vs generalizing ds n with
  | nil => cases x; simp; exact .nil
  | cons w vs ih =>
    cases x with
    | cons h r =>
      cases n with
      | zero => exact .cons y r
      | succ n => exact .cons h (ih r n)
end

mutual
theorem Rep.reads {ok : Addr → Prop} {h : Heap} : ∀ {d : PyData} {v : Value}, Rep ok h d v → ∃ as, Reads h v d as
  | _, _, .none => ⟨_, .none⟩
  | _, _, .bool b => ⟨_, .bool b⟩
  | _, _, .int i t => ⟨_, .int i t⟩
  | _, _, .str x t => ⟨_, .str x t⟩
  | _, _, .list h1 _ h3 => let ⟨_, r⟩ := RepAll.reads h3; ⟨_, .list h1 rfl rfl (by simpa using r)⟩
  | _, _, .tuple h1 h3 => let ⟨_, r⟩ := RepAll.reads h3; ⟨_, .tuple h1 rfl rfl (by simpa using r)⟩
theorem RepAll.reads {ok : Addr → Prop} {h : Heap} : ∀ {ds : List PyData} {vs : List Value}, RepAll ok h ds vs → ∃ as, ReadsAll h vs ds as
  | _, _, .nil => ⟨_, .nil⟩
  | _, _, .cons h1 h2 => let ⟨_, r⟩ := Rep.reads h1; let ⟨_, q⟩ := RepAll.reads h2; ⟨_, .cons r q⟩
end

/-- no list in it -/
def atom : PyData → Bool
  | .none | .bool _ | .int _ | .str _ => true
  | _ => false
theorem Rep.atom {ok ok' : Addr → Prop} {h h' : Heap} {d : PyData} {v : Value} (x : Rep ok h d v) (ha : Mine.atom d = true) : Rep ok' h' d v := by
  cases x with
  | none => exact .none
  | bool b => exact .bool b
  | int i t => exact .int i t
  | str x t => exact .str x t
  | list => cases ha
  | tuple => cases ha
theorem RepAll.atoms {ok ok' : Addr → Prop} {h h' : Heap} {ds : List PyData} {vs : List Value} (x : RepAll ok h ds vs) (ha : ds.all Mine.atom = true) : RepAll ok' h' ds vs := by
  induction vs generalizing ds with
  | nil => cases x; exact .nil
  | cons v vs ih =>
    cases x with
    | cons h r =>
      simp only [List.all_cons, Bool.and_eq_true] at ha
      exact .cons (h.atom ha.1) (ih r ha.2)

/-- as Rep, but a list's own address may be any -/
def RepB (ok : Addr → Prop) (h : Heap) (d : PyData) (v : Value) : Prop := match d with
  | .list ds => ∃ a vs n, v = .ref a ∧ h.get? a = some (lst vs n) ∧ RepAll ok h ds vs
  | d => Rep ok h d v
theorem Rep.b {ok : Addr → Prop} {h : Heap} {d : PyData} {v : Value} (x : Rep ok h d v) : RepB ok h d v := by
  cases x with
  | list h1 h2 h3 => exact ⟨_, _, _, rfl, h1, h3⟩
  | none => exact .none
  | bool b => exact .bool b
  | int i t => exact .int i t
  | str x t => exact .str x t
  | tuple h1 h3 => exact .tuple h1 h3
theorem RepB.up {ok : Addr → Prop} {h h' : Heap} {d : PyData} {v : Value} (x : RepB ok h d v) (u : Up h h') : RepB ok h' d v := by
  cases d with
  | list ds => obtain ⟨a, vs, n, e, h1, h3⟩ := x; exact ⟨a, vs, n, e, u _ _ h1, h3.up u⟩
  | _ => exact Rep.up (d := _) x u
theorem RepB.reads {ok : Addr → Prop} {h : Heap} {d : PyData} {v : Value} (x : RepB ok h d v) : ∃ as, Reads h v d as := by
  cases d with
  | list ds =>
    obtain ⟨a, vs, n, e, h1, h3⟩ := x
    obtain ⟨as, r⟩ := h3.reads
    subst e
    exact ⟨_, .list h1 rfl rfl (by simpa using r)⟩
  | _ => exact Rep.reads (d := _) x
/-- any address will do: what is read is there -/
theorem RepB.any {ok : Addr → Prop} {h : Heap} {d : PyData} {v : Value} (x : RepB ok h d v) : Rep (fun _ => True) h d v := by
  cases d with
  | list ds => obtain ⟨a, vs, n, e, h1, h3⟩ := x; subst e; exact .list h1 trivial (h3.imp fun _ _ => trivial)
  | _ => exact Rep.imp (d := _) x fun _ _ => trivial

end Mine

namespace Mine
open PySem PyProof.Rows

/-- what a call finds at the top: the program, the world, the heap at the law's call -/
structure Cx where
  prog : Program
  w : World
  base : Heap
  mg : Str → Option Value
  mb : Str → Option Value
  g : base.Ns mainGlobals mg
  b : base.Ns builtinsNs mb
  lim : base.NoLimit
  bi : ∀ x : Str, x ≠ "__name__" → mb x = bootBuiltins x
  tree : prog.given.tree = none
  seer : base.NoSeer
/-- room for k calls more -/
structure Room (k : Nat) (A : Around) : Prop where
  hh : A.handled = none
  depth : A.depth + k + 100 < recursionLimit
  units : A.units + 8 * k + 80 < cLine
  fr : ∃ l, A.frames = some l
/-- the frame that runs -/
structure TopEnv (A : Around) : Prop where
  is : ∃ e l, A.frames = some (e :: l) ∧ e.scope.isGenerator = false ∧ e.scope.isCoroutine = false ∧ e.builtins = builtinsNs ∧ e.globals = mainGlobals
structure EnvOk (env : Env) : Prop where
  kind : env.scope.kind = .function
  glob : env.globals = mainGlobals
  bi : env.builtins = builtinsNs
/-- the frame's name x holds v -/
def Look (env : Env) (h : Heap) (x : Str) (v : Value) : Prop :=
  (env.kindOf x = some .local ∧ ∃ m, h.Ns env.locals m ∧ m x = some v) ∨
  ((env.kindOf x = some .cell ∨ env.kindOf x = some .free) ∧ ∃ c, env.cells.lookup x = some c ∧ h.IsCell c (some v))
theorem Look.up {env : Env} {h h' : Heap} {x : Str} {v : Value} (l : Look env h x v) (u : Up h h') : Look env h' x v := by
  rcases l with ⟨k, m, n, e⟩ | ⟨k, c, e, i⟩
  · exact .inl ⟨k, m, n.keeps u, e⟩
  · exact .inr ⟨k, c, e, i.keeps u⟩
theorem Look.load {M : Model} {A : Around} {env : Env} {s : Shared} {x : Str} {v : Value} {Q : Value → Shared → Prop} {E : Value → Shared → Prop} (hk : env.scope.kind = .function) (l : Look env s.heap x v) (h : Q v s)
    (hn : (x == ("__classdict__" : Str)) = false) : wpAny M A (loadName env x) Q E s := by
  rcases l with ⟨k, m, n, e⟩ | ⟨k | k, c, e, i⟩
  · exact wpAny_loadName_local hk k n e h
  · exact wpAny_loadName_cell hk k e i h
  · exact wpAny_loadName_free hk k e i h hn

abbrev DEnv := Str → Option (Bool × PyData)
def upd (ρ : DEnv) (x : Str) (md : Bool) (d : PyData) : DEnv := fun y => if y = x then some (md, d) else ρ y

/-- names whose own list may be lent out: it may lie in data of the mode false -/
def lentName (x : Str) : Bool := x == "start" || x == "first" || x == "state"
def okW (ok : Bool → Addr → Prop) (W : Str → Option Addr) (md : Bool) (a : Addr) : Prop := ok md a ∧ ∀ y, W y = some a → lentName y = true ∧ md = false
def Holds1 (ok : Bool → Addr → Prop) (W : Str → Option Addr) (h : Heap) (x : Str) (md : Bool) (d : PyData) (v : Value) : Prop := match W x with
  | none => Rep (okW ok W md) h d v
  | some a => v = .ref a ∧ ∃ ds vs n, d = .list ds ∧ h.get? a = some (lst vs n) ∧ RepAll (okW ok W md) h ds vs
theorem Holds1.up {ok : Bool → Addr → Prop} {W : Str → Option Addr} {h h' : Heap} {x : Str} {md : Bool} {d : PyData} {v : Value} (y : Holds1 ok W h x md d v) (u : Up h h') : Holds1 ok W h' x md d v := by
  unfold Holds1 at *
  split at y
  · exact y.up u
  · obtain ⟨e, ds, vs, n, e', g, r⟩ := y
    exact ⟨e, ds, vs, n, e', u _ _ g, r.up u⟩
theorem Holds1.b {ok : Bool → Addr → Prop} {W : Str → Option Addr} {h : Heap} {x : Str} {md : Bool} {d : PyData} {v : Value} (y : Holds1 ok W h x md d v) : RepB (okW ok W md) h d v := by
  unfold Holds1 at y
  split at y
  · exact y.b
  · obtain ⟨e, ds, vs, n, e', g, r⟩ := y
    subst e'
    exact ⟨_, vs, n, e, g, r⟩

structure Cur (C : Cx) (k : Nat) (A : Around) (ok : Bool → Addr → Prop) (W : Str → Option Addr) (own : List Str) (env : Env) (ρ : DEnv) (s : Shared) : Prop where
  room : Room k A
  top : TopEnv A
  eok : EnvOk env
  up : Up C.base s.heap
  new : ∀ md a, s.heap.get? a = none → ok md a
  le : ∀ a, ok true a → ok false a
  own : ∀ x a, W x = some a → x ∈ own ∧ s.heap.get? a ≠ none ∧ ok false a
  inj : ∀ x y a, W x = some a → W y = some a → x = y
  has : ∀ x md d, ρ x = some (md, d) → ∃ v, Look env s.heap x v ∧ Holds1 ok W s.heap x md d v

section
variable {C : Cx} {k : Nat} {A : Around} {ok : Bool → Addr → Prop} {W : Str → Option Addr} {own : List Str} {env : Env} {ρ : DEnv} {s : Shared}
theorem Cur.on (c : Cur C k A ok W own env ρ s) {h' : Heap} (u : Up s.heap h') (tk : Nat) : Cur C k A ok W own env ρ { s with heap := h', toks := tk } where
  room := c.room
  top := c.top
  eok := c.eok
  up := c.up.trans u
  new := fun md a e => c.new md a (u.none e)
  le := c.le
  own := fun x a e => ⟨(c.own x a e).1, fun q => (c.own x a e).2.1 (u.none q), (c.own x a e).2.2⟩
  inj := c.inj
  has := fun x md d e => let ⟨v, l, y⟩ := c.has x md d e; ⟨v, l.up u, y.up u⟩
theorem Cur.okNew (c : Cur C k A ok W own env ρ s) {a : Addr} (md : Bool) (e : s.heap.get? a = none) : okW ok W md a := ⟨c.new md a e, fun y q => absurd e (c.own y a q).2.1⟩
theorem okW_le (le : ∀ a, ok true a → ok false a) {md md' : Bool} (h : (!md || md') = true) {a : Addr} (x : okW ok W md' a) : okW ok W md a := by
  cases md <;> cases md' <;> first | exact x | exact ⟨le _ x.1, fun y q => absurd (x.2 y q).2 (by decide)⟩ | cases h
end

/-- the expression e of the frame env gives the datum d (its lists not owned by the frame) -/
def Ev (C : Cx) (k : Nat) (env : Env) (own : List Str) (ρ : DEnv) (e : Expr) (md : Bool) (d : PyData) : Prop :=
  ∀ A ok W s Q E, Cur C k A ok W own env ρ s → (∀ v h' tk, Up s.heap h' → Rep (okW ok W md) h' d v → Q v { s with heap := h', toks := tk }) → wpAny (model C.prog C.w) A (eval e env) Q E s
/-- as Ev, but it may be a list that the frame owns -/
def EvB (C : Cx) (k : Nat) (env : Env) (own : List Str) (ρ : DEnv) (e : Expr) (md : Bool) (d : PyData) : Prop :=
  ∀ A ok W s Q E, Cur C k A ok W own env ρ s → (∀ v h' tk, Up s.heap h' → RepB (okW ok W md) h' d v → Q v { s with heap := h', toks := tk }) → wpAny (model C.prog C.w) A (eval e env) Q E s
/-- a list that nothing else holds -/
def EvF (C : Cx) (k : Nat) (env : Env) (own : List Str) (ρ : DEnv) (e : Expr) (md : Bool) (ds : List PyData) : Prop :=
  ∀ A ok W s Q E, Cur C k A ok W own env ρ s → (∀ a vs n h' tk, Up s.heap h' → s.heap.get? a = none → h'.get? a = some (lst vs n) → RepAll (fun b => okW ok W md b ∧ b ≠ a) h' ds vs → Q (.ref a) { s with heap := h', toks := tk }) →
    wpAny (model C.prog C.w) A (eval e env) Q E s
/-- the test e comes out as b -/
def Tst (C : Cx) (k : Nat) (env : Env) (own : List Str) (ρ : DEnv) (e : Expr) (b : Bool) : Prop :=
  ∀ A ok W s Q E, Cur C k A ok W own env ρ s → (∀ h' tk, Up s.heap h' → Q b { s with heap := h', toks := tk }) → wpAny (model C.prog C.w) A (isTrue e env (eval e env)) Q E s
/-- e gives the value v, no object of the call's (a class, a built-in) -/
def EvK (C : Cx) (k : Nat) (env : Env) (own : List Str) (ρ : DEnv) (e : Expr) (v : Value) : Prop :=
  ∀ A ok W s Q E, Cur C k A ok W own env ρ s → (∀ h' tk, Up s.heap h' → Q v { s with heap := h', toks := tk }) → wpAny (model C.prog C.w) A (eval e env) Q E s
/-- the expressions es, one behind the other -/
def Evs (C : Cx) (k : Nat) (env : Env) (own : List Str) (ρ : DEnv) (es : List Expr) (md : Bool) (ds : List PyData) : Prop :=
  ∀ A ok W s Q E (pos : Pos), Cur C k A ok W own env ρ s → (∀ vs h' tk, Up s.heap h' → RepAll (okW ok W md) h' ds vs → Q vs { s with heap := h', toks := tk }) →
    wpAny (model C.prog C.w) A (spliced (backTo pos (starEach es env))) Q E s

section
variable {C : Cx} {k : Nat} {env : Env} {own : List Str} {ρ : DEnv} {e l r : Expr} {es : List Expr} {md md' ml mr : Bool} {d : PyData} {ds : List PyData} {pos : Pos} {i j : Int}

theorem Ev.b (x : Ev C k env own ρ e md d) : EvB C k env own ρ e md d := fun A ok W s Q E c q => x A ok W s Q E c fun v h' tk u y => q v h' tk u y.b
theorem EvB.at (x : EvB C k env own ρ e md' d) (h : atom d = true) : Ev C k env own ρ e md d := fun A ok W s Q E c q => x A ok W s Q E c fun v h' tk u y => q v h' tk u (by
  have z : Rep (okW ok W md') h' d v := by cases d <;> first | exact y | cases h
  exact z.atom h)
theorem EvF.v (x : EvF C k env own ρ e md ds) : Ev C k env own ρ e md (.list ds) := fun A ok W s Q E c q => x A ok W s Q E c fun a vs n h' tk u f g y => q _ h' tk u (.list g (c.okNew md f) (y.imp fun _ z => z.1))
theorem Ev.weak (x : Ev C k env own ρ e true d) : Ev C k env own ρ e false d := fun A ok W s Q E c q => x A ok W s Q E c fun v h' tk u y => q v h' tk u (y.imp fun _ => okW_le c.le rfl)

theorem EvB.name {x : Str} (h : ρ x = some (md', d)) (hm : (!md || md' || atom d) = true := by rfl) (hd : (x == ("__debug__" : Str)) = false := by decide) (hn : (x == ("__classdict__" : Str)) = false := by decide) :
    EvB C k env own ρ (.Name x pos) md d := fun A ok W s Q E c q => by
  obtain ⟨v, lk, y⟩ := c.has x md' d h
  refine wpAny_Name (lk.load c.eok.kind (q v s.heap s.toks (Up.refl _) ?_) hn) hd
  cases ha : atom d with
  | true =>
    have z := y.b
    have z : Rep (okW ok W md') s.heap d v := by cases d <;> first | exact z | cases ha
    exact (z.atom ha).b
  | false =>
    have hm' : (!md || md') = true := by rw [ha] at hm; simpa using hm
    have z := y.b
    cases d with
    | list ds => obtain ⟨a, vs, n, e1, e2, e3⟩ := z; exact ⟨a, vs, n, e1, e2, e3.imp fun _ => okW_le c.le hm'⟩
    | _ => exact Rep.imp (d := _) z fun _ => okW_le c.le hm'
theorem Ev.name {x : Str} (h : ρ x = some (md', d)) (ho : own.contains x = false) (hm : (!md || md' || atom d) = true := by rfl) (hd : (x == ("__debug__" : Str)) = false := by decide) (hn : (x == ("__classdict__" : Str)) = false := by decide) :
    Ev C k env own ρ (.Name x pos) md d := fun A ok W s Q E c q => by
  obtain ⟨v, lk, y⟩ := c.has x md' d h
  refine wpAny_Name (lk.load c.eok.kind (q v s.heap s.toks (Up.refl _) ?_) hn) hd
  have hW : W x = none := by
    cases hw : W x with
    | none => rfl
    | some a =>
      have := (c.own x a hw).1
      rw [← List.contains_iff_mem, ho] at this
      cases this
  unfold Holds1 at y
  rw [hW] at y
  cases ha : atom d with
  | true => exact y.atom ha
  | false =>
    have hm' : (!md || md') = true := by rw [ha] at hm; simpa using hm
    exact y.imp fun _ => okW_le c.le hm'

theorem Ev.int {n : Nat} : Ev C k env own ρ (.Constant (.int i) n pos) md (.int i) := fun _ _ _ s _ _ _ q => wpAny_Constant_int (q _ s.heap _ (Up.refl _) (.int _ _))
theorem Ev.str {x : Str} {n : Nat} : Ev C k env own ρ (.Constant (.str x) n pos) md (.str x) := fun _ _ _ s _ _ _ q => PySem.wpAny_Constant_str (q _ s.heap _ (Up.refl _) (.str _ _))
theorem Ev.bool {x : Bool} {n : Nat} : Ev C k env own ρ (.Constant (.bool x) n pos) md (.bool x) := fun _ _ _ s _ _ _ q => PySem.wpAny_Constant_bool (q _ s.heap s.toks (Up.refl _) (.bool _))
theorem Ev.none {n : Nat} : Ev C k env own ρ (.Constant .none n pos) md .none := fun _ _ _ s _ _ _ q => PySem.wpAny_Constant_none (q _ s.heap s.toks (Up.refl _) .none)

theorem RepB.int_inv {ok : Addr → Prop} {h : Heap} {v : Value} (x : RepB ok h (.int i) v) : ∃ t, v = .int i t := by
  have x : Rep ok h (.int i) v := x
  cases x; exact ⟨_, rfl⟩
theorem RepB.str_inv {ok : Addr → Prop} {h : Heap} {v : Value} {y : Str} (x : RepB ok h (.str y) v) : ∃ t, v = .str y t := by
  have x : Rep ok h (.str y) v := x
  cases x; exact ⟨_, rfl⟩
theorem RepB.bool_inv {ok : Addr → Prop} {h : Heap} {v : Value} {y : Bool} (x : RepB ok h (.bool y) v) : v = .bool y := by
  have x : Rep ok h (.bool y) v := x
  cases x; rfl

/-- two operands, ints -/
theorem two_int (hl : EvB C k env own ρ l false (.int i)) (hr : EvB C k env own ρ r false (.int j)) {A ok W s} {E : Value → Shared → Prop} {F : Value → Value → Sem Value} {Q : Value → Shared → Prop} (c : Cur C k A ok W own env ρ s)
    (h : ∀ t u h' tk, Up s.heap h' → wpAny (model C.prog C.w) A (F (.int i t) (.int j u)) Q E { s with heap := h', toks := tk }) :
    wpAny (model C.prog C.w) A (eval l env) (fun x s₁ => wpAny (model C.prog C.w) A (eval r env) (fun y s₂ => wpAny (model C.prog C.w) A (F x y) Q E s₂) E s₁) E s := by
  refine hl A ok W s _ E c fun v h' tk u y => ?_
  obtain ⟨t, rfl⟩ := y.int_inv
  refine hr A ok W _ _ E (c.on u tk) fun v' h'' tk' u' y' => ?_
  obtain ⟨t', rfl⟩ := y'.int_inv
  exact h t t' h'' tk' (u.trans u')

theorem Ev.add (hl : EvB C k env own ρ l false (.int i)) (hr : EvB C k env own ρ r false (.int j)) : Ev C k env own ρ (.BinOp l .Add r pos) md (.int (i + j)) :=
  fun _ _ _ _ _ _ c q => wpAny_BinOp (two_int hl hr c fun _ _ _ _ u => P.add_int (q _ _ _ u (.int _ _)))
theorem Ev.sub (hl : EvB C k env own ρ l false (.int i)) (hr : EvB C k env own ρ r false (.int j)) : Ev C k env own ρ (.BinOp l .Sub r pos) md (.int (i - j)) :=
  fun _ _ _ _ _ _ c q => wpAny_BinOp (two_int hl hr c fun _ _ _ _ u => P.sub_int (q _ _ _ u (.int _ _)))
theorem Ev.neg (hl : EvB C k env own ρ l false (.int i)) : Ev C k env own ρ (.UnaryOp .USub l pos) md (.int (-i)) := fun A ok W s Q E c q =>
  PySem.wpAny_UnaryOp (hl A ok W s _ E c fun v h' tk u y => by
    obtain ⟨t, rfl⟩ := y.int_inv
    exact P.neg_int (q _ _ _ u (.int _ _)))

theorem Evs.nil : Evs C k env own ρ [] md [] := fun _ _ _ s _ _ _ _ q => args_nil (q [] s.heap s.toks (Up.refl _) .nil)
theorem Evs.cons (h : Ev C k env own ρ e md d) (t : Evs C k env own ρ es md ds) (he : starEach (e :: es) env = (false, eval e env) :: starEach es env := by rfl) : Evs C k env own ρ (e :: es) md (d :: ds) :=
  fun A ok W s Q E pos c q => args_cons (h A ok W s _ E c fun v h' tk u y => t A ok W _ _ E pos (c.on u tk) fun vs h'' tk' u' y' => q _ h'' tk' (u.trans u') (.cons (y.up u') y')) he
end

end Mine

namespace Mine
open PySem PyProof.Rows

/-- what the frame's name x holds, by the two maps of a frame -/
def val (env : Env) (m cm : Str → Option Value) (x : Str) : Option Value :=
  if env.kindOf x = some .local then m x else if env.kindOf x = some .cell then (env.cells.lookup x).bind fun _ => cm x else none
theorem val_look {env : Env} {m cm : Str → Option Value} {h : Heap} {x : Str} {v : Value} (hn : h.Ns env.locals m) (hc : ∀ n c, env.cells.lookup n = some c → h.IsCell c (cm n)) (e : val env m cm x = some v) : Look env h x v := by
  unfold val at e
  split at e
  · rename_i k; exact .inl ⟨k, m, hn, e⟩
  · split at e
    · rename_i k
      cases q : env.cells.lookup x with
      | none => rw [q] at e; cases e
      | some c =>
        rw [q] at e
        have i := hc x c q
        have e' : cm x = some v := e
        rw [e'] at i
        exact .inr ⟨.inl k, c, q, i⟩
    · cases e

/-- an object that is no list and no tuple is changed: data stay -/
theorem Rep.but {ok : Addr → Prop} {h h' : Heap} {c : Addr} {d : PyData} {v : Value} (x : Rep ok h d v) (hs : Heap.SameBut c h h') (hl : ∀ vs n, h.get? c ≠ some (lst vs n)) (ht : ∀ vs n, h.get? c ≠ some (tup vs n)) : Rep ok h' d v :=
  x.gen (fun b vs n e o => ⟨hs.extBut b _ (fun q => hl vs n (q ▸ e)) e, o⟩) fun b vs n e => hs.extBut b _ (fun q => ht vs n (q ▸ e)) e
theorem RepAll.but {ok : Addr → Prop} {h h' : Heap} {c : Addr} {ds : List PyData} {vs : List Value} (x : RepAll ok h ds vs) (hs : Heap.SameBut c h h') (hl : ∀ vs n, h.get? c ≠ some (lst vs n)) (ht : ∀ vs n, h.get? c ≠ some (tup vs n)) : RepAll ok h' ds vs :=
  x.gen (fun b vs n e o => ⟨hs.extBut b _ (fun q => hl vs n (q ▸ e)) e, o⟩) fun b vs n e => hs.extBut b _ (fun q => ht vs n (q ▸ e)) e
theorem Holds1.but {ok : Bool → Addr → Prop} {W : Str → Option Addr} {h h' : Heap} {c : Addr} {x : Str} {md : Bool} {d : PyData} {v : Value} (y : Holds1 ok W h x md d v) (hs : Heap.SameBut c h h') (hl : ∀ vs n, h.get? c ≠ some (lst vs n)) (ht : ∀ vs n, h.get? c ≠ some (tup vs n)) : Holds1 ok W h' x md d v := by
  unfold Holds1 at *
  split at y
  · exact y.but hs hl ht
  · obtain ⟨e, ds, vs, n, e', g, r⟩ := y
    exact ⟨e, ds, vs, n, e', hs.extBut _ _ (fun q => hl vs n (q ▸ g)) g, r.but hs hl ht⟩
theorem ns_no_lst {h : Heap} {L : Addr} {m : Str → Option Value} (hn : h.Ns L m) : (∀ vs n, h.get? L ≠ some (lst vs n)) ∧ (∀ vs n, h.get? L ≠ some (tup vs n)) := by
  obtain ⟨o, es, ep, ho, hd, _⟩ := hn
  constructor <;> intro vs n e <;> rw [ho] at e <;> cases e <;> cases hd
theorem cell_no_lst {h : Heap} {c : Addr} {v : Option Value} (hn : h.IsCell c v) : (∀ vs n, h.get? c ≠ some (lst vs n)) ∧ (∀ vs n, h.get? c ≠ some (tup vs n)) := by
  obtain ⟨o, ho, hd⟩ := hn
  constructor <;> intro vs n e <;> rw [ho] at e <;> cases e <;> cases hd

/-- the state of a frame between two statements -/
structure Sta (C : Cx) (k : Nat) (A : Around) (hN : Heap) (ok : Bool → Addr → Prop) (s₀ : Shared) (Kp : Addr → Obj → Prop) (env : Env) (own : List Str) (W : Str → Option Addr) (ρ : DEnv) (s : Shared) : Prop where
  room : Room k A
  top : TopEnv A
  eok : EnvOk env
  up : Up C.base hN
  new : ∀ md a, hN.get? a = none → ok md a
  le : ∀ a, ok true a → ok false a
  kpN : ∀ b o, hN.get? b = some o → Kp b o
  same : ∃ h tk, s = { s₀ with heap := h, toks := tk }
  keep : ∀ b o, Kp b o → s.heap.get? b = some o
  newL : ∀ o, ¬ Kp env.locals o
  newC : ∀ n c o, env.cells.lookup n = some c → ¬ Kp c o
  apart : env.cells.Pairwise fun x y => x.2 ≠ y.2
  frm : ∃ m cm, s.heap.Ns env.locals m ∧ (∀ n c, env.cells.lookup n = some c → s.heap.IsCell c (cm n)) ∧ ∀ x md d, ρ x = some (md, d) → ∃ v, val env m cm x = some v ∧ Holds1 ok W s.heap x md d v
  own1 : ∀ x, (∃ a, W x = some a) ↔ x ∈ own
  own2 : ∀ x a, W x = some a → (∀ o, ¬ Kp a o) ∧ ∃ vs n, s.heap.get? a = some (lst vs n)
  inj : ∀ x y a, W x = some a → W y = some a → x = y

section
variable {C : Cx} {k : Nat} {A : Around} {hN : Heap} {ok : Bool → Addr → Prop} {s₀ : Shared} {Kp Kp' : Addr → Obj → Prop} {env : Env} {own : List Str} {W : Str → Option Addr} {ρ : DEnv} {s : Shared}
theorem Sta.upH (S : Sta C k A hN ok s₀ Kp env own W ρ s) : Up hN s.heap := fun b o e => S.keep b o (S.kpN b o e)
theorem Sta.cur (S : Sta C k A hN ok s₀ Kp env own W ρ s) : Cur C k A ok W own env ρ s where
  room := S.room
  top := S.top
  eok := S.eok
  up := S.up.trans S.upH
  new := fun md a e => S.new md a (S.upH.none e)
  le := S.le
  own := fun x a e => by
    refine ⟨(S.own1 x).mp ⟨a, e⟩, fun q => ?_, S.new false a ?_⟩
    · obtain ⟨vs, n, g⟩ := (S.own2 x a e).2
      rw [g] at q; cases q
    · cases z : hN.get? a with
      | none => rfl
      | some o => exact absurd (S.kpN a o z) ((S.own2 x a e).1 o)
  inj := S.inj
  has := fun x md d e => let ⟨m, cm, hn, hc, hv⟩ := S.frm; let ⟨v, l, y⟩ := hv x md d e; ⟨v, val_look hn hc l, y⟩
theorem Sta.on (S : Sta C k A hN ok s₀ Kp env own W ρ s) {h' : Heap} (u : Up s.heap h') (tk : Nat) : Sta C k A hN ok s₀ Kp env own W ρ { s with heap := h', toks := tk } where
  room := S.room
  top := S.top
  eok := S.eok
  up := S.up
  new := S.new
  le := S.le
  kpN := S.kpN
  same := let ⟨h, t, e⟩ := S.same; ⟨h', tk, by rw [e]⟩
  keep := fun b o e => u b o (S.keep b o e)
  newL := S.newL
  newC := S.newC
  apart := S.apart
  frm := let ⟨m, cm, hn, hc, hv⟩ := S.frm; ⟨m, cm, hn.keeps u, fun n c e => (hc n c e).keeps u, fun x md d e => let ⟨v, l, y⟩ := hv x md d e; ⟨v, l, y.up u⟩⟩
  own1 := S.own1
  own2 := fun x a e => ⟨(S.own2 x a e).1, let ⟨vs, n, g⟩ := (S.own2 x a e).2; ⟨vs, n, u _ _ g⟩⟩
  inj := S.inj
/-- fewer things kept -/
theorem Sta.lessKp (S : Sta C k A hN ok s₀ Kp' env own W ρ s) (h : ∀ b o, Kp b o → Kp' b o) (hk : ∀ b o, hN.get? b = some o → Kp b o) : Sta C k A hN ok s₀ Kp env own W ρ s where
  room := S.room
  top := S.top
  eok := S.eok
  up := S.up
  new := S.new
  le := S.le
  kpN := hk
  same := S.same
  keep := fun b o e => S.keep b o (h b o e)
  newL := fun o e => S.newL o (h _ _ e)
  newC := fun n c o e q => S.newC n c o e (h _ _ q)
  apart := S.apart
  frm := S.frm
  own1 := S.own1
  own2 := fun x a e => ⟨fun o q => (S.own2 x a e).1 o (h _ _ q), (S.own2 x a e).2⟩
  inj := S.inj
/-- all that is there but the frame's own -/
def keepAll (env : Env) (W : Str → Option Addr) (h : Heap) (b : Addr) (o : Obj) : Prop := h.get? b = some o ∧ b ≠ env.locals ∧ (∀ n c, env.cells.lookup n = some c → b ≠ c) ∧ ∀ x, W x ≠ some b
theorem Sta.kp_sub (S : Sta C k A hN ok s₀ Kp env own W ρ s) : ∀ b o, Kp b o → keepAll env W s.heap b o := fun b o e =>
  ⟨S.keep b o e, fun q => S.newL o (q ▸ e), fun n c q q' => S.newC n c o q (q' ▸ e), fun x q => (S.own2 x b q).1 o e⟩
theorem Sta.moreKp (S : Sta C k A hN ok s₀ Kp env own W ρ s) : Sta C k A hN ok s₀ (keepAll env W s.heap) env own W ρ s where
  room := S.room
  top := S.top
  eok := S.eok
  up := S.up
  new := S.new
  le := S.le
  kpN := fun b o e => S.kp_sub b o (S.kpN b o e)
  same := S.same
  keep := fun b o e => e.1
  newL := fun o e => e.2.1 rfl
  newC := fun n c o e q => q.2.2.1 n c e rfl
  apart := S.apart
  frm := S.frm
  own1 := S.own1
  own2 := fun x a e => ⟨fun o q => q.2.2.2 x e, (S.own2 x a e).2⟩
  inj := S.inj
end

def unW (W : Str → Option Addr) (x : Str) : Str → Option Addr := fun y => if y = x then none else W y
def setW (W : Str → Option Addr) (x : Str) (a : Addr) : Str → Option Addr := fun y => if y = x then some a else W y
def less (own : List Str) (x : Str) : List Str := own.filter fun y => y != x
theorem mem_less {own : List Str} {x y : Str} : y ∈ less own x ↔ y ∈ own ∧ y ≠ x := by simp [less, List.mem_filter]

section
variable {C : Cx} {k : Nat} {A : Around} {hN : Heap} {ok : Bool → Addr → Prop} {s₀ : Shared} {Kp Kp' : Addr → Obj → Prop} {env : Env} {own : List Str} {W : Str → Option Addr} {ρ : DEnv} {s : Shared} {E : Value → Shared → Prop}

theorem okW_unW {x : Str} {md : Bool} {a : Addr} (h : okW ok W md a) : okW ok (unW W x) md a := ⟨h.1, fun y q => by
  unfold unW at q
  split at q
  · cases q
  · exact h.2 y q⟩
theorem Holds1.unW {h : Heap} {x y : Str} {md : Bool} {d : PyData} {v : Value} (z : Holds1 ok W h y md d v) (hy : y ≠ x) : Holds1 ok (Mine.unW W x) h y md d v := by
  have e : Mine.unW W x y = W y := if_neg hy
  unfold Holds1 at *
  rw [e]
  split at z
  · exact z.imp fun _ => okW_unW
  · obtain ⟨e, ds, vs, n, e', g, r⟩ := z
    exact ⟨e, ds, vs, n, e', g, r.imp fun _ => okW_unW⟩
/-- a name of the frame's own, that can be stored -/
def storable (env : Env) (x : Str) : Bool := env.kindOf x == some .local || (env.kindOf x == some .cell && (env.cells.lookup x).isSome)

/-- the store itself: the frame's map is turned, the data stay -/
theorem store_raw (hx : storable env x = true) (hk : env.scope.kind = .function) {m cm : Str → Option Value} (hn : s.heap.Ns env.locals m) (hc : ∀ n c, env.cells.lookup n = some c → s.heap.IsCell c (cm n)) (ap : env.cells.Pairwise fun x y => x.2 ≠ y.2) {v : Value} {Q : Unit → Shared → Prop}
    (h : ∀ h' tk c m' cm', Heap.SameBut c s.heap h' → (∀ vs n, s.heap.get? c ≠ some (lst vs n)) → (∀ vs n, s.heap.get? c ≠ some (tup vs n)) → (c = env.locals ∨ ∃ n, env.cells.lookup n = some c) →
      h'.Ns env.locals m' → (∀ n c, env.cells.lookup n = some c → h'.IsCell c (cm' n)) → val env m' cm' x = some v → (∀ y, y ≠ x → val env m' cm' y = val env m cm y) → Q () { s with heap := h', toks := tk }) :
    wpAny (model C.prog C.w) A (storeName env x v) Q E s := by
  unfold storable at hx
  rcases Bool.or_eq_true_iff.mp hx with e | e
  · have e : env.kindOf x = some .local := by simpa using e
    refine wpAny_storeName_local e hn (fun h' hn' hs => ?_) (by rw [hk]; rfl)
    refine h h' _ env.locals _ cm hs (ns_no_lst hn).1 (ns_no_lst hn).2 (.inl rfl) hn' (fun n c q => (hc n c q).sameBut hs fun z => ?_) ?_ ?_
    · obtain ⟨o, ho, hd⟩ := hc n c q
      obtain ⟨o', es, ep, ho', hd', _⟩ := hn
      rw [z, ho'] at ho; cases ho; rw [hd'] at hd; cases hd
    · simp only [val, e, if_true]
    · intro y hy
      simp only [val, hy, if_false]
  · obtain ⟨e1, e2⟩ := Bool.and_eq_true_iff.mp e
    have e1 : env.kindOf x = some .cell := by simpa using e1
    obtain ⟨c, ec⟩ := Option.isSome_iff_exists.mp e2
    refine wpAny_storeName_cell hk e1 ec (hc x c ec) fun h' hc' hs => ?_
    have hne : env.locals ≠ c := fun z => by
      obtain ⟨o, ho, hd⟩ := hc x c ec
      obtain ⟨o', es, ep, ho', hd', _⟩ := hn
      rw [← z, ho'] at ho; cases ho; rw [hd'] at hd; cases hd
    refine h h' _ c m (fun y => if y = x then some v else cm y) hs (cell_no_lst (hc x c ec)).1 (cell_no_lst (hc x c ec)).2 (.inr ⟨x, ec⟩) (hn.sameBut hs hne) (fun n c' q => ?_) ?_ ?_
    · by_cases hnx : n = x
      · subst hnx; rw [ec] at q; cases q; rw [if_pos rfl]; exact hc'
      · rw [if_neg hnx]
        exact (hc n c' q).sameBut hs fun z => hnx (name_of_addr ap (mem_of_lookup q) (z ▸ mem_of_lookup ec))
    · unfold val; rw [if_neg (by rw [e1]; decide), if_pos e1, ec]; simp
    · intro y hy
      simp only [val, hy, if_false]

/-- x = v, v not owned -/
theorem Sta.store {x : Str} {v : Value} {md : Bool} {d : PyData} {Q : Unit → Shared → Prop} (S : Sta C k A hN ok s₀ Kp env own W ρ s) (hx : storable env x = true) (y : Rep (okW ok W md) s.heap d v)
    (h : ∀ s', Sta C k A hN ok s₀ Kp env (less own x) (unW W x) (upd ρ x md d) s' → Q () s') : wpAny (model C.prog C.w) A (storeName env x v) Q E s := by
  obtain ⟨m, cm, hn, hc, hv⟩ := S.frm
  refine store_raw hx S.eok.kind hn hc S.apart fun h' tk c m' cm' hs n1 n2 hcc hn' hc' e1 e2 => h _ ?_
  have nk : ∀ o, ¬ Kp c o := by
    rcases hcc with e | ⟨n, e⟩
    · rw [e]; exact S.newL
    · exact fun o => S.newC n c o e
  refine { room := S.room, top := S.top, eok := S.eok, up := S.up, new := S.new, le := S.le, kpN := S.kpN, same := ?_, keep := fun b o e => hs.extBut b o (fun q => nk o (q ▸ e)) (S.keep b o e), newL := S.newL, newC := S.newC, apart := S.apart, frm := ?_, own1 := fun z => ?_, own2 := fun z a e => ?_, inj := fun z z' a e e' => ?_ }
  · obtain ⟨h0, t0, e0⟩ := S.same; exact ⟨h', tk, by rw [e0]⟩
  · refine ⟨m', cm', hn', hc', fun z md' d' e => ?_⟩
    unfold upd at e
    split at e
    · rename_i q; subst q; cases e
      refine ⟨v, e1, ?_⟩
      have ew : unW W z z = none := if_pos rfl
      unfold Holds1
      rw [ew]
      exact (y.imp fun _ => okW_unW).but hs n1 n2
    · rename_i q
      obtain ⟨v', l, r⟩ := hv z md' d' e
      exact ⟨v', (e2 z q).trans l, (r.unW q).but hs n1 n2⟩
  · rw [mem_less, ← S.own1 z]
    unfold unW
    constructor
    · rintro ⟨a, e⟩
      split at e
      · cases e
      · rename_i q; exact ⟨⟨a, e⟩, q⟩
    · rintro ⟨⟨a, e⟩, q⟩
      exact ⟨a, by rw [if_neg q]; exact e⟩
  · unfold unW at e
    split at e
    · cases e
    · obtain ⟨g1, vs, n, g2⟩ := S.own2 z a e
      exact ⟨g1, vs, n, hs.extBut a _ (fun q => n1 vs n (q ▸ g2)) g2⟩
  · unfold unW at e e'
    split at e
    · cases e
    · split at e'
      · cases e'
      · exact S.inj z z' a e e'

/-- x = v, v a list that was not there at s -/
theorem Sta.storeOwn {x : Str} {a : Addr} {vs : List Value} {n : Nat} {md : Bool} {ds : List PyData} {h₁ : Heap} {tk₁ : Nat} {Q : Unit → Shared → Prop} (S : Sta C k A hN ok s₀ Kp env own W ρ s) (hx : storable env x = true)
    (u : Up s.heap h₁) (fr : s.heap.get? a = none) (ga : h₁.get? a = some (lst vs n)) (y : RepAll (fun b => okW ok W md b ∧ b ≠ a) h₁ ds vs)
    (h : ∀ s', Sta C k A hN ok s₀ Kp env (x :: less own x) (setW W x a) (upd ρ x md (.list ds)) s' → Q () s') : wpAny (model C.prog C.w) A (storeName env x (.ref a)) Q E { s with heap := h₁, toks := tk₁ } := by
  have S₁ := S.on u tk₁
  obtain ⟨m, cm, hn0, hc0, hv0⟩ := S.frm
  have hn : h₁.Ns env.locals m := hn0.keeps u
  have hc : ∀ n c, env.cells.lookup n = some c → h₁.IsCell c (cm n) := fun n c e => (hc0 n c e).keeps u
  have avoid : ∀ {md : Bool} {b : Addr}, okW ok W md b → b ≠ a → okW ok (setW W x a) md b := fun q ne => ⟨q.1, fun z e => by
    unfold setW at e
    split at e
    · cases e; exact absurd rfl ne
    · exact q.2 z e⟩
  refine store_raw (s := { s with heap := h₁, toks := tk₁ }) hx S.eok.kind hn hc S.apart fun h' tk c m' cm' hs n1 n2 hcc hn' hc' e1 e2 => h _ ?_
  have nk : ∀ o, ¬ Kp c o := by
    rcases hcc with e | ⟨n, e⟩
    · rw [e]; exact S.newL
    · exact fun o => S.newC n c o e
  have hca : a ≠ c := fun q => n1 vs n (q ▸ ga)
  refine { room := S.room, top := S.top, eok := S.eok, up := S.up, new := S.new, le := S.le, kpN := S.kpN, same := ?_, keep := fun b o e => hs.extBut b o (fun q => nk o (q ▸ e)) (S₁.keep b o e), newL := S.newL, newC := S.newC, apart := S.apart, frm := ?_, own1 := fun z => ?_, own2 := fun z b e => ?_, inj := fun z z' b e e' => ?_ }
  · obtain ⟨h0, t0, e0⟩ := S.same; exact ⟨h', tk, by rw [e0]⟩
  · refine ⟨m', cm', hn', hc', fun z md' d' e => ?_⟩
    unfold upd at e
    split at e
    · rename_i q; subst q; cases e
      refine ⟨_, e1, ?_⟩
      have ew : setW W z a z = some a := if_pos rfl
      unfold Holds1
      rw [ew]
      exact ⟨rfl, ds, vs, n, rfl, hs.extBut a _ hca ga, (y.imp fun b q => avoid q.1 q.2).but hs n1 n2⟩
    · rename_i q
      -- its lists were there at s, so none of them is a
      have hW : setW W x a z = W z := if_neg q
      obtain ⟨v', l, r⟩ := hv0 z md' d' e
      refine ⟨v', (e2 z q).trans l, ?_⟩
      have key : Holds1 ok (setW W x a) s.heap z md' d' v' := by
        unfold Holds1 at *
        rw [hW]
        split at r
        · exact r.there.imp fun b p => avoid p.1 fun q => p.2 (q ▸ fr)
        · obtain ⟨p1, ds', vs', n', p2, p3, p4⟩ := r
          exact ⟨p1, ds', vs', n', p2, p3, p4.there.imp fun b p => avoid p.1 fun q => p.2 (q ▸ fr)⟩
      exact (key.up u).but hs n1 n2
  · rw [List.mem_cons, mem_less, ← S.own1 z]
    unfold setW
    constructor
    · rintro ⟨b, e⟩
      split at e
      · rename_i q; exact .inl q
      · rename_i q; exact .inr ⟨⟨b, e⟩, q⟩
    · rintro (q | ⟨⟨b, e⟩, q⟩)
      · exact ⟨a, by rw [if_pos q]⟩
      · exact ⟨b, by rw [if_neg q]; exact e⟩
  · unfold setW at e
    split at e
    · cases e
      refine ⟨fun o q => ?_, vs, n, hs.extBut a _ hca ga⟩
      have := S.keep _ _ q
      rw [fr] at this
      cases this
    · obtain ⟨g1, vs', n', g2⟩ := S₁.own2 z b e
      exact ⟨g1, vs', n', hs.extBut b _ (fun q => n1 vs' n' (q ▸ g2)) g2⟩
  · have away : ∀ z, W z ≠ some a := fun z q => by obtain ⟨vs', n', g⟩ := (S.own2 z a q).2; rw [fr] at g; cases g
    unfold setW at e e'
    split at e
    · cases e
      split at e'
      · rename_i q q'; rw [q, q']
      · exact absurd e' (away _)
    · split at e'
      · cases e'; exact absurd e (away _)
      · exact S.inj z z' b e e'
end

end Mine

namespace Mine
open PySem PyProof.Rows

inductive Out where
  | next (own : List Str) (ρ : DEnv)
  | brk (own : List Str) (ρ : DEnv)
  | cont (own : List Str) (ρ : DEnv)
  | ret (md : Bool) (d : PyData)

structure Fits (C : Cx) (k : Nat) (A : Around) (hN : Heap) (ok : Bool → Addr → Prop) (s₀ : Shared) (Kp : Addr → Obj → Prop) (env : Env) (P : Out → Prop) (Q : Flow → Shared → Prop) : Prop where
  next : ∀ own W ρ s, P (.next own ρ) → Sta C k A hN ok s₀ Kp env own W ρ s → Q .next s
  brk : ∀ own W ρ s, P (.brk own ρ) → Sta C k A hN ok s₀ Kp env own W ρ s → Q .brk s
  cont : ∀ own W ρ s, P (.cont own ρ) → Sta C k A hN ok s₀ Kp env own W ρ s → Q .cont s
  ret : ∀ md d v s, P (.ret md d) → (∃ h tk, s = { s₀ with heap := h, toks := tk }) → (∀ b o, Kp b o → s.heap.get? b = some o) → Rep (ok md) s.heap d v → Q (.ret v) s

/-- the statements of the frame env end in one of the ways P -/
def Ex (C : Cx) (k : Nat) (env : Env) (own : List Str) (ρ : DEnv) (body : List Stmt) (P : Out → Prop) : Prop :=
  ∀ A hN ok s₀ Kp W s Q E, Sta C k A hN ok s₀ Kp env own W ρ s → Fits C k A hN ok s₀ Kp env P Q → wpAny (model C.prog C.w) A (execs body env) Q E s
def Ex1 (C : Cx) (k : Nat) (env : Env) (own : List Str) (ρ : DEnv) (st : Stmt) (P : Out → Prop) : Prop :=
  ∀ A hN ok s₀ Kp W s Q E, Sta C k A hN ok s₀ Kp env own W ρ s → Fits C k A hN ok s₀ Kp env P Q → wpAny (model C.prog C.w) A (exec st env) Q E s

section
variable {C : Cx} {k : Nat} {env : Env} {own : List Str} {ρ : DEnv} {st : Stmt} {rest body orelse : List Stmt} {P P' : Out → Prop} {e : Expr} {x : Str} {md md' : Bool} {d : PyData} {ds : List PyData} {pos pos' : Pos}

theorem Fits.mono {A hN ok s₀ Kp Q} (f : Fits C k A hN ok s₀ Kp env P Q) (h : ∀ o, P' o → P o) : Fits C k A hN ok s₀ Kp env P' Q where
  next := fun own W ρ s p => f.next own W ρ s (h _ p)
  brk := fun own W ρ s p => f.brk own W ρ s (h _ p)
  cont := fun own W ρ s p => f.cont own W ρ s (h _ p)
  ret := fun md d v s p => f.ret md d v s (h _ p)
theorem Ex.mono (x : Ex C k env own ρ body P') (h : ∀ o, P' o → P o) : Ex C k env own ρ body P := fun A hN ok s₀ Kp W s Q E S f => x A hN ok s₀ Kp W s Q E S (f.mono h)

theorem Ex.nil (h : P (.next own ρ)) : Ex C k env own ρ [] P := fun A hN ok s₀ Kp W s Q E S f => wpAny_execs_nil (f.next own W ρ s h S)
/-- a statement, and what is behind it -/
theorem Ex.seq (h1 : Ex1 C k env own ρ st P') (h2 : ∀ own' ρ', P' (.next own' ρ') → Ex C k env own' ρ' rest P) (h3 : ∀ o, P' o → (∀ own' ρ', o ≠ .next own' ρ') → P o) : Ex C k env own ρ (st :: rest) P :=
  fun A hN ok s₀ Kp W s Q E S f => wpAny_execs_cons (h1 A hN ok s₀ Kp W s _ E S
    { next := fun own' W' ρ' s' p S' => h2 own' ρ' p A hN ok s₀ Kp W' s' Q E S' f
      brk := fun own' W' ρ' s' p S' => f.brk own' W' ρ' s' (h3 _ p fun _ _ q => nomatch q) S'
      cont := fun own' W' ρ' s' p S' => f.cont own' W' ρ' s' (h3 _ p fun _ _ q => nomatch q) S'
      ret := fun md d v s' p => f.ret md d v s' (h3 _ p fun _ _ q => nomatch q) })
/-- a plain statement -/
theorem Ex.plain {own' : List Str} {ρ' : DEnv} (h1 : ∀ A hN ok s₀ Kp W s (Q : Flow → Shared → Prop) E, Sta C k A hN ok s₀ Kp env own W ρ s → (∀ W' s', Sta C k A hN ok s₀ Kp env own' W' ρ' s' → Q .next s') → wpAny (model C.prog C.w) A (exec st env) Q E s)
    (h2 : Ex C k env own' ρ' rest P) : Ex C k env own ρ (st :: rest) P :=
  fun A hN ok s₀ Kp W s Q E S f => wpAny_execs_cons (h1 A hN ok s₀ Kp W s _ E S fun W' s' S' => h2 A hN ok s₀ Kp W' s' Q E S' f)

theorem Ex.assign (he : Ev C k env own ρ e md d) (h : Ex C k env (less own x) (upd ρ x md d) rest P) (hx : storable env x = true := by rfl)
    (hs : swapsWith e (some (.Name x pos')) pos.line env = pure false := by rfl) : Ex C k env own ρ (.Assign [.Name x pos'] e pos :: rest) P :=
  Ex.plain (fun A hN ok s₀ Kp W s Q E S q => wpAny_Assign_Name (he A ok W s _ E S.cur fun v h' tk u y => (S.on u tk).store hx y fun s' S' => q _ s' S') hs) h
theorem Ex.assignOwn (he : EvF C k env own ρ e md ds) (h : Ex C k env (x :: less own x) (upd ρ x md (.list ds)) rest P) (hx : storable env x = true := by rfl)
    (hs : swapsWith e (some (.Name x pos')) pos.line env = pure false := by rfl) : Ex C k env own ρ (.Assign [.Name x pos'] e pos :: rest) P :=
  Ex.plain (fun A hN ok s₀ Kp W s Q E S q => wpAny_Assign_Name (he A ok W s _ E S.cur fun a vs n h' tk u fr g y => S.storeOwn hx u fr g y fun s' S' => q _ s' S') hs) h

/-- x is no longer the frame's alone -/
theorem Sta.drop {A hN ok s₀ Kp W s} (x : Str) (S : Sta C k A hN ok s₀ Kp env own W ρ s) : Sta C k A hN ok s₀ Kp env (less own x) (unW W x) ρ s where
  room := S.room
  top := S.top
  eok := S.eok
  up := S.up
  new := S.new
  le := S.le
  kpN := S.kpN
  same := S.same
  keep := S.keep
  newL := S.newL
  newC := S.newC
  apart := S.apart
  frm := by
    obtain ⟨m, cm, hn, hc, hv⟩ := S.frm
    refine ⟨m, cm, hn, hc, fun z md' d' e => ?_⟩
    obtain ⟨v, l, r⟩ := hv z md' d' e
    refine ⟨v, l, ?_⟩
    by_cases q : z = x
    · subst q
      have ew : unW W z z = none := if_pos rfl
      unfold Holds1 at r ⊢
      rw [ew]
      split at r
      · exact r.imp fun _ => okW_unW
      · rename_i a wa
        obtain ⟨e1, ds, vs, n, e2, g, r⟩ := r
        subst e1 e2
        refine .list g ⟨S.new _ _ ?_, fun y e => ?_⟩ (r.imp fun _ => okW_unW)
        · cases hq : hN.get? a with
          | none => rfl
          | some o => exact absurd (S.kpN _ _ hq) ((S.own2 z a wa).1 o)
        · unfold unW at e
          split at e
          · cases e
          · rename_i ne; exact absurd (S.inj y z a e wa) ne
    · exact r.unW q
  own1 := fun z => by
    rw [mem_less, ← S.own1 z]
    unfold unW
    constructor
    · rintro ⟨a, e⟩
      split at e
      · cases e
      · rename_i q; exact ⟨⟨a, e⟩, q⟩
    · rintro ⟨⟨a, e⟩, q⟩
      exact ⟨a, by rw [if_neg q]; exact e⟩
  own2 := fun z a e => by
    unfold unW at e
    split at e
    · cases e
    · exact S.own2 z a e
  inj := fun z z' a e e' => by
    unfold unW at e e'
    split at e
    · cases e
    · split at e'
      · cases e'
      · exact S.inj z z' a e e'
theorem Ex.drop (x : Str) (h : Ex C k env (less own x) ρ body P) : Ex C k env own ρ body P := fun A hN ok s₀ Kp W s Q E S f => h A hN ok s₀ Kp _ s Q E (S.drop x) f
/-- nothing is the frame's alone -/
theorem Ex.free (h : Ex C k env [] ρ body P) : Ex C k env own ρ body P := by
  have : ∀ (n : Nat) (own : List Str), own.length ≤ n → Ex C k env own ρ body P := by
    intro n
    induction n with
    | zero => intro own hl; cases own with
      | nil => exact h
      | cons x r => simp at hl
    | succ n ih =>
      intro own hl
      cases own with
      | nil => exact h
      | cons x r =>
        refine Ex.drop x (ih _ ?_)
        have : (less (x :: r) x).length ≤ r.length := by simp [less]; exact List.length_filter_le _ _
        simp at hl
        omega
  exact this _ own (Nat.le_refl _)

theorem Ex.ret (he : Ev C k env own ρ e md d) (h : P (.ret md d)) : Ex C k env own ρ (.Return (some e) pos :: rest) P := fun A hN ok s₀ Kp W s Q E S f =>
  wpAny_execs_cons (wpAny_Return_some (he A ok W s _ E S.cur fun v h' tk u y => f.ret md d v _ h (let ⟨h0, t0, e0⟩ := S.same; ⟨h', tk, by rw [e0]⟩) (fun b o q => u b o (S.keep b o q)) (y.imp fun _ q => q.1)))
theorem Ex.brk_ (h : P (.brk own ρ)) : Ex C k env own ρ (.Break pos :: rest) P := fun A hN ok s₀ Kp W s Q E S f => wpAny_execs_cons (PySem.wpAny_Break (f.brk own W ρ s h S))

theorem execs_append (rest : List Stmt) (env : Env) : ∀ b : List Stmt, execs (b ++ rest) env = (execs b env >>= fun f => match f with | .next => execs rest env | f => pure f)
  | [] => by show execs rest env = (pure Flow.next >>= _); rw [pure_bind]
  | st :: b => by
    rw [List.cons_append, execs_cons, execs_cons, bind_assoc]
    congr 1
    funext f
    cases f with
    | next => exact execs_append rest env b
    | _ => simp
theorem Ex.if_ {t : Expr} {b : Bool} (ht : Tst C k env own ρ t b) (h1 : b = true → Ex C k env own ρ (body ++ rest) P) (h2 : b = false → Ex C k env own ρ (orelse ++ rest) P) : Ex C k env own ρ (.If t body orelse pos :: rest) P := by
  intro A hN ok s₀ Kp W s Q E S f Γ p hΓ
  rw [execs_cons, Sem.wp_bind', exec_If, Sem.wp_bind', Sem.wp_cmd_standAt, Sem.wp_bind']
  refine ht A ok W s (fun b s' => ∀ p', Sem.wp (model C.prog C.w) Γ (if b = true then execs body env else execs orelse env) (fun x p'' s'' => Sem.wp (model C.prog C.w) Γ (match x with | .next => execs rest env | f => pure f) (fun a _ s' => Q a s') (fun e _ s' => E e s') p'' s'') (fun e _ s' => E e s') p' s') E S.cur (fun h' tk u p' => ?_) Γ pos hΓ |> fun z => Sem.wp_mono _ Γ _ (fun b' p' s' q => q p') (fun _ _ _ q => q) _ _ z
  cases b with
  | true =>
    have z := h1 rfl A hN ok s₀ Kp W _ Q E (S.on u tk) f Γ p' hΓ
    rw [execs_append, Sem.wp_bind'] at z
    exact z
  | false =>
    have z := h2 rfl A hN ok s₀ Kp W _ Q E (S.on u tk) f Γ p' hΓ
    rw [execs_append, Sem.wp_bind'] at z
    exact z
end

end Mine

namespace Mine
open PySem PyProof.Rows

/-- data that the frame does not own stay from h to h', and are not owned there -/
structure Carry (W : Str → Option Addr) (h : Heap) (W' : Str → Option Addr) (h' : Heap) : Prop where
  l : ∀ (md : Bool) b vs n, h.get? b = some (lst vs n) → (∀ y, W y = some b → lentName y = true ∧ md = false) → h'.get? b = some (lst vs n) ∧ ∀ y, W' y = some b → lentName y = true ∧ md = false
  t : ∀ b vs n, h.get? b = some (tup vs n) → h'.get? b = some (tup vs n)
section
variable {ok : Bool → Addr → Prop} {W W' W'' : Str → Option Addr} {h h' h'' : Heap} {md : Bool} {d : PyData} {v : Value} {ds : List PyData} {vs : List Value}
theorem Rep.carry (x : Rep (okW ok W md) h d v) (c : Carry W h W' h') : Rep (okW ok W' md) h' d v :=
  x.gen (fun b vs n e o => ⟨(c.l md b vs n e o.2).1, o.1, (c.l md b vs n e o.2).2⟩) c.t
theorem RepAll.carry (x : RepAll (okW ok W md) h ds vs) (c : Carry W h W' h') : RepAll (okW ok W' md) h' ds vs :=
  x.gen (fun b vs n e o => ⟨(c.l md b vs n e o.2).1, o.1, (c.l md b vs n e o.2).2⟩) c.t
theorem Carry.up (u : Up h h') : Carry W h W h' := ⟨fun _ b vs n e o => ⟨u _ _ e, o⟩, fun b vs n e => u _ _ e⟩
theorem Carry.but {c : Addr} (u : ∀ b o, b ≠ c → h.get? b = some o → h'.get? b = some o) (hl : ∀ vs n, h.get? c ≠ some (lst vs n)) (ht : ∀ vs n, h.get? c ≠ some (tup vs n)) : Carry W h W h' :=
  ⟨fun _ b vs n e o => ⟨u b _ (fun q => hl vs n (q ▸ e)) e, o⟩, fun b vs n e => u b _ (fun q => ht vs n (q ▸ e)) e⟩
theorem Carry.trans (x : Carry W h W' h') (y : Carry W' h' W'' h'') : Carry W h W'' h'' :=
  ⟨fun m b vs n e o => y.l m b vs n (x.l m b vs n e o).1 (x.l m b vs n e o).2, fun b vs n e => y.t b vs n (x.t b vs n e)⟩
end

section
variable {C : Cx} {k : Nat} {A : Around} {hN : Heap} {ok : Bool → Addr → Prop} {s₀ : Shared} {Kp Kp' : Addr → Obj → Prop} {env : Env} {own own' : List Str} {W W' : Str → Option Addr} {ρ ρ' : DEnv} {s s' : Shared}
/-- what is no list, no tuple, none of the frame's, is changed -/
theorem Sta.but (S : Sta C k A hN ok s₀ Kp env own W ρ s) {c : Addr} {o : Obj} {xs : Array Value} (ho : s.heap.get? c = some o) (hd : o.data = .fields xs) (hk : ∀ o, ¬ Kp c o) {h' : Heap} (tk : Nat)
    (u : ∀ b o, b ≠ c → s.heap.get? b = some o → h'.get? b = some o) : Sta C k A hN ok s₀ Kp env own W ρ { s with heap := h', toks := tk } := by
  have nl : ∀ vs n, s.heap.get? c ≠ some (lst vs n) := fun vs n e => by rw [ho] at e; cases e; cases hd
  have nt : ∀ vs n, s.heap.get? c ≠ some (tup vs n) := fun vs n e => by rw [ho] at e; cases e; cases hd
  refine { room := S.room, top := S.top, eok := S.eok, up := S.up, new := S.new, le := S.le, kpN := S.kpN, same := let ⟨h, t, e⟩ := S.same; ⟨h', tk, by rw [e]⟩, keep := fun b o e => u b o (fun q => hk o (q ▸ e)) (S.keep b o e), newL := S.newL, newC := S.newC, apart := S.apart, frm := ?_, own1 := S.own1, own2 := fun x a e => ?_, inj := S.inj }
  · obtain ⟨m, cm, hn, hc, hv⟩ := S.frm
    refine ⟨m, cm, hn.at' fun o' e => u _ o' (fun q => ?_) e, fun n c' e => ?_, fun x md d e => ?_⟩
    · obtain ⟨o2, es, ep, ho2, hd2, _⟩ := hn
      rw [q, ho] at ho2; cases ho2; rw [hd] at hd2; cases hd2
    · obtain ⟨o2, ho2, hd2⟩ := hc n c' e
      exact ⟨o2, u _ _ (fun q => by rw [q, ho] at ho2; cases ho2; rw [hd] at hd2; cases hd2) ho2, hd2⟩
    · obtain ⟨v, l, y⟩ := hv x md d e
      refine ⟨v, l, ?_⟩
      have cy : Carry W s.heap W h' := Carry.but u nl nt
      unfold Holds1 at y ⊢
      split at y
      · exact y.carry cy
      · obtain ⟨e1, ds, vs, n, e2, g, r⟩ := y
        exact ⟨e1, ds, vs, n, e2, u _ _ (fun q => nl vs n (q ▸ g)) g, r.carry cy⟩
  · obtain ⟨g1, vs, n, g2⟩ := S.own2 x a e
    exact ⟨g1, vs, n, u _ _ (fun q => nl vs n (q ▸ g2)) g2⟩

def noLent (own : List Str) : Bool := own.all fun x => !lentName x
theorem Sta.noLent (S : Sta C k A hN ok s₀ Kp env own W ρ s) (h : Mine.noLent own = true) {y : Str} {b : Addr} (e : W y = some b) : lentName y = false := by
  have := List.all_eq_true.mp h y ((S.own1 y).mp ⟨b, e⟩)
  simpa using this
theorem Sta.carry (S : Sta C k A hN ok s₀ Kp env own W ρ s) (hl : Mine.noLent own = true) (hl' : Mine.noLent own' = true) (S' : Sta C k A hN ok s₀ (keepAll env W s.heap) env own' W' ρ' s') : Carry W s.heap W' s'.heap := by
  obtain ⟨m, cm, hn, hc, hv⟩ := S.frm
  have key : ∀ b o, s.heap.get? b = some o → (∃ vs n, o = lst vs n ∨ o = tup vs n) → (∀ y, W y ≠ some b) → keepAll env W s.heap b o := fun b o e ho hw =>
    ⟨e, fun q => by
        obtain ⟨vs, n, r | r⟩ := ho
        · exact (ns_no_lst hn).1 vs n (by rw [← q, e, r])
        · exact (ns_no_lst hn).2 vs n (by rw [← q, e, r]),
      fun n c q q' => by
        obtain ⟨vs, n', r | r⟩ := ho
        · exact (cell_no_lst (hc n c q)).1 vs n' (by rw [← q', e, r])
        · exact (cell_no_lst (hc n c q)).2 vs n' (by rw [← q', e, r]), hw⟩
  refine ⟨fun m b vs n e o => ?_, fun b vs n e => ?_⟩
  · have kb := key b _ e ⟨vs, n, .inl rfl⟩ fun y q => by have := (o y q).1; rw [S.noLent hl q] at this; cases this
    exact ⟨S'.keep _ _ kb, fun y q => absurd kb ((S'.own2 y b q).1 _)⟩
  · refine S'.keep _ _ (key b _ e ⟨vs, n, .inr rfl⟩ fun y q => ?_)
    obtain ⟨vs', n', g⟩ := (S.own2 y b q).2
    rw [g] at e
    exact absurd (show Value.type "list" = Value.type "tuple" from congrArg Obj.cls (Option.some.inj e)) (by decide)
end

/-- an iterator at I over the data items -/
structure Source (C : Cx) (A : Around) (ok : Bool → Addr → Prop) (md : Bool) (items : List PyData) (I : Addr) (fp : List Addr) (Pv : Nat → Value → Prop) (St : Nat → Heap → Prop) (F : (Str → Option Addr) → Heap → Prop) : Prop where
  wk : Walks C.prog C.w A I fp [I] items.length Pv St
  fld : ∀ i h, St i h → ∃ o xs, h.get? I = some o ∧ o.data = .fields xs ∧ (o.cls = .type "list_iterator" ∨ o.cls = .type "range_iterator")
  carry : ∀ W h W' h', F W h → Carry W h W' h' → F W' h'
  oth : ∀ b ∈ fp, b ≠ I → ∀ W h, F W h → ∃ vs n, h.get? b = some (lst vs n) ∧ okW ok W md b
  item : ∀ i v d W h, Pv i v → items[i]? = some d → F W h → Rep (okW ok W md) h d v

theorem Source.go {C : Cx} {A : Around} {ok : Bool → Addr → Prop} {md : Bool} {items : List PyData} {I : Addr} {fp : List Addr} {Pv : Nat → Value → Prop} {St : Nat → Heap → Prop} {F : (Str → Option Addr) → Heap → Prop}
    (X : Source C A ok md items I fp Pv St F) {i : Nat} {s : Shared} {v : Value} {target : Expr} {Q : Unit → Shared → Prop} {E : Value → Shared → Prop} (st : St i s.heap) (q : Q () s) : wpAny (model C.prog C.w) A (letOwnedTupleGo target (.ref I) v) Q E s := by
  obtain ⟨o, xs, ho, hd, hc⟩ := X.fld i _ st
  have main : wpAny (model C.prog C.w) A (match v with
      | .ref a => (do
        let o ← load I
        match o.cls, o.data with
        | .type n, .fields vs =>
          if ["enumerate", "zip", "dict_itemiterator", "dict_reverseitemiterator", "odict_iterator", "itertools.zip_longest", "itertools.pairwise"].contains n && vs[0]? == some (rawInt a) then
            rule "for.unpacks-the-owned-tuple"
            updateField I 0 .none
        | _, _ => pure ())
      | _ => pure ()) Q E s := by
    cases v with
    | ref a =>
      refine wpAny_bind (wpAny_load ho ?_)
      rw [hd]
      rcases hc with hc | hc <;> rw [hc] <;> dsimp only
      · rw [if_neg (by rw [show (["enumerate", "zip", "dict_itemiterator", "dict_reverseitemiterator", "odict_iterator", "itertools.zip_longest", "itertools.pairwise"].contains "list_iterator") = false from by decide, Bool.false_and]; exact Bool.false_ne_true)]
        exact wpAny_pure q
      · rw [if_neg (by rw [show (["enumerate", "zip", "dict_itemiterator", "dict_reverseitemiterator", "odict_iterator", "itertools.zip_longest", "itertools.pairwise"].contains "range_iterator") = false from by decide, Bool.false_and]; exact Bool.false_ne_true)]
        exact wpAny_pure q
    | _ => exact wpAny_pure q
  unfold letOwnedTupleGo
  split
  · cases v <;> exact main
  · cases v <;> exact main
  · exact wpAny_pure q

/-- the iterable e, taken by iter(), gives the items -/
def EvI (C : Cx) (k : Nat) (env : Env) (own : List Str) (ρ : DEnv) (e : Expr) (md : Bool) (items : List PyData) : Prop :=
  ∀ A ok W s Q E, Cur C k A ok W own env ρ s →
    (∀ I fp Pv St F h' tk, Up s.heap h' → s.heap.get? I = none → Source C A ok md items I fp Pv St F → F W h' → St 0 h' → Q (.ref I) { s with heap := h', toks := tk }) →
    wpAny (model C.prog C.w) A (eval e env) (fun x s₁ => wpAny (model C.prog C.w) A (pyIter x) Q E s₁) E s

/-- one target stored -/
def Asg (C : Cx) (k : Nat) (env : Env) (own : List Str) (ρ : DEnv) (target : Expr) (md : Bool) (d : PyData) (own' : List Str) (ρ' : DEnv) : Prop :=
  (∀ x ∈ own', x ∈ own) ∧ ∀ A hN ok s₀ Kp W s v Q E, Sta C k A hN ok s₀ Kp env own W ρ s → Rep (okW ok W md) s.heap d v → (∀ W' s', (∀ y ∈ own', W' y = W y) → Sta C k A hN ok s₀ Kp env own' W' ρ' s' → Q () s') → wpAny (model C.prog C.w) A (assign target env v) Q E s

section
variable {C : Cx} {k : Nat} {env : Env} {own : List Str} {ρ : DEnv} {rest body : List Stmt} {P : Out → Prop} {iter target : Expr} {x : Str} {md : Bool} {d : PyData} {ds items : List PyData} {pos pos' : Pos}

theorem EvI.list (he : Ev C k env own ρ iter md (.list ds)) : EvI C k env own ρ iter md ds := fun A ok W s Q E c q => by
  refine he A ok W s _ E c fun v h' tk u y => ?_
  cases y with
  | list g o r =>
    rename_i a vs n
    refine wpAny_pyIter_list (s := { s with heap := h', toks := tk }) ⟨_, g, rfl, _, rfl⟩ ?_
    have hne : a ≠ h'.objs.size := Nat.ne_of_lt (Heap.lt_size g)
    have hl : vs.toArray.size = ds.length := by rw [List.size_toArray, r.length]
    have W' := Walks.list (prog := C.prog) (w := C.w) (A := A) c.room.hh h'.objs.size a hne vs.toArray
    rw [hl] at W'
    refine q _ _ _ _ (fun W h => h.get? a = some (lst vs n) ∧ okW ok W md a ∧ RepAll (okW ok W md) h ds vs) _ _ (u.trans (Up.push _ _)) (u.none (Heap.get?_none_of_le (Nat.le_refl _)))
      { wk := W', fld := ?_, carry := ?_, oth := ?_, item := ?_ } ⟨Heap.get?_push_of_some _ g, o, r.up (Up.push _ _)⟩ ⟨⟨_, Heap.get?_push_size _ rfl, rfl, rfl⟩, ⟨_, Heap.get?_push_of_some _ g, rfl, _, rfl⟩⟩
    · rintro i h ⟨⟨o, ho, hc, hd⟩, _⟩
      exact ⟨o, _, ho, hd, .inl hc⟩
    · rintro W h W' h' ⟨f1, f2, f3⟩ cy
      exact ⟨(cy.l _ _ _ _ f1 f2.2).1, ⟨f2.1, (cy.l _ _ _ _ f1 f2.2).2⟩, f3.carry cy⟩
    · rintro b hb hbI W h ⟨f1, f2, f3⟩
      simp only [List.mem_cons, List.not_mem_nil, or_false] at hb
      rcases hb with e | e
      · exact absurd e hbI
      · subst e; exact ⟨_, _, f1, f2⟩
    · rintro i v d W h hv hd ⟨f1, f2, f3⟩
      have hv' : vs[i]? = some v := by simpa using hv
      obtain ⟨d', e, r'⟩ := f3.getV hv'
      rw [hd] at e; cases e; exact r'

/-- range(n) as data -/
def rangeD (n : Int) : List PyData := (List.range n.toNat).map fun i : Nat => .int (i : Int)

theorem Asg.name (hx : storable env x = true := by rfl) : Asg C k env own ρ (.Name x pos) md d (less own x) (upd ρ x md d) := ⟨fun y hy => (mem_less.mp hy).1, fun A hN ok s₀ Kp W s v Q E S y q =>
  wpAny_assign_Name (S.store hx y fun s' S' => q _ s' (fun z hz => by unfold unW; rw [if_neg (mem_less.mp hz).2]) S')⟩

theorem forLoop_rule {A : Around} {R : Result → Shared → Prop} {I : Addr} {s : Shared} (Iv : Nat → Shared → Prop)
    (turn : ∀ n s, Iv n s → wpAny (model C.prog C.w) A (pyNext (.ref I)) (fun r s₁ => match r with
      | none => R (.ok .next) s₁
      | some v => wpAny (model C.prog C.w) A (letOwnedTupleGo target (.ref I) v) (fun _ s₂ => wpAny (model C.prog C.w) A (assign target env v) (fun _ s₃ => wpAny (model C.prog C.w) A (execs body env) (fun f s₄ => match f with
          | .next | .cont => ∃ m, m < n ∧ Iv m s₄
          | .brk => R (.ok .next) s₄
          | .ret v => R (.ok (.ret v)) s₄) (notedBy (model C.prog C.w) A env fun e s' => R (.error e) s') s₃) (notedBy (model C.prog C.w) A env fun e s' => R (.error e) s') s₂) (notedBy (model C.prog C.w) A env fun e s' => R (.error e) s') s₁)
      (notedBy (model C.prog C.w) A env fun e s' => R (.error e) s') s)
    (n : Nat) (h : Iv n s) : codeAny (model C.prog C.w) A (.forLoop target (.ref I) body [] env) R s := by
  refine codeAny_loop' rfl Iv (fun n s hI => ?_) n h
  show wpAny _ _ ((forTurn target (.ref I) body [] env).onRaise (fun x => do noteFrame x env; theTreesLotGoes x)) _ _ s
  refine wpAny_noted ?_
  simp only [forTurn]
  refine wpAny_bind (wpAny_standAt (wpAny_bind (wpAny_onRaise (wpAny_mono (turn n s hI) (fun r s₁ h₁ => ?_) fun _ _ h' => wpAny_standAt h'))))
  cases r with
  | none => exact wpAny_pure (.inr ⟨rfl, codeAny_block (wpAny_execs_nil h₁)⟩)
  | some v =>
    refine wpAny_bind (wpAny_mono h₁ (fun _ s₂ h₂ => wpAny_bind (wpAny_mono h₂ (fun _ s₃ h₃ => wpAny_bind (wpAny_mono h₃ (fun f s₄ h₄ => ?_) fun _ _ h' => h')) fun _ _ h' => h')) fun _ _ h' => h')
    cases f with
    | next => exact wpAny_pure (.inl ⟨rfl, h₄⟩)
    | cont => exact wpAny_pure (.inl ⟨rfl, h₄⟩)
    | brk => exact wpAny_pure h₄
    | ret v => exact wpAny_pure h₄

theorem Ex.for_ (hi : EvI C k env own ρ iter md items) (Inv PB : Nat → List Str → DEnv → Prop) (h0 : Inv 0 own ρ)
    (turn : ∀ i d own ρ, items[i]? = some d → Inv i own ρ → ∃ own' ρ', Asg C k env own ρ target md d own' ρ' ∧ Ex C k env own' ρ' body (fun o => match o with
      | .next own ρ | .cont own ρ => Inv (i + 1) own ρ
      | .brk own ρ => PB i own ρ
      | .ret md d => P (.ret md d)))
    (done : ∀ own ρ, Inv items.length own ρ → Ex C k env own ρ rest P) (brk : ∀ i own ρ, PB i own ρ → Ex C k env own ρ rest P)
    (hs : ∀ x, foldedSetIterable iter env x = pure x) (hnl : ∀ i own ρ, Inv i own ρ → noLent own = true) : Ex C k env own ρ (.For target iter body [] pos :: rest) P := by
  intro A hN ok s₀ Kp W s Q E S f
  refine wpAny_execs_cons (wpAny_For (hi A ok W s _ E S.cur fun I fp Pv St F h' tk u fr X F0 st0 => ?_) hs)
  have kI : ∀ o, ¬ Kp I o := fun o q => by have := S.keep _ _ q; rw [fr] at this; cases this
  refine forLoop_rule (fun n s' => ∃ i own W ρ, n = items.length + 1 - i ∧ i ≤ items.length ∧ Inv i own ρ ∧ Sta C k A hN ok s₀ Kp env own W ρ s' ∧ St i s'.heap ∧ F W s'.heap) ?_ (items.length + 1) ⟨0, own, W, ρ, by omega, Nat.zero_le _, h0, S.on u tk, st0, F0⟩
  rintro n s₁ ⟨i, own₁, W₁, ρ₁, rfl, hle, inv, S₁, st₁, F₁⟩
  obtain ⟨oI, xs, hoI, hdI, hcI⟩ := X.fld _ _ st₁
  have nl : ∀ vs n, s₁.heap.get? I ≠ some (lst vs n) := fun vs n e => by rw [hoI] at e; cases e; cases hdI
  have nt : ∀ vs n, s₁.heap.get? I ≠ some (tup vs n) := fun vs n e => by rw [hoI] at e; cases e; cases hdI
  by_cases hlt : i < items.length
  · refine X.wk.item i s₁ _ _ hlt st₁ fun v h₂ tk₂ hP st₂ hk₂ => ?_
    have hk₂' : ∀ b o, b ≠ I → s₁.heap.get? b = some o → h₂.get? b = some o := fun b o hb e => hk₂ b o (by simpa using hb) e
    have S₂ := S₁.but hoI hdI kI tk₂ hk₂'
    have F₂ : F W₁ h₂ := X.carry _ _ _ _ F₁ (Carry.but hk₂' nl nt)
    refine X.go (s := { s₁ with heap := h₂, toks := tk₂ }) (i := i + 1) st₂ ?_
    have hd : items[i]? = some items[i] := List.getElem?_eq_getElem hlt
    obtain ⟨own', ρ', asg, ex⟩ := turn i items[i] own₁ ρ₁ hd inv
    have nl₁ := hnl _ _ _ inv
    have nl₃ : noLent own' = true := List.all_eq_true.mpr fun x hx => List.all_eq_true.mp nl₁ x (asg.1 x hx)
    refine asg.2 A hN ok s₀ (keepAll env W₁ h₂) W₁ _ v _ _ S₂.moreKp (X.item i v _ W₁ h₂ hP hd F₂) fun W₃ s₃ _ S₃ => ?_
    have cy₃ : Carry W₁ h₂ W₃ s₃.heap := S₂.carry nl₁ nl₃ S₃
    have F₃ : F W₃ s₃.heap := X.carry _ _ _ _ F₂ cy₃
    obtain ⟨oI₂, xs₂, hoI₂, hdI₂, hcI₂⟩ := X.fld _ _ st₂
    -- the iterator is none of the frame's
    have ownI : ∀ {W : Str → Option Addr} {own : List Str} {ρ : DEnv} {s : Shared} {Kp : Addr → Obj → Prop} {o : Obj} {xs : Array Value}, Sta C k A hN ok s₀ Kp env own W ρ s → s.heap.get? I = some o → o.data = .fields xs → keepAll env W s.heap I o := by
      intro W own ρ s Kp o xs S ho hd
      obtain ⟨m, cm, hn, hc, hv⟩ := S.frm
      refine ⟨ho, fun q => ?_, fun n c q q' => ?_, fun x q => ?_⟩
      · obtain ⟨o2, es, ep, ho2, hd2, _⟩ := hn
        rw [← q, ho] at ho2; cases ho2; rw [hd] at hd2; cases hd2
      · obtain ⟨o2, ho2, hd2⟩ := hc n c q
        rw [← q', ho] at ho2; cases ho2; rw [hd] at hd2; cases hd2
      · obtain ⟨vs, n, g⟩ := (S.own2 x I q).2
        rw [ho] at g; cases g; cases hd
    have stay : ∀ {W W' : Str → Option Addr} {own own' : List Str} {ρ ρ' : DEnv} {s s' : Shared} {Kp : Addr → Obj → Prop} {j : Nat}, noLent own = true → noLent own' = true → Sta C k A hN ok s₀ Kp env own W ρ s → Sta C k A hN ok s₀ (keepAll env W s.heap) env own' W' ρ' s' → F W s.heap → St j s.heap → St j s'.heap := by
      intro W W' own own' ρ ρ' s s' Kp j hl hl' S S' Fh st
      refine X.wk.frame j _ _ st fun b hb o e => ?_
      by_cases hbI : b = I
      · subst hbI
        obtain ⟨o2, xs2, ho2, hd2, _⟩ := X.fld _ _ st
        rw [ho2] at e; cases e
        exact S'.keep _ _ (ownI S ho2 hd2)
      · obtain ⟨vs, n, g, w⟩ := X.oth b hb hbI W _ Fh
        rw [g] at e; cases e
        exact ((S.carry hl hl' S').l _ _ _ _ g w.2).1
    have st₃ : St (i + 1) s₃.heap := stay nl₁ nl₃ S₂ S₃ F₂ st₂
    have back : ∀ b o, Kp b o → keepAll env W₃ s₃.heap b o := fun b o q => by
      have q2 := S₂.kp_sub b o q
      exact S₃.kp_sub b o q2
    refine ex A hN ok s₀ (keepAll env W₃ s₃.heap) W₃ s₃ _ _ S₃.moreKp { next := ?_, brk := ?_, cont := ?_, ret := ?_ }
    · intro own₄ W₄ ρ₄ s₄ p S₄
      exact ⟨items.length + 1 - (i + 1), by omega, i + 1, own₄, W₄, ρ₄, rfl, hlt, p, S₄.lessKp back S.kpN, stay nl₃ (hnl _ _ _ p) S₃ S₄ F₃ st₃, X.carry _ _ _ _ F₃ (S₃.carry nl₃ (hnl _ _ _ p) S₄)⟩
    · intro own₄ W₄ ρ₄ s₄ p S₄
      exact brk i own₄ ρ₄ p A hN ok s₀ Kp W₄ s₄ Q E (S₄.lessKp back S.kpN) f
    · intro own₄ W₄ ρ₄ s₄ p S₄
      exact ⟨items.length + 1 - (i + 1), by omega, i + 1, own₄, W₄, ρ₄, rfl, hlt, p, S₄.lessKp back S.kpN, stay nl₃ (hnl _ _ _ p) S₃ S₄ F₃ st₃, X.carry _ _ _ _ F₃ (S₃.carry nl₃ (hnl _ _ _ p) S₄)⟩
    · intro md d v s₄ p sm kp r
      exact f.ret md d v s₄ p sm (fun b o q => kp b o (back b o q)) r
  · have hin : i = items.length := by omega
    subst hin
    refine X.wk.done s₁ _ _ st₁ fun h₂ tk₂ hk₂ => ?_
    have S₂ := S₁.but hoI hdI kI tk₂ fun b o hb e => hk₂ b o (by simpa using hb) e
    exact done own₁ ρ₁ inv A hN ok s₀ Kp W₁ _ Q E S₂ f
end

end Mine

namespace Mine
open PySem PyProof.Rows

/-- called with such arguments, f gives d; nothing that was there is changed -/
def Fn (C : Cx) (k : Nat) (f : Addr) (ma : Bool) (args : List PyData) (md : Bool) (d : PyData) : Prop :=
  ∀ (A : Around) (ok : Bool → Addr → Prop) (s : Shared) (vs : List Value) (Q E : Value → Shared → Prop), Room k A → Up C.base s.heap → (∀ md a, s.heap.get? a = none → ok md a) → (∀ a, ok true a → ok false a) → RepAll (ok ma) s.heap args vs →
    (∀ v h' tk, Up s.heap h' → Rep (ok md) h' d v → Q v { s with heap := h', toks := tk }) → wpAny (model C.prog C.w) A (call (.ref f) vs) Q E s

def entry (ps : List Str) (ma : Bool) (ds : List PyData) : DEnv := fun x => ((ps.zip ds).lookup x).map fun d => (ma, d)

/-- the def at f -/
structure FnAt (C : Cx) (f : Addr) (fd : FuncData) (ps : List Str) (body : List Stmt) : Prop where
  at_ : ∃ o, C.base.get? f = some o ∧ o.data = .func fd
  code : C.base.CodeRec fd.code fd.qualname
  body_ : fd.body = .stmts body
  clo : fd.closure = []
  glob : fd.globals = mainGlobals
  bi : fd.builtins = builtinsNs
  bind : ∀ vs : List Value, vs.length = ps.length → bindArgs fd ⟨vs, []⟩ = pure (ps.zip vs)
  nd : ps.Nodup
  st : ∀ L, ps.all (fun x => storable (callEnvC fd L f) x) = true
  kind : fd.scope.kind = .function
  co : fd.scope.isCoroutine = false
  gen : fd.scope.isGenerator = false

theorem Room.deeper {k : Nat} {A : Around} (r : Room (k + 1) A) (env : Env) : Room k (A.deeper env) := by
  refine ⟨r.hh, ?_, ?_, ?_⟩
  · have := r.depth; show A.depth + 1 + k + 100 < recursionLimit; omega
  · have := r.units; show A.units + 3 + 8 * k + 80 < cLine; omega
  · obtain ⟨l, e⟩ := r.fr; exact ⟨env :: l, by show A.frames.map _ = _; rw [e]; rfl⟩
theorem Room.top {k : Nat} {A : Around} (r : Room (k + 1) A) {env : Env} (h1 : env.scope.isGenerator = false) (h2 : env.scope.isCoroutine = false) (h3 : env.builtins = builtinsNs) (h4 : env.globals = mainGlobals) : TopEnv (A.deeper env) :=
  let ⟨l, e⟩ := r.fr; ⟨env, l, by show A.frames.map _ = _; rw [e]; rfl, h1, h2, h3, h4⟩
theorem Room.le {k j : Nat} {A : Around} (r : Room k A) (h : j ≤ k) : Room j A := by
  refine ⟨r.hh, ?_, ?_, r.fr⟩
  · have := r.depth; omega
  · have := r.units; omega

theorem bind_other {env : Env} {x : Str} : ∀ (binds : List (Str × Value)) (m cm : Str → Option Value), x ∉ binds.map (·.1) → val env (bindL env.kindOf binds m) (bindC env.kindOf binds cm) x = val env m cm x
  | [], _, _, _ => rfl
  | (n, w) :: r, m, cm, h => by
    simp only [List.map_cons, List.mem_cons, not_or] at h
    unfold bindL bindC
    rw [bind_other r _ _ h.2]
    by_cases hk : env.kindOf n = some .local
    · simp only [hk, if_true, val, h.1, if_false]
    · simp only [hk, if_false, val, h.1, if_false]
theorem bind_val {env : Env} {x : Str} {v : Value} (hx : storable env x = true) : ∀ (binds : List (Str × Value)) (m cm : Str → Option Value), (binds.map (·.1)).Nodup → binds.lookup x = some v → val env (bindL env.kindOf binds m) (bindC env.kindOf binds cm) x = some v
  | [], _, _, _, h => by cases h
  | (n, w) :: r, m, cm, hnd, h => by
    simp only [List.map_cons, List.nodup_cons] at hnd
    rw [List.lookup_cons] at h
    unfold bindL bindC
    cases hb : x == n with
    | true =>
      rw [hb] at h; cases h
      have e : x = n := by simpa using hb
      subst e
      rw [bind_other r _ _ hnd.1]
      unfold storable at hx
      rcases Bool.or_eq_true_iff.mp hx with q | q
      · have q : env.kindOf x = some .local := by simpa using q
        simp only [q, if_true, val]
      · obtain ⟨q1, q2⟩ := Bool.and_eq_true_iff.mp q
        have q1 : env.kindOf x = some .cell := by simpa using q1
        obtain ⟨c, ec⟩ := Option.isSome_iff_exists.mp q2
        have e1 : ¬ (some NameKind.cell = some NameKind.local) := by decide
        simp only [val, q1, e1, if_false, if_true, ec, Option.bind_some]
    | false =>
      rw [hb] at h
      exact bind_val hx r _ _ hnd.2 h

theorem zip_lookup {α β : Type} {x : Str} {R : α → β → Prop} {b : β} : ∀ (ps : List Str) (as : List α) (bs : List β), as.length = bs.length → (∀ (i : Nat) a b, as[i]? = some a → bs[i]? = some b → R a b) → (ps.zip bs).lookup x = some b → ∃ a, (ps.zip as).lookup x = some a ∧ R a b
  | [], _, _, _, _, h => by simp at h
  | p :: ps, [], [], _, _, h => by simp at h
  | p :: ps, [], _ :: _, hl, _, h => by simp at hl
  | p :: ps, _ :: _, [], hl, _, h => by simp at hl
  | p :: ps, a :: as, b' :: bs, hl, hR, h => by
    simp only [List.zip_cons_cons, List.lookup_cons] at h ⊢
    cases hb : x == p with
    | true => rw [hb] at h; cases h; exact ⟨a, rfl, hR 0 _ _ rfl rfl⟩
    | false =>
      rw [hb] at h
      exact zip_lookup ps as bs (by simpa using hl) (fun i a b h1 h2 => hR (i + 1) a b (by simpa using h1) (by simpa using h2)) h

section
variable {C : Cx} {k : Nat} {f : Addr} {fd : FuncData} {ps : List Str} {body : List Stmt} {ma md : Bool} {args : List PyData} {d : PyData}
theorem Fn.of (X : FnAt C f fd ps body) (hlen : args.length = ps.length) (h : ∀ L, Ex C k (callEnvC fd L f) [] (entry ps ma args) body (fun o => o = .ret md d)) : Fn C (k + 1) f ma args md d := by
  intro A ok s vs Q E hr hu hnew hle hargs hQ
  obtain ⟨o, ho, hd⟩ := X.at_
  have hvl : vs.length = ps.length := by rw [hargs.length, hlen]
  have hmap : (ps.zip vs).map (·.1) = ps := by rw [List.map_fst_zip]; omega
  refine wpAny_call ?_
  refine codeAny_call_cells (by have := hr.depth; omega) (hu _ _ ho) hd (C.lim.keeps hu) (X.code.keeps hu) X.body_ (X.bind vs hvl) X.clo (fun x hx => ?_) (fun s₁ ic => ?_) X.co X.gen X.kind
  · have hm : x.1 ∈ ps := hmap ▸ List.mem_map_of_mem hx
    have := List.all_eq_true.mp (X.st s.heap.objs.size) x.1 hm
    unfold storable at this
    rcases Bool.or_eq_true_iff.mp this with q | q
    · exact .inl (eq_of_beq q)
    · obtain ⟨q1, q2⟩ := Bool.and_eq_true_iff.mp q
      exact .inr ⟨eq_of_beq q1, q2⟩
  · have hfresh : ∀ a, s.heap.objs.size ≤ a → s.heap.get? a = none := fun a ha => Heap.get?_none_of_le ha
    have S : Sta C k (A.deeper (callEnvC fd s.heap.objs.size f)) s.heap ok s (fun b o => s.heap.get? b = some o) (callEnvC fd s.heap.objs.size f) [] (fun _ => none) (entry ps ma args) s₁ := by
      refine { room := hr.deeper _, top := hr.top X.gen X.co X.bi X.glob, eok := ⟨X.kind, X.glob, X.bi⟩, up := hu, new := hnew, le := hle, kpN := fun _ _ e => e, same := ic.toInCall.same, keep := ic.toInCall.keep, newL := fun o q => ?_, newC := fun n c o q q' => ?_, apart := ic.apart, frm := ?_, own1 := fun x => ?_, own2 := fun x a q => (nomatch q), inj := fun x y a q => (nomatch q) }
      · have : s.heap.get? s.heap.objs.size = some o := q
        rw [hfresh _ (Nat.le_refl _)] at this; cases this
      · have hc := ic.above n c (PySem.mem_of_lookup q)
        have : s.heap.get? c = some o := q'
        rw [hfresh _ (Nat.le_of_lt hc)] at this; cases this
      · refine ⟨_, _, ic.toInCall.ns, ic.cell, fun x md' d' e => ?_⟩
        unfold entry at e
        cases hl : (ps.zip args).lookup x with
        | none => rw [hl] at e; cases e
        | some d₀ =>
          rw [hl] at e; cases e
          have hx : x ∈ ps := by have := List.mem_map_of_mem (f := (·.1)) (PySem.mem_of_lookup hl); rw [List.map_fst_zip (by omega)] at this; exact this
          obtain ⟨v, hv, r⟩ := zip_lookup (R := fun v d => Rep (ok ma) s.heap d v) ps vs args hargs.length (fun i a b h1 h2 => by
            obtain ⟨d', e', r⟩ := hargs.getV h1
            rw [h2] at e'; cases e'; exact r) hl
          refine ⟨v, bind_val (List.all_eq_true.mp (X.st s.heap.objs.size) x hx) _ _ _ (hmap.symm ▸ X.nd) hv, ?_⟩
          unfold Holds1
          exact (r.imp fun a q => ⟨q, fun _ z => nomatch z⟩).up ic.toInCall.keep
      · simp
    refine h s.heap.objs.size _ _ ok s _ _ s₁ _ _ S { next := fun _ _ _ _ p => (nomatch p), brk := fun _ _ _ _ p => (nomatch p), cont := fun _ _ _ _ p => (nomatch p), ret := fun md' d' v s' p sm kp r => ?_ }
    cases p
    obtain ⟨h', tk, e⟩ := sm
    subst e
    exact hQ v h' tk kp r

variable {env : Env} {own : List Str} {ρ : DEnv} {e : Expr} {es : List Expr} {pos npos : Pos} {x : Str}
/-- a def of the top, by its name -/
theorem EvK.glob {v : Value} (hg : C.mg x = some v) (hk : env.kindOf x = some .globalImplicit := by rfl) (hd : (x == ("__debug__" : Str)) = false := by decide) : EvK C k env own ρ (.Name x pos) v := fun A ok W s Q E c q =>
  Calls.Name_function_global c.eok.kind hk (Calls.loadGlobal_global (by rw [c.eok.glob]; exact C.g.keeps c.up) hg (q s.heap s.toks (Up.refl _))) hd
theorem EvK.builtin {v : Value} (hg : C.mg x = none) (hv : bootBuiltins x = some v) (hn : x ≠ "__name__" := by decide) (hk : env.kindOf x = some .globalImplicit := by rfl) (hd : (x == ("__debug__" : Str)) = false := by decide) : EvK C k env own ρ (.Name x pos) v := fun A ok W s Q E c q =>
  Calls.Name_function_global c.eok.kind hk (Calls.loadGlobal_builtin (by rw [c.eok.glob]; exact C.g.keeps c.up) hg (by rw [c.eok.bi]; exact C.b.keeps c.up) ((C.bi x hn).trans hv) (q s.heap s.toks (Up.refl _))) hd

theorem Ev.call {j : Nat} (X : ∃ o fd, C.base.get? f = some o ∧ o.data = .func fd) (hf : EvK C k env own ρ (.Name x npos) (.ref f)) (ha : Evs C k env own ρ (e :: es) ma args) (hF : Fn C j f ma args md d) (hj : j ≤ k := by decide)
    (he : starEach (e :: es) env = (false, eval e env) :: starEach es env := by rfl) : Ev C k env own ρ (.Call (.Name x npos) (e :: es) [] pos) md d := fun A ok W s Q E c q => by
  obtain ⟨o, fd, ho, hd⟩ := X
  refine Call_ (hf A ok W s _ E c fun h' tk u => ?_)
  refine callWith_def hd (ha A ok W _ _ E pos (c.on u tk) fun vs h'' tk' u' y => ⟨c.up.trans (u.trans u') _ _ ho, ?_⟩) he
  have c' := (c.on u tk).on u' tk'
  exact hF A (okW ok W) _ vs Q E (c'.room.le hj) c'.up (fun md a z => c'.okNew md z) (fun a z => okW_le (md := false) (md' := true) c.le rfl z) y fun v h₃ tk₃ u₃ r => q v h₃ tk₃ ((u.trans u').trans u₃) r
end

end Mine

namespace Mine
open PySem PyProof.Rows

section
variable {C : Cx} {k : Nat} {env : Env} {own : List Str} {ρ : DEnv} {e l r : Expr} {es : List Expr} {md md' ml mr : Bool} {d : PyData} {ds ds' : List PyData} {pos npos : Pos} {i j : Int} {x : Str}

theorem Ev.mul (hl : EvB C k env own ρ l false (.int i)) (hr : EvB C k env own ρ r false (.int j)) (hm : IntMulOk i j) : Ev C k env own ρ (.BinOp l .Mult r pos) md (.int (i * j)) :=
  fun _ _ _ _ _ _ c q => wpAny_BinOp (two_int hl hr c fun _ _ _ _ u => P.mul_int (q _ _ _ u (.int _ _)) hm)
theorem Ev.mod (hl : EvB C k env own ρ l false (.int i)) (hr : EvB C k env own ρ r false (.int j)) (hj : j ≠ 0) : Ev C k env own ρ (.BinOp l .Mod r pos) md (.int (i.fmod j)) :=
  fun _ _ _ _ _ _ c q => wpAny_BinOp (two_int hl hr c fun _ _ _ _ u => mod_int' hj (q _ _ _ u (.int _ _)))
theorem pyroom {A : Around} {ok : Bool → Addr → Prop} {W : Str → Option Addr} {s : Shared} (c : Cur C k A ok W own env ρ s) : PylongRoom (model C.prog C.w) A s := by
  obtain ⟨e, l, h1, h2, h3, h4, h5⟩ := c.top.is
  refine PylongRoom.of (C.lim.keeps c.up) (by have := c.room.depth; show A.depth + 100 < _; omega) (SeerAt.of (C.seer.keeps c.up) C.tree h1 h2 h3 h4 h5)
theorem Ev.fdiv (hl : EvB C k env own ρ l false (.int i)) (hr : EvB C k env own ρ r false (.int j)) (hj : j ≠ 0) : Ev C k env own ρ (.BinOp l .FloorDiv r pos) md (.int (i.fdiv j)) :=
  fun _ _ _ _ _ _ c q => wpAny_BinOp (two_int hl hr c fun _ _ h' tk u => floordiv_int hj (q _ _ _ u (.int _ _)) (.inr (pyroom (c.on u tk))))
theorem Ev.pow (hl : EvB C k env own ρ l false (.int i)) (hr : EvB C k env own ρ r false (.int j)) (hj : 0 ≤ j) (hz : (Builtin.Int.intBits i : Int) * j ≤ 2 ^ 27) : Ev C k env own ρ (.BinOp l .Pow r pos) md (.int (i ^ j.toNat)) :=
  fun _ _ _ _ _ _ c q => wpAny_BinOp (two_int hl hr c fun _ _ _ _ u => pow_int hj hz (q _ _ _ u (.int _ _)))

/-- a comparison comes out as b -/
def Cmp (C : Cx) (k : Nat) (env : Env) (own : List Str) (ρ : DEnv) (l : Expr) (op : CmpOp) (r : Expr) (b : Bool) : Prop :=
  ∀ A ok W s Q E, Cur C k A ok W own env ρ s → (∀ h' tk, Up s.heap h' → Q (.bool b) { s with heap := h', toks := tk }) →
    wpAny (model C.prog C.w) A (eval l env) (fun x s₁ => wpAny (model C.prog C.w) A (eval r env) (fun y s₂ => wpAny (model C.prog C.w) A (compareOp op x y) Q E s₂) E s₁) E s
theorem Tst.cmp {op : CmpOp} {b : Bool} (h : Cmp C k env own ρ l op r b) (hm : behindInMarks op r = false := by with_unfolding_all rfl) : Tst C k env own ρ (.Compare l [op] [r] pos) b := fun A ok W s Q E c q =>
  wpAny_isTrue_Compare1 (h A ok W s _ E c fun h' tk u => wpAny_truthy_bool (q h' tk u)) hm
theorem Ev.cmp {op : CmpOp} {b : Bool} (h : Cmp C k env own ρ l op r b) (hm : behindInMarks op r = false := by with_unfolding_all rfl) : Ev C k env own ρ (.Compare l [op] [r] pos) md (.bool b) := fun A ok W s Q E c q =>
  wpAny_Compare1 (h A ok W s _ E c fun h' tk u => q _ h' tk u (.bool b)) hm
theorem Cmp.eq (hl : EvB C k env own ρ l false (.int i)) (hr : EvB C k env own ρ r false (.int j)) : Cmp C k env own ρ l .Eq r (i == j) := fun _ _ _ _ _ _ c q => two_int hl hr c fun _ _ _ _ u => P.eq_int (q _ _ u)
theorem Cmp.ne (hl : EvB C k env own ρ l false (.int i)) (hr : EvB C k env own ρ r false (.int j)) : Cmp C k env own ρ l .NotEq r (i != j) := fun _ _ _ _ _ _ c q => two_int hl hr c fun _ _ _ _ u => P.ne_int (q _ _ u)
theorem Cmp.lt (hl : EvB C k env own ρ l false (.int i)) (hr : EvB C k env own ρ r false (.int j)) : Cmp C k env own ρ l .Lt r (decide (i < j)) := fun _ _ _ _ _ _ c q => two_int hl hr c fun _ _ _ _ u => P.lt_int (q _ _ u)
theorem Cmp.le (hl : EvB C k env own ρ l false (.int i)) (hr : EvB C k env own ρ r false (.int j)) : Cmp C k env own ρ l .LtE r (decide (i ≤ j)) := fun _ _ _ _ _ _ c q => two_int hl hr c fun _ _ _ _ u => P.le_int (q _ _ u)
theorem Cmp.gt (hl : EvB C k env own ρ l false (.int i)) (hr : EvB C k env own ρ r false (.int j)) : Cmp C k env own ρ l .Gt r (decide (i > j)) := fun _ _ _ _ _ _ c q => two_int hl hr c fun _ _ _ _ u => P.gt_int (q _ _ u)
theorem Cmp.ge (hl : EvB C k env own ρ l false (.int i)) (hr : EvB C k env own ρ r false (.int j)) : Cmp C k env own ρ l .GtE r (decide (i ≥ j)) := fun _ _ _ _ _ _ c q => two_int hl hr c fun _ _ _ _ u => P.ge_int (q _ _ u)

/-- two operands, any data -/
theorem two_any {d₁ d₂ : PyData} (hl : EvB C k env own ρ l ml d₁) (hr : EvB C k env own ρ r mr d₂) {A ok W s} {E : Value → Shared → Prop} {F : Value → Value → Sem Value} {Q : Value → Shared → Prop} (c : Cur C k A ok W own env ρ s)
    (h : ∀ v v' h' tk, Up s.heap h' → RepB (okW ok W ml) h' d₁ v → RepB (okW ok W mr) h' d₂ v' → wpAny (model C.prog C.w) A (F v v') Q E { s with heap := h', toks := tk }) :
    wpAny (model C.prog C.w) A (eval l env) (fun x s₁ => wpAny (model C.prog C.w) A (eval r env) (fun y s₂ => wpAny (model C.prog C.w) A (F x y) Q E s₂) E s₁) E s := by
  refine hl A ok W s _ E c fun v h' tk u y => ?_
  refine hr A ok W _ _ E (c.on u tk) fun v' h'' tk' u' y' => ?_
  exact h v v' h'' tk' (u.trans u') (y.up u') y'
theorem Cmp.eqD {d₁ d₂ : PyData} (hl : EvB C k env own ρ l false d₁) (hr : EvB C k env own ρ r false d₂) (h1 : SeqAt.shaped d₁ = true) (h2 : SeqAt.shaped d₂ = true) : Cmp C k env own ρ l .Eq r (PyData.eqv d₁ d₂) := fun A ok W s Q E c q =>
  two_any hl hr c fun v v' h' tk u y y' => by
    obtain ⟨as, ra⟩ := y.reads
    obtain ⟨bs, rb⟩ := y'.reads
    exact eq_dataH (s := { s with heap := h', toks := tk }) ra rb h1 h2 (by have := c.room.units; omega) (q _ _ u)
theorem Cmp.neD {d₁ d₂ : PyData} (hl : EvB C k env own ρ l false d₁) (hr : EvB C k env own ρ r false d₂) (h1 : SeqAt.shaped d₁ = true) (h2 : SeqAt.shaped d₂ = true) : Cmp C k env own ρ l .NotEq r (!PyData.eqv d₁ d₂) := fun A ok W s Q E c q =>
  two_any hl hr c fun v v' h' tk u y y' => by
    obtain ⟨as, ra⟩ := y.reads
    obtain ⟨bs, rb⟩ := y'.reads
    exact ne_dataH (s := { s with heap := h', toks := tk }) ra rb h1 h2 (by have := c.room.units; omega) (q _ _ u)
theorem Cmp.inL {d₁ : PyData} (hl : EvB C k env own ρ l false d₁) (hr : EvB C k env own ρ r false (.list ds)) (h1 : PyData.canLay0 d₁ = true) (h2 : PyData.canLayAll0 ds = true) (h3 : d₁.depth ≤ 60) : Cmp C k env own ρ l .In r (ds.any fun y => PyData.eqv y d₁) := fun A ok W s Q E c q =>
  two_any hl hr c fun v v' h' tk u y y' => by
    obtain ⟨as, ra⟩ := y.reads
    obtain ⟨bs, rb⟩ := y'.reads
    exact SeqAt.in_list_reads (s := { s with heap := h', toks := tk }) rb ra h2 h1 (by have := c.room.units; omega) (q _ _ u)
theorem Cmp.notInL {d₁ : PyData} (hl : EvB C k env own ρ l false d₁) (hr : EvB C k env own ρ r false (.list ds)) (h1 : PyData.canLay0 d₁ = true) (h2 : PyData.canLayAll0 ds = true) (h3 : d₁.depth ≤ 60) : Cmp C k env own ρ l .NotIn r (!ds.any fun y => PyData.eqv y d₁) := fun A ok W s Q E c q =>
  two_any hl hr c fun v v' h' tk u y y' => by
    obtain ⟨as, ra⟩ := y.reads
    obtain ⟨bs, rb⟩ := y'.reads
    exact SeqAt.notIn_list_reads (s := { s with heap := h', toks := tk }) rb ra h2 h1 (by have := c.room.units; omega) (q _ _ u)
theorem Cmp.eqS {a b : Str} (hl : EvB C k env own ρ l false (.str a)) (hr : EvB C k env own ρ r false (.str b)) : Cmp C k env own ρ l .Eq r (a == b) := fun A ok W s Q E c q =>
  two_any hl hr c fun v v' h' tk u y y' => by
    obtain ⟨t, rfl⟩ := y.str_inv
    obtain ⟨t', rfl⟩ := y'.str_inv
    exact PyProof.Rows.eq_str (q _ _ u)
theorem Cmp.isK {v v' : Value} (hl : EvK C k env own ρ l v) (hr : EvK C k env own ρ r v') (hp : plainIs v v' = true) : Cmp C k env own ρ l .Is r (v == v') := fun A ok W s Q E c q =>
  hl A ok W s _ E c fun h' tk u => hr A ok W _ _ E (c.on u tk) fun h'' tk' u' => wpAny_is_plain hp (q _ _ (u.trans u'))
theorem Cmp.isNotK {v v' : Value} (hl : EvK C k env own ρ l v) (hr : EvK C k env own ρ r v') (hp : plainIs v v' = true) : Cmp C k env own ρ l .IsNot r (!(v == v')) := fun A ok W s Q E c q =>
  hl A ok W s _ E c fun h' tk u => hr A ok W _ _ E (c.on u tk) fun h'' tk' u' => wpAny_isNot_plain hp (q _ _ (u.trans u'))
def isNoneD : PyData → Bool
  | .none => true
  | _ => false
theorem RepB.none_eq {ok : Addr → Prop} {h : Heap} {v : Value} (y : RepB ok h d v) : (v == .none) = isNoneD d := by
  cases d with
  | list ds => obtain ⟨a, vs, n, e, _⟩ := y; subst e; rfl
  | none => have y : Rep ok h .none v := y; cases y; rfl
  | bool b => have y : Rep ok h (.bool b) v := y; cases y; rfl
  | int b => have y : Rep ok h (.int b) v := y; cases y; rfl
  | str b => have y : Rep ok h (.str b) v := y; cases y; rfl
  | tuple b => have y : Rep ok h (.tuple b) v := y; cases y; rfl
  | dict b => have y : Rep ok h (.dict b) v := y; cases y
theorem Cmp.isNone {n : Nat} (hl : EvB C k env own ρ l false d) : Cmp C k env own ρ l .Is (.Constant .none n pos) (isNoneD d) := fun A ok W s Q E c q =>
  hl A ok W s _ E c fun v h' tk u y => PySem.wpAny_Constant_none (PySem.is_none (by rw [y.none_eq]; exact q _ _ u))

theorem Tst.not_ {b : Bool} (h : Tst C k env own ρ e b) : Tst C k env own ρ (.UnaryOp .Not e pos) (!b) := fun A ok W s Q E c q => wpAny_isTrue_Not (h A ok W s _ E c fun h' tk u => q h' tk u)
theorem Tst.and_nil : Tst C k env own ρ (.BoolOp .And [] pos) true := fun A ok W s Q E c q => isTrue_and_nil (q s.heap s.toks (Up.refl _))
theorem Tst.or_nil : Tst C k env own ρ (.BoolOp .Or [] pos) false := fun A ok W s Q E c q => isTrue_or_nil (q s.heap s.toks (Up.refl _))
theorem Tst.and_cons {b b' : Bool} (h : Tst C k env own ρ e b) (h' : b = true → Tst C k env own ρ (.BoolOp .And es pos) b') : Tst C k env own ρ (.BoolOp .And (e :: es) pos) (b && b') := fun A ok W s Q E c q =>
  isTrue_and (h A ok W s _ E c fun h₁ tk u => by
    cases b with
    | true => exact h' rfl A ok W _ _ E (c.on u tk) fun h₂ tk₂ u₂ => q _ _ (u.trans u₂)
    | false => exact q _ _ u)
theorem Tst.or_cons {b b' : Bool} (h : Tst C k env own ρ e b) (h' : b = false → Tst C k env own ρ (.BoolOp .Or es pos) b') : Tst C k env own ρ (.BoolOp .Or (e :: es) pos) (b || b') := fun A ok W s Q E c q =>
  isTrue_or (h A ok W s _ E c fun h₁ tk u => by
    cases b with
    | true => exact q _ _ u
    | false => exact h' rfl A ok W _ _ E (c.on u tk) fun h₂ tk₂ u₂ => q _ _ (u.trans u₂))
theorem Ev.ifexp {t body orelse : Expr} {b : Bool} {d₁ d₂ : PyData} (h : Tst C k env own ρ t b) (h1 : b = true → Ev C k env own ρ body md d₁) (h2 : b = false → Ev C k env own ρ orelse md d₂) : Ev C k env own ρ (.IfExp t body orelse pos) md (if b then d₁ else d₂) := fun A ok W s Q E c q =>
  PySem.wpAny_IfExp (h A ok W s _ E c fun h₁ tk u => by
    cases b with
    | true => exact h1 rfl A ok W _ _ E (c.on u tk) fun v h₂ tk₂ u₂ y => q _ _ _ (u.trans u₂) y
    | false => exact h2 rfl A ok W _ _ E (c.on u tk) fun v h₂ tk₂ u₂ y => q _ _ _ (u.trans u₂) y)

theorem Ev.tuple {n : Nat} (h : Evs C k env own ρ es md ds) (hz : ds.length ≤ sizeLine) : Ev C k env own ρ (.Tuple es n pos) md (.tuple ds) := fun A ok W s Q E c q =>
  PySem.wpAny_Tuple (h A ok W s _ E pos c fun vs h' tk u y => ⟨by rw [y.length]; exact hz, q _ _ _ (u.trans (Up.push _ _)) (.tuple (vs := vs) (n := 0) (Heap.get?_push_size _ rfl) (y.up (Up.push _ _)))⟩)
theorem EvF.list (h : Evs C k env own ρ es md ds) (hz : ds.length ≤ sizeLine) : EvF C k env own ρ (.List es pos) md ds := fun A ok W s Q E c q =>
  PySem.wpAny_List (h A ok W s _ E pos c fun vs h' tk u y => ⟨by rw [y.length]; exact hz, by
    have fr : h'.get? h'.objs.size = none := Heap.get?_none_of_le (Nat.le_refl _)
    refine q h'.objs.size vs 0 _ _ (u.trans (Up.push _ _)) (u.none fr) (Heap.get?_push_size _ rfl) ?_
    exact (y.there.imp fun b z => ⟨z.1, fun w => z.2 (w ▸ fr)⟩).up (Up.push _ _)⟩)

theorem seqTail {A : Around} {s : Shared} {value slice : Expr} {o i : Value} {T id : String} {Q : Value → Shared → Prop} {E : Value → Shared → Prop} (hT : s.TypeIs o T) (hl : typeLookup (.type T) "__getitem__" = pure (some (.builtin id)))
    (h : wpAny (model C.prog C.w) A (getItem o i) Q E s) (hs : ∃ vs, subscripted slice false o i = operate vs (getItem o i)) : wpAny (model C.prog C.w) A (subscriptTail value slice o i) Q E s := by
  obtain ⟨vs, hs⟩ := hs
  unfold subscriptTail
  refine wpAny_bind ?_
  rw [getitemInPython_of_ne hT.not_modules]
  refine wpAny_bind (wpAny_specialOf hT hl ?_)
  have fin : wpAny (model C.prog C.w) A (subscripted slice false o i) (fun r s₃ => wpAny (model C.prog C.w) A (letTemporaryGo value o r >>= fun _ => pure r) Q E s₃) E s := by
    rw [hs]
    exact wpAny_operating (wpAny_mono h (fun r s₃ h₃ => wpAny_bind (wpAny_letTemporaryGo (wpAny_pure h₃))) fun _ _ x => x)
  exact wpAny_pure (wpAny_bind fin)

theorem Ev.item {slice : Expr} (hl : EvB C k env own ρ l md (.list ds)) (hi : EvB C k env own ρ slice false (.int i)) (h0 : 0 ≤ i) (hd : ds[i.toNat]? = some d) (hz : ds.length ≤ sizeLine)
    (hs : ∀ o i, ∃ vs, subscripted slice false o i = operate vs (getItem o i) := by intro o i; exact ⟨_, rfl⟩) : Ev C k env own ρ (.Subscript l slice pos) md d := fun A ok W s Q E c q =>
  PyProof.Rows.Subscript_ (two_any (F := fun o i => subscriptTail l slice o i) hl hi c fun v v' h' tk u y y' => by
    obtain ⟨a, vs, n, e, g, r⟩ := y
    obtain ⟨t, rfl⟩ := y'.int_inv
    subst e
    obtain ⟨v, hv, rv⟩ := r.get hd
    have hil : Heap.IsList h' a vs.toArray := ⟨_, g, rfl, _, rfl⟩
    refine seqTail (s := { s with heap := h', toks := tk }) hil.typeIs slot_list_getitem.lookup (wpAny_getItem_list hil h0 ?_ (by simpa using hv) (q v h' tk u rv)) (hs _ _)
    have : i.toNat < ds.length := by
      rcases Nat.lt_or_ge i.toNat ds.length with h | h
      · exact h
      · rw [List.getElem?_eq_none h] at hd; cases hd
    rw [sizeLine_eq] at hz
    omega)
theorem Ev.itemNeg {slice : Expr} (hl : EvB C k env own ρ l md (.list ds)) (hi : EvB C k env own ρ slice false (.int i)) (h0 : i < 0) (h1 : -(ds.length : Int) ≤ i) (hd : ds[(i + ds.length).toNat]? = some d) (hz : ds.length ≤ sizeLine)
    (hs : ∀ o i, ∃ vs, subscripted slice false o i = operate vs (getItem o i) := by intro o i; exact ⟨_, rfl⟩) : Ev C k env own ρ (.Subscript l slice pos) md d := fun A ok W s Q E c q =>
  PyProof.Rows.Subscript_ (two_any (F := fun o i => subscriptTail l slice o i) hl hi c fun v v' h' tk u y y' => by
    obtain ⟨a, vs, n, e, g, r⟩ := y
    obtain ⟨t, rfl⟩ := y'.int_inv
    subst e
    obtain ⟨v, hv, rv⟩ := r.get hd
    have hil : Heap.IsList h' a vs.toArray := ⟨_, g, rfl, _, rfl⟩
    have hsz : (vs.toArray.size : Int) = ds.length := by rw [List.size_toArray, r.length]
    refine seqTail (s := { s with heap := h', toks := tk }) hil.typeIs slot_list_getitem.lookup (wpAny_getItem_list_neg hil h0 (by rw [hsz]; exact h1) ?_ (by rw [hsz]; simpa using hv) (q v h' tk u rv)) (hs _ _)
    rw [sizeLine_eq] at hz
    omega)
theorem Ev.itemT {slice : Expr} {j : Nat} (hl : EvB C k env own ρ l md (.tuple ds)) (hi : EvB C k env own ρ slice false (.int i)) (hlo : -(2 ^ 63) ≤ i) (hhi : i < 2 ^ 63) (hj : seqIndex? i ds.length = some j) (hd : ds[j]? = some d)
    (hs : ∀ o i, ∃ vs, subscripted slice false o i = operate vs (getItem o i) := by intro o i; exact ⟨_, rfl⟩) : Ev C k env own ρ (.Subscript l slice pos) md d := fun A ok W s Q E c q =>
  PyProof.Rows.Subscript_ (two_any (F := fun o i => subscriptTail l slice o i) hl hi c fun v v' h' tk u y y' => by
    have y : Rep (okW ok W md) h' (.tuple ds) v := y
    obtain ⟨t, rfl⟩ := y'.int_inv
    cases y with
    | tuple g r =>
      rename_i a vs n
      obtain ⟨v, hv, rv⟩ := r.get hd
      have hit : IsTup h' a vs.toArray := ⟨_, g, rfl, _, rfl⟩
      exact seqTail (s := { s with heap := h', toks := tk }) hit.typeIs slot_tuple_getitem.lookup (PyProof.Rows.getItem_tuple hit hlo hhi (by rw [List.size_toArray, r.length]; exact hj) (by simpa using hv) (q v h' tk u rv)) (hs _ _))

/-- a slice's bounds, as places -/
def slA (n : Nat) : Option Int → Nat
  | none => 0
  | some i => (max 0 (min (if i < 0 then i + n else i) n)).toNat
def slB (n : Nat) : Option Int → Nat
  | none => n
  | some i => (max 0 (min (if i < 0 then i + n else i) n)).toNat
def slD {α : Type} (ds : List α) (lo hi : Option Int) : List α := (ds.drop (slA ds.length lo)).take (slB ds.length hi - slA ds.length lo)
theorem slicePick_eq (vs : List Value) (lo hi : Option Int) : slicePick vs.toArray lo hi none = (slD vs lo hi).toArray := by
  have e : sliceBounds lo hi none vs.toArray.size = ((slA vs.length lo : Int), (slB vs.length hi : Int), 1) := by
    rw [List.size_toArray]
    simp only [sliceBounds, Option.getD_none, show (1 : Int) > 0 by decide, if_true]
    refine Prod.ext ?_ (Prod.ext ?_ rfl)
    · cases lo with
      | none => rfl
      | some i => simp only [slA]; omega
    · cases hi with
      | none => rfl
      | some i => simp only [slB]; omega
  unfold slicePick
  rw [e]
  simp only [sliceRange_one, pick_run]
  rfl
theorem RepAll.sl {ok : Addr → Prop} {h : Heap} {vs : List Value} (x : RepAll ok h ds vs) (lo hi : Option Int) : RepAll ok h (slD ds lo hi) (slD vs lo hi) := by
  unfold slD; rw [x.length]; exact (x.drop _).take _
/-- a bound of a slice: none written, or an int -/
def EvP (C : Cx) (k : Nat) (env : Env) (own : List Str) (ρ : DEnv) (e : Option Expr) (i : Option Int) : Prop := match e, i with
  | none, none => True
  | some e, some i => EvB C k env own ρ e false (.int i)
  | _, _ => False
theorem EvF.slice {lower upper : Option Expr} {lo hi : Option Int} {p : Pos} (hl : EvB C k env own ρ l md (.list ds)) (h1 : EvP C k env own ρ lower lo) (h2 : EvP C k env own ρ upper hi) (hz : ds.length ≤ sizeLine) :
    EvF C k env own ρ (.Subscript l (.Slice lower upper none p) pos) md (slD ds lo hi) := fun A ok W s Q E c q => by
  have part : ∀ {e : Option Expr} {i : Option Int} (h : EvP C k env own ρ e i) {s' : Shared} {Q' : Value → Shared → Prop}, Cur C k A ok W own env ρ s' → (∀ v h' tk, Up s'.heap h' → IsPart v i → Q' v { s' with heap := h', toks := tk }) → wpAny (model C.prog C.w) A (evalPart e env) Q' E s' := by
    intro e i h s' Q' c' q'
    cases e with
    | none =>
      cases i with
      | none => rw [evalPart_none]; exact wpAny_pure (q' _ s'.heap s'.toks (Up.refl _) .none)
      | some i => exact h.elim
    | some e =>
      cases i with
      | none => exact h.elim
      | some i =>
        rw [evalPart_some]
        refine h A ok W s' _ E c' fun v h' tk u y => ?_
        obtain ⟨t, rfl⟩ := y.int_inv
        exact q' _ _ _ u (.int i t)
  refine PyProof.Rows.Subscript_ (hl A ok W s _ E c fun v h' tk u y => ?_)
  obtain ⟨a, vs, n, e, g, r⟩ := y
  subst e
  refine wpAny_Slice (part h1 (c.on u tk) fun vl h₂ tk₂ u₂ pl => part h2 ((c.on u tk).on u₂ tk₂) fun vu h₃ tk₃ u₃ pu => ?_)
  rw [evalPart_none]
  refine wpAny_pure ?_
  have u' := u₂.trans u₃
  have hil : Heap.IsList (h₃.push { cls := .type "slice", data := .fields #[vl, vu, .none] }) a vs.toArray := ⟨_, Heap.get?_push_of_some _ (u' _ _ g), rfl, _, rfl⟩
  refine seqTail (s := { s with heap := h₃.push { cls := .type "slice", data := .fields #[vl, vu, .none] }, toks := tk₃ }) hil.typeIs slot_list_getitem.lookup (wpAny_getItem_list_slice hil (Heap.IsSliceOf.new ..) pl pu .none (by simp) ?_ (by rw [List.size_toArray, r.length]; exact hz)) ⟨_, rfl⟩
  rw [slicePick_eq]
  have fr : (h₃.push { cls := .type "slice", data := .fields #[vl, vu, .none] }).get? (h₃.push { cls := .type "slice", data := .fields #[vl, vu, .none] }).objs.size = none := Heap.get?_none_of_le (Nat.le_refl _)
  refine q _ _ _ _ _ ((u.trans u').trans ((Up.push _ _).trans (Up.push _ _))) (((u.trans u').trans (Up.push _ _)).none fr) (Heap.get?_push_size _ rfl) ?_
  have r' := ((r.up u').up (Up.push h₃ { cls := .type "slice", data := .fields #[vl, vu, .none] })).sl lo hi
  exact (r'.there.imp fun b z => ⟨z.1, fun w => z.2 (w ▸ fr)⟩).up (Up.push _ _)

theorem EvF.add (hl : EvB C k env own ρ l md (.list ds)) (hr : EvB C k env own ρ r md (.list ds')) (hz : ds.length + ds'.length ≤ sizeLine) : EvF C k env own ρ (.BinOp l .Add r pos) md (ds ++ ds') := fun A ok W s Q E c q =>
  wpAny_BinOp (two_any hl hr c fun v v' h' tk u y y' => by
    obtain ⟨a, vs, n, e, g, r⟩ := y
    obtain ⟨a', vs', n', e', g', r'⟩ := y'
    subst e e'
    have fr : h'.get? h'.objs.size = none := Heap.get?_none_of_le (Nat.le_refl _)
    refine P.add_list (s := { s with heap := h', toks := tk }) g g' ?_ (by rw [List.size_toArray, List.size_toArray, r.length, r'.length]; exact hz)
    have e : (vs.toArray ++ vs'.toArray) = (vs ++ vs').toArray := by simp
    rw [e]
    refine q _ _ _ _ _ (u.trans (Up.push _ _)) (u.none fr) (Heap.get?_push_size _ rfl) ?_
    exact ((r.append r').there.imp fun b z => ⟨z.1, fun w => z.2 (w ▸ fr)⟩).up (Up.push _ _))
end

end Mine

namespace Mine
open PySem PyProof.Rows

section
variable {C : Cx} {k : Nat} {env : Env} {own : List Str} {ρ : DEnv} {e e' l r : Expr} {es : List Expr} {md md' ml mr : Bool} {d : PyData} {ds ds' : List PyData} {pos npos : Pos} {i j : Int} {x : Str} {id T : String}
variable {A : Around} {ok : Bool → Addr → Prop} {W : Str → Option Addr} {s : Shared} {Q E : Value → Shared → Prop}

theorem call1 (hf : EvK C k env own ρ (.Name x npos) (.builtin id)) (ha : EvB C k env own ρ e md d) (c : Cur C k A ok W own env ρ s)
    (h : ∀ v h' tk, Up s.heap h' → RepB (okW ok W md) h' d v → wpAny (model C.prog C.w) A (call (.builtin id) [v]) Q E { s with heap := h', toks := tk }) (he : starEach [e] env = (false, eval e env) :: starEach [] env := by rfl) :
    wpAny (model C.prog C.w) A (eval (.Call (.Name x npos) [e] [] pos) env) Q E s :=
  Call_ (hf A ok W s _ E c fun h₁ tk₁ u₁ => PyProof.Rows.callWith_builtin1 (args_cons (ha A ok W _ _ E (c.on u₁ tk₁) fun v h' tk u y => args_nil (h v h' tk (u₁.trans u) y)) he) he)
theorem call2 (hf : EvK C k env own ρ (.Name x npos) (.builtin id)) (ha : EvB C k env own ρ e false (.int i)) (hb : EvB C k env own ρ e' false (.int j)) (c : Cur C k A ok W own env ρ s)
    (h : ∀ t u h' tk, Up s.heap h' → wpAny (model C.prog C.w) A (call (.builtin id) [.int i t, .int j u]) Q E { s with heap := h', toks := tk }) (he : starEach [e, e'] env = (false, eval e env) :: starEach [e'] env := by rfl) (he' : starEach [e'] env = (false, eval e' env) :: starEach [] env := by rfl)
    (hplain : (backTo pos (starEach [e'] env)).any (·.1) = false := by rfl) : wpAny (model C.prog C.w) A (eval (.Call (.Name x npos) [e, e'] [] pos) env) Q E s :=
  Call_ (hf A ok W s _ E c fun h₁ tk₁ u₁ => PyProof.Rows.callWith_builtin1 (args_cons (ha A ok W _ _ E (c.on u₁ tk₁) fun v h' tk u y => args_cons (hb A ok W _ _ E ((c.on u₁ tk₁).on u tk) fun v' h'' tk' u' y' => by
    obtain ⟨t, rfl⟩ := y.int_inv
    obtain ⟨t', rfl⟩ := y'.int_inv
    exact args_nil (h t t' h'' tk' ((u₁.trans u).trans u'))) he') he) he hplain)
theorem callT (hf : EvK C k env own ρ (.Name x npos) (.type T)) (ha : EvB C k env own ρ e md d) (c : Cur C k A ok W own env ρ s)
    (h : ∀ v h' tk, Up s.heap h' → RepB (okW ok W md) h' d v → wpAny (model C.prog C.w) A (call (.type T) [v]) Q E { s with heap := h', toks := tk }) (he : starEach [e] env = (false, eval e env) :: starEach [] env := by rfl) :
    wpAny (model C.prog C.w) A (eval (.Call (.Name x npos) [e] [] pos) env) Q E s :=
  Call_ (hf A ok W s _ E c fun h₁ tk₁ u₁ => PyProof.Rows.callWith_type1 (args_cons (ha A ok W _ _ E (c.on u₁ tk₁) fun v h' tk u y => args_nil (h v h' tk (u₁.trans u) y)) he) he)
end

section
variable {C : Cx} {k : Nat} {env : Env} {own : List Str} {ρ : DEnv} {e e' l r : Expr} {es : List Expr} {md md' ml mr : Bool} {d : PyData} {ds ds' : List PyData} {pos npos : Pos} {i j : Int} {x : Str} {id T : String}

theorem Ev.len (hf : EvK C k env own ρ (.Name x npos) (.builtin "len")) (ha : EvB C k env own ρ e false (.list ds)) (hz : ds.length ≤ sizeLine) (he : starEach [e] env = (false, eval e env) :: starEach [] env := by rfl) :
    Ev C k env own ρ (.Call (.Name x npos) [e] [] pos) md (.int ds.length) := fun A ok W s Q E c q =>
  call1 hf ha c (fun v h' tk u y => by
    obtain ⟨a, vs, n, e, g, r⟩ := y
    subst e
    have hl : ((vs.toArray.size : Nat) : Int) = ds.length := by rw [List.size_toArray, r.length]
    refine Calls.call_len_list (s := { s with heap := h', toks := tk }) ⟨_, g, rfl, _, rfl⟩ (by rw [hl]; rw [sizeLine_eq] at hz; omega) ?_
    rw [hl]
    exact q _ _ _ u (.int _ _)) he
theorem Ev.lenT (hf : EvK C k env own ρ (.Name x npos) (.builtin "len")) (ha : EvB C k env own ρ e false (.tuple ds)) (hz : ds.length ≤ sizeLine) (he : starEach [e] env = (false, eval e env) :: starEach [] env := by rfl) :
    Ev C k env own ρ (.Call (.Name x npos) [e] [] pos) md (.int ds.length) := fun A ok W s Q E c q =>
  call1 hf ha c (fun v h' tk u y => by
    have y : Rep (okW ok W false) h' (.tuple ds) v := y
    cases y with
    | tuple g r =>
      rename_i a vs n
      have hl : ((vs.toArray.size : Nat) : Int) = ds.length := by rw [List.size_toArray, r.length]
      refine PyProof.Rows.len_tuple (s := { s with heap := h', toks := tk }) ⟨_, g, rfl, _, rfl⟩ (by rw [hl]; rw [sizeLine_eq] at hz; omega) ?_
      rw [hl]
      exact q _ _ _ u (.int _ _)) he
theorem Ev.abs (hf : EvK C k env own ρ (.Name x npos) (.builtin "abs")) (ha : EvB C k env own ρ e false (.int i)) (he : starEach [e] env = (false, eval e env) :: starEach [] env := by rfl) :
    Ev C k env own ρ (.Call (.Name x npos) [e] [] pos) md (.int (i.natAbs : Int)) := fun A ok W s Q E c q =>
  call1 hf ha c (fun v h' tk u y => by
    obtain ⟨t, rfl⟩ := y.int_inv
    refine PyProof.Rows.call_abs_int fun t' tk' => ?_
    have e : (if i < 0 then -i else i) = (i.natAbs : Int) := by split <;> omega
    rw [e]
    exact q _ _ _ u (.int _ _)) he
theorem Ev.min (hf : EvK C k env own ρ (.Name x npos) (.builtin "min")) (ha : EvB C k env own ρ e false (.int i)) (hb : EvB C k env own ρ e' false (.int j)) (he : starEach [e, e'] env = (false, eval e env) :: starEach [e'] env := by rfl) (he' : starEach [e'] env = (false, eval e' env) :: starEach [] env := by rfl)
    (hplain : (backTo pos (starEach [e'] env)).any (·.1) = false := by rfl) : Ev C k env own ρ (.Call (.Name x npos) [e, e'] [] pos) md (.int (min i j)) := fun A ok W s Q E c q =>
  call2 hf ha hb c (fun t t' h' tk u => min_two_ints c.room.hh fun h'' tk' u' => by
    by_cases h : j < i
    · rw [if_pos h, show Min.min i j = j by omega] at *; exact q _ _ _ (u.trans u') (.int _ _)
    · rw [if_neg h, show Min.min i j = i by omega] at *; exact q _ _ _ (u.trans u') (.int _ _)) he he' hplain
theorem Ev.max (hf : EvK C k env own ρ (.Name x npos) (.builtin "max")) (ha : EvB C k env own ρ e false (.int i)) (hb : EvB C k env own ρ e' false (.int j)) (he : starEach [e, e'] env = (false, eval e env) :: starEach [e'] env := by rfl) (he' : starEach [e'] env = (false, eval e' env) :: starEach [] env := by rfl)
    (hplain : (backTo pos (starEach [e'] env)).any (·.1) = false := by rfl) : Ev C k env own ρ (.Call (.Name x npos) [e, e'] [] pos) md (.int (max i j)) := fun A ok W s Q E c q =>
  call2 hf ha hb c (fun t t' h' tk u => max_two_ints c.room.hh fun h'' tk' u' => by
    by_cases h : j > i
    · rw [if_pos h, show Max.max i j = j by omega] at *; exact q _ _ _ (u.trans u') (.int _ _)
    · rw [if_neg h, show Max.max i j = i by omega] at *; exact q _ _ _ (u.trans u') (.int _ _)) he he' hplain

/-- list(xs): new, the items the same -/
theorem copy_raw {A ok W s} {Q E : Value → Shared → Prop} (hf : EvK C k env own ρ (.Name x npos) (.type "list")) (ha : EvB C k env own ρ e md' (.list ds)) (hz : ds.length ≤ sizeLine) (c : Cur C k A ok W own env ρ s)
    (q : ∀ a vs n h' tk, Up s.heap h' → s.heap.get? a = none → h'.get? a = some (lst vs n) → RepAll (fun b => okW ok W md' b ∧ b ≠ a) h' ds vs → Q (.ref a) { s with heap := h', toks := tk }) (he : starEach [e] env = (false, eval e env) :: starEach [] env := by rfl) :
    wpAny (model C.prog C.w) A (eval (.Call (.Name x npos) [e] [] pos) env) Q E s :=
  callT hf ha c (fun v h' tk u y => by
    obtain ⟨a, vs, n, e, g, r⟩ := y
    subst e
    have fr : h'.get? h'.objs.size = none := Heap.get?_none_of_le (Nat.le_refl _)
    refine call_list_seq (s := { s with heap := h', toks := tk }) a (.inl rfl) g rfl rfl (fun h'' c' k' g' => ?_) (by rw [List.size_toArray, r.length]; exact hz)
    refine q _ vs c' _ _ (u.trans k') (u.none fr) g' ?_
    exact (r.there.imp fun b z => ⟨z.1, fun w => z.2 (w ▸ fr)⟩).up k') he
theorem EvF.copy (hf : EvK C k env own ρ (.Name x npos) (.type "list")) (ha : EvB C k env own ρ e md (.list ds)) (hz : ds.length ≤ sizeLine) (he : starEach [e] env = (false, eval e env) :: starEach [] env := by rfl) :
    EvF C k env own ρ (.Call (.Name x npos) [e] [] pos) md ds := fun A ok W s Q E c q => copy_raw hf ha hz c q he
theorem EvF.copyA (hf : EvK C k env own ρ (.Name x npos) (.type "list")) (ha : EvB C k env own ρ e false (.list ds)) (hat : ds.all atom = true) (hz : ds.length ≤ sizeLine) (he : starEach [e] env = (false, eval e env) :: starEach [] env := by rfl) :
    EvF C k env own ρ (.Call (.Name x npos) [e] [] pos) md ds := fun A ok W s Q E c q => copy_raw hf ha hz c (fun a vs n h' tk u f g r => q a vs n h' tk u f g (r.atoms hat)) he
theorem EvF.copyT (hf : EvK C k env own ρ (.Name x npos) (.type "list")) (ha : EvB C k env own ρ e md (.tuple ds)) (hz : ds.length ≤ sizeLine) (he : starEach [e] env = (false, eval e env) :: starEach [] env := by rfl) :
    EvF C k env own ρ (.Call (.Name x npos) [e] [] pos) md ds := fun A ok W s Q E c q =>
  callT hf ha c (fun v h' tk u y => by
    have y : Rep (okW ok W md) h' (.tuple ds) v := y
    cases y with
    | tuple g r =>
      rename_i a vs n
      have fr : h'.get? h'.objs.size = none := Heap.get?_none_of_le (Nat.le_refl _)
      refine call_list_seq (s := { s with heap := h', toks := tk }) a (.inr rfl) g rfl rfl (fun h'' c' k' g' => ?_) (by rw [List.size_toArray, r.length]; exact hz)
      refine q _ vs c' _ _ (u.trans k') (u.none fr) g' ?_
      exact (r.there.imp fun b z => ⟨z.1, fun w => z.2 (w ▸ fr)⟩).up k') he
/-- tuple(xs) -/
theorem Ev.totuple (hf : EvK C k env own ρ (.Name x npos) (.type "tuple")) (ha : EvB C k env own ρ e md (.list ds)) (hz : ds.length ≤ sizeLine) (he : starEach [e] env = (false, eval e env) :: starEach [] env := by rfl) :
    Ev C k env own ρ (.Call (.Name x npos) [e] [] pos) md (.tuple ds) := fun A ok W s Q E c q =>
  callT hf ha c (fun v h' tk u y => by
    obtain ⟨a, vs, n, e, g, r⟩ := y
    subst e
    refine call_tuple_list (s := { s with heap := h', toks := tk }) ⟨_, g, rfl, _, rfl⟩ (fun h'' k' => ?_) (by rw [List.size_toArray, r.length]; exact hz)
    exact q _ _ _ ((u.trans k').trans (Up.push _ _)) (.tuple (vs := vs) (n := 0) (Heap.get?_push_size _ rfl) ((r.up k').up (Up.push _ _)))) he
theorem Ev.toBool {b : Bool} (hf : EvK C k env own ρ (.Name x npos) (.type "bool")) (ha : EvB C k env own ρ e false (.bool b)) (he : starEach [e] env = (false, eval e env) :: starEach [] env := by rfl) :
    Ev C k env own ρ (.Call (.Name x npos) [e] [] pos) md (.bool b) := fun A ok W s Q E c q =>
  callT hf ha c (fun v h' tk u y => by
    cases y.bool_inv
    exact call_bool_bool (q _ _ _ u (.bool _))) he

/-- the name of a datum's type -/
def typeD : PyData → String
  | .none => "NoneType"
  | .bool _ => "bool"
  | .int _ => "int"
  | .str _ => "str"
  | .list _ => "list"
  | .tuple _ => "tuple"
  | .dict _ => "dict"
theorem RepB.typeIs {ok : Addr → Prop} {v : Value} {s : Shared} (y : RepB ok s.heap d v) : s.TypeIs v (typeD d) := by
  cases d with
  | list ds => obtain ⟨a, vs, n, e, g, _⟩ := y; subst e; exact ⟨_, g, rfl⟩
  | none => have y : Rep ok s.heap .none v := y; cases y; rfl
  | bool b => have y : Rep ok s.heap (.bool b) v := y; cases y; rfl
  | int b => have y : Rep ok s.heap (.int b) v := y; cases y; exact typeIs_int _ _ _
  | str b => have y : Rep ok s.heap (.str b) v := y; cases y; rfl
  | tuple b =>
    have y : Rep ok s.heap (.tuple b) v := y
    cases y with
    | tuple g r => exact ⟨_, g, rfl⟩
  | dict b => have y : Rep ok s.heap (.dict b) v := y; cases y
theorem EvK.type (hf : EvK C k env own ρ (.Name x npos) (.type "type")) (ha : EvB C k env own ρ e false d) (he : starEach [e] env = (false, eval e env) :: starEach [] env := by rfl) :
    EvK C k env own ρ (.Call (.Name x npos) [e] [] pos) (.type (typeD d)) := fun A ok W s Q E c q =>
  callT hf ha c (fun v h' tk u y => call_type_of (s := { s with heap := h', toks := tk }) (RepB.typeIs (s := { s with heap := h', toks := tk }) y) (by cases d <;> (simp only [typeD]; decide)) (q _ _ u)) he
/-- isinstance(n, int) -/
theorem Ev.isInt (hf : EvK C k env own ρ (.Name x npos) (.builtin "isinstance")) (ha : EvB C k env own ρ e false (.int i)) (hb : EvK C k env own ρ e' (.type "int")) (he : starEach [e, e'] env = (false, eval e env) :: starEach [e'] env := by rfl) (he' : starEach [e'] env = (false, eval e' env) :: starEach [] env := by rfl)
    (hplain : (backTo pos (starEach [e'] env)).any (·.1) = false := by rfl) : Ev C k env own ρ (.Call (.Name x npos) [e, e'] [] pos) md (.bool true) := fun A ok W s Q E c q =>
  Call_ (hf A ok W s _ E c fun h₁ tk₁ u₁ => PyProof.Rows.callWith_builtin1 (args_cons (ha A ok W _ _ E (c.on u₁ tk₁) fun v h' tk u y => args_cons (hb A ok W _ _ E ((c.on u₁ tk₁).on u tk) fun h'' tk' u' => by
    obtain ⟨t, rfl⟩ := y.int_inv
    exact args_nil (IsiPair.int_int (q _ _ _ ((u₁.trans u).trans u') (.bool _)))) he') he) he hplain)
/-- truth of a value as a test -/
theorem Tst.val {b : Bool} (ha : Ev C k env own ρ e false (.bool b)) (he : isTrue e env (eval e env) = (do let v ← eval e env; standAt e.pos; holding [v] (truthy v)) := by rfl) : Tst C k env own ρ e b := fun A ok W s Q E c q =>
  isTrue_plain (ha A ok W s _ E c fun v h' tk u y => by cases y; exact wpAny_truthy_bool (q _ _ u)) he

theorem EvI.range (hf : EvK C k env own ρ (.Name x npos) (.type "range")) (ha : EvB C k env own ρ e false (.int i)) (hlo : -(2 ^ 62) ≤ i) (hhi : i < 2 ^ 62) (he : starEach [e] env = (false, eval e env) :: starEach [] env := by rfl) :
    EvI C k env own ρ (.Call (.Name x npos) [e] [] pos) md (rangeD i) := fun A ok W s Q E c q =>
  callT hf ha c (fun v h' tk u y => by
    obtain ⟨t, rfl⟩ := y.int_inv
    refine call_range_1 ?_
    have hsz : Builtin.Range.rangeSize 0 i 1 = ((rangeD i).length : Int) := by
      rw [rangeSize_one, rangeD, List.length_map, List.length_range]; split <;> omega
    refine wpAny_pyIter_range (IsRange.new ..) (small_one (by omega) (by omega) hlo hhi) ?_
    have fr := Heap.get?_none_of_le (h := h'.push { cls := .type "range", data := .fields #[.int 0 tk, .int i t, .int 1 (tk + 1)] }) (Nat.le_refl _)
    have wk := Walks.range (prog := C.prog) (w := C.w) (A := A) c.room.hh (h'.push { cls := .type "range", data := .fields #[.int 0 tk, .int i t, .int 1 (tk + 1)] }).objs.size 0 1 (rangeD i).length
    refine q _ _ _ _ (fun _ _ => True) _ _ (u.trans ((Up.push _ _).trans (Up.push _ _))) ((u.trans (Up.push _ _)).none fr) { wk := wk, fld := ?_, carry := fun _ _ _ _ _ _ => trivial, oth := ?_, item := ?_ } trivial ?_
    · intro n h hi; exact ⟨_, _, hi, rfl, .inr rfl⟩
    · intro b hb hbI; exact absurd (List.mem_singleton.mp hb) hbI
    · rintro n v d W h ⟨t, rfl⟩ hd _
      have hd : (rangeD i)[n]? = some d := hd
      have hn : n < (rangeD i).length := by
        rcases Nat.lt_or_ge n (rangeD i).length with h | h
        · exact h
        · rw [List.getElem?_eq_none h] at hd; cases hd
      have : d = .int (n : Int) := by
        have hn' : n < i.toNat := by simpa [rangeD] using hn
        simp [rangeD, hn'] at hd
        exact hd.symm
      subst this
      have e : (0 : Int) + (n : Int) * 1 = n := by omega
      rw [e]
      exact .int _ _
    · have e : ((0 : Int) + ((0 : Nat) : Int) * 1, ((rangeD i).length : Int) - ((0 : Nat) : Int)) = (0, Builtin.Range.rangeSize 0 i 1) := by rw [hsz]; simp
      have e1 := congrArg Prod.fst e
      have e2 := congrArg Prod.snd e
      dsimp only at e1 e2
      show IsRangeIter _ _ _ _ _
      rw [e1, e2]
      exact Heap.get?_push_size _ rfl) he
end

end Mine

namespace Mine
open PySem PyProof.Rows

section
variable {C : Cx} {k : Nat} {A : Around} {hN : Heap} {ok : Bool → Addr → Prop} {s₀ : Shared} {Kp : Addr → Obj → Prop} {env : Env} {own : List Str} {W : Str → Option Addr} {ρ : DEnv} {s : Shared}
/-- the list that x owns is changed -/
theorem Sta.mut {x : Str} {a : Addr} {vs' : List Value} {n' : Nat} {ds' : List PyData} {md : Bool} {h' : Heap} (S : Sta C k A hN ok s₀ Kp env own W ρ s) (hx : ∃ m d, ρ x = some (m, d)) (hw : W x = some a) (hlt : lentName x = false) (hs : Heap.SameBut a s.heap h') (g' : h'.get? a = some (lst vs' n'))
    (r' : RepAll (okW ok W md) s.heap ds' vs') (tk : Nat) : Sta C k A hN ok s₀ Kp env own W (upd ρ x md (.list ds')) { s with heap := h', toks := tk } := by
  obtain ⟨nk, vs, n, g⟩ := S.own2 x a hw
  have cy : Carry W s.heap W h' := ⟨fun _ b vs n e o => ⟨hs.extBut b _ (fun q => by have := (o x (q ▸ hw)).1; rw [hlt] at this; cases this) e, o⟩, fun b vs₁ n₁ e => hs.extBut b _ (fun q => by
    rw [q, g] at e
    exact absurd (show Value.type "list" = Value.type "tuple" from congrArg Obj.cls (Option.some.inj e)) (by decide)) e⟩
  obtain ⟨m, cm, hn, hc, hv⟩ := S.frm
  have neL : a ≠ env.locals := fun q => (ns_no_lst hn).1 vs n (q ▸ g)
  refine { room := S.room, top := S.top, eok := S.eok, up := S.up, new := S.new, le := S.le, kpN := S.kpN, same := let ⟨h, t, e⟩ := S.same; ⟨h', tk, by rw [e]⟩, keep := fun b o e => hs.extBut b o (fun q => nk o (q ▸ e)) (S.keep b o e), newL := S.newL, newC := S.newC, apart := S.apart, frm := ?_, own1 := S.own1, own2 := fun y b e => ?_, inj := S.inj }
  · refine ⟨m, cm, hn.sameBut hs (Ne.symm neL), fun n c e => (hc n c e).sameBut hs fun q => (cell_no_lst (hc n c e)).1 vs _ (q ▸ g), fun y md' d' e => ?_⟩
    unfold upd at e
    split at e
    · rename_i q; subst q; cases e
      obtain ⟨m₁, d₁, e₁⟩ := hx
      obtain ⟨v, l, z⟩ := hv y m₁ d₁ e₁
      refine ⟨v, l, ?_⟩
      unfold Holds1 at z ⊢
      rw [hw] at z ⊢
      exact ⟨z.1, ds', vs', n', rfl, g', r'.carry cy⟩
    · rename_i q
      obtain ⟨v, l, z⟩ := hv y md' d' e
      refine ⟨v, l, ?_⟩
      unfold Holds1 at z ⊢
      split at z
      · exact z.carry cy
      · rename_i b wb
        obtain ⟨e1, ds, vs₂, n₂, e2, g₂, r₂⟩ := z
        exact ⟨e1, ds, vs₂, n₂, e2, hs.extBut _ _ (fun z => q (S.inj y x a (z ▸ wb) hw)) g₂, r₂.carry cy⟩
  · obtain ⟨nk', vs₂, n₂, g₂⟩ := S.own2 y b e
    refine ⟨nk', ?_⟩
    by_cases q : b = a
    · subst q; exact ⟨_, _, g'⟩
    · exact ⟨_, _, hs.extBut _ _ q g₂⟩
end

section
variable {C : Cx} {k : Nat} {env : Env} {own : List Str} {ρ : DEnv} {rest : List Stmt} {P : Out → Prop} {e value : Expr} {x : Str} {md md' mx : Bool} {d : PyData} {ds : List PyData} {pos pos' cpos apos npos tpos : Pos}

theorem append_raw {A hN ok s₀ Kp W s} {Q : Flow → Shared → Prop} {E : Value → Shared → Prop} (he : Ev C k env own ρ e md d) (hx : ρ x = some (mx, .list ds)) (ho : own.contains x = true) (hz : ds.length ≤ sizeLine)
    (S : Sta C k A hN ok s₀ Kp env own W ρ s) (q : ∀ s', Sta C k A hN ok s₀ Kp env own W (upd ρ x (mx && md) (.list (ds ++ [d]))) s' → Q .next s')
    (hd : (x == ("__debug__" : Str)) = false) (hcd : (x == ("__classdict__" : Str)) = false)
    (hbase : attributeBase (.Name x npos) "append" env (eval (.Name x npos) env) = eval (.Name x npos) env)
    (hfew : ((backTo cpos (starEach [e] env)).all (fun x => !x.1) && (backToKw cpos (keywordEach [] env)).all (fun x => x.1.isSome) && decide (([e] : List Expr).length + ([] : List Keyword).length + (if ([] : List Keyword).isEmpty then 0 else 1) < 30)) = true)
    (hline : (apos.endLine == cpos.line) = true) (htrees : backTo cpos (starEach [e] env) = [(false, eval e env)]) (hi : interactive env = false) (hlt : lentName x = false) :
    wpAny (model C.prog C.w) A (exec (.Expr (.Call (.Attribute (.Name x npos) "append" apos) [e] [] cpos) pos) env) Q E s := by
  refine wpAny_Expr ?_ hi rfl
  refine wpAny_Call_append hbase hfew hline htrees ?_
  obtain ⟨a, hw⟩ : ∃ a, W x = some a := (S.own1 x).mpr (by simpa using ho)
  obtain ⟨v, lk, y⟩ := S.cur.has x mx (.list ds) hx
  refine wpAny_Name (lk.load S.eok.kind ?_ hcd) hd
  unfold Holds1 at y
  rw [hw] at y
  obtain ⟨e1, ds₁, vs, n, e2, g, r⟩ := y
  cases e2
  subst e1
  refine ⟨a, vs.toArray, rfl, ⟨_, n, g, rfl, rfl, rfl⟩, ?_⟩
  refine he A ok W s _ E S.cur fun v h' tk u y => ?_
  refine wpAny_list_append_plain (s := { s with heap := h', toks := tk }) ⟨n, u _ _ g⟩ (fun h'' pl hs => ?_) (by rw [List.size_toArray, r.length]; exact hz)
  obtain ⟨n'', g''⟩ := pl
  have g'' : h''.get? a = some (lst (vs ++ [v]) n'') := by rw [g'']; simp
  refine q _ ((S.on u tk).mut ⟨_, _, hx⟩ hw hlt hs g'' ?_ tk)
  have r1 : RepAll (okW ok W (mx && md)) h' ds vs := (r.up u).imp fun b z => okW_le S.le (md' := mx) (by cases mx <;> cases md <;> rfl) z
  have r2 : Rep (okW ok W (mx && md)) h' d v := y.imp fun b z => okW_le S.le (md' := md) (by cases mx <;> cases md <;> rfl) z
  exact r1.append (.one r2)
theorem Ex.append (he : Ev C k env own ρ e md d) (hx : ρ x = some (mx, .list ds)) (ho : own.contains x = true) (hz : ds.length ≤ sizeLine) (h : Ex C k env own (upd ρ x (mx && md) (.list (ds ++ [d]))) rest P)
    (hd : (x == ("__debug__" : Str)) = false := by decide) (hcd : (x == ("__classdict__" : Str)) = false := by decide)
    (hbase : attributeBase (.Name x npos) "append" env (eval (.Name x npos) env) = eval (.Name x npos) env := by rfl)
    (hfew : ((backTo cpos (starEach [e] env)).all (fun x => !x.1) && (backToKw cpos (keywordEach [] env)).all (fun x => x.1.isSome) && decide (([e] : List Expr).length + ([] : List Keyword).length + (if ([] : List Keyword).isEmpty then 0 else 1) < 30)) = true := by rfl)
    (hline : (apos.endLine == cpos.line) = true := by rfl) (htrees : backTo cpos (starEach [e] env) = [(false, eval e env)] := by rfl) (hi : interactive env = false := by rfl) (hlt : lentName x = false := by rfl) :
    Ex C k env own ρ (.Expr (.Call (.Attribute (.Name x npos) "append" apos) [e] [] cpos) pos :: rest) P :=
  Ex.plain (fun A hN ok s₀ Kp W s Q E S q => append_raw he hx ho hz S (q W) hd hcd hbase hfew hline htrees hi hlt) h

/-- names unpacked -/
def unpO : List (Str × Pos) → List Str → List Str
  | [], own => own
  | (x, _) :: r, own => unpO r (less own x)
def unpR : List (Str × Pos) → Bool → List PyData → DEnv → DEnv
  | (x, _) :: r, md, d :: ds, ρ => unpR r md ds (upd ρ x md d)
  | _, _, _, ρ => ρ
def nameE (p : Str × Pos) : Expr := .Name p.1 p.2

theorem assignEach_names (env : Env) : ∀ ns : List (Str × Pos), (assignEach (ns.map nameE) env) = ns.map fun p => (false, assign (nameE p) env)
  | [] => rfl
  | p :: ns => by
    show (false, assign (nameE p) env) :: assignEach (ns.map nameE) env = _
    rw [assignEach_names env ns]; rfl

theorem noLent_less {own : List Str} {x : Str} (h : noLent own = true) : noLent (less own x) = true := List.all_eq_true.mpr fun y hy => List.all_eq_true.mp h y (mem_less.mp hy).1
theorem unpO_sub : ∀ (ns : List (Str × Pos)) (own : List Str), ∀ x ∈ unpO ns own, x ∈ own
  | [], own, x, h => h
  | p :: ns, own, x, h => (mem_less.mp (unpO_sub ns (less own p.1) x h)).1
theorem inOrder {A : Around} {hN : Heap} {ok : Bool → Addr → Prop} {s₀ : Shared} {Kp : Addr → Obj → Prop} {E : Value → Shared → Prop} : ∀ (ns : List (Str × Pos)) (own : List Str) (ρ : DEnv) (ds : List PyData) (vs : List Value) (W : Str → Option Addr) (s : Shared) (Q : Unit → Shared → Prop), noLent own = true → ns.length = ds.length → ns.all (fun p => storable env p.1) = true →
    Sta C k A hN ok s₀ Kp env own W ρ s → RepAll (okW ok W md) s.heap ds vs → (∀ W' s', (∀ y ∈ unpO ns own, W' y = W y) → Sta C k A hN ok s₀ Kp env (unpO ns own) W' (unpR ns md ds ρ) s' → Q () s') →
    wpAny (model C.prog C.w) A (assignInOrder (ns.map fun p => assign (nameE p) env) vs) Q E s
  | [], own, ρ, ds, vs, W, s, Q, _, hl, _, S, r, q => by
    cases ds with
    | nil => cases r; exact wpAny_assignInOrder_none (q W s (fun _ _ => rfl) S)
    | cons => simp at hl
  | (x, p) :: ns, own, ρ, ds, vs, W, s, Q, hnl, hl, hst, S, r, q => by
    cases r with
    | nil => simp at hl
    | cons r1 r2 =>
      rename_i v vs d ds
      simp only [List.all_cons, Bool.and_eq_true] at hst
      refine wpAny_assignInOrder_more (wpAny_assign_Name (S.moreKp.store hst.1 r1 fun s' S' => ?_))
      refine inOrder ns _ _ ds vs _ s' Q (noLent_less hnl) (by simpa using hl) hst.2 (S'.lessKp S.kp_sub S.kpN) (r2.carry (S.carry hnl (noLent_less hnl) S')) fun W'' s'' e S'' => q W'' s'' (fun y hy => by rw [e y hy]; unfold unW; rw [if_neg (mem_less.mp (unpO_sub ns _ y hy)).2]) S''

theorem Asg.tuple {ns : List (Str × Pos)} {n : Nat} (hl : ns.length = ds.length) (hst : ns.all (fun p => storable env p.1) = true := by rfl) (hnl : noLent own = true := by rfl) : Asg C k env own ρ (.Tuple (ns.map nameE) n pos) md (.tuple ds) (unpO ns own) (unpR ns md ds ρ) := by
  refine ⟨unpO_sub ns own, ?_⟩
  intro A hN ok s₀ Kp W s v Q E S y q
  cases y with
  | tuple g r =>
    rename_i a vs n'
    refine wpAny_assign_Tuple S.room.hh ⟨_, g, rfl, _, rfl⟩ ?_ ?_ fun h' he => ?_
    · rw [assignEach_names, List.length_map, List.size_toArray, r.length, hl]
    · rw [assignEach_names]
      rw [List.findIdx?_eq_none_iff]
      intro p hp
      obtain ⟨p', _, rfl⟩ := List.mem_map.mp hp
      rfl
    · have u : Up s.heap h' := fun b o e => he b o (Nat.ne_of_lt (Heap.lt_size e)) e
      have e1 : (assignEach (ns.map nameE) env).map (·.2) = ns.map fun p => assign (nameE p) env := by rw [assignEach_names, List.map_map]; rfl
      rw [e1]
      exact inOrder ns own ρ ds _ W _ Q hnl hl hst (S.on u s.toks) (by simpa using r.up u) q
theorem Ex.unpack {ns : List (Str × Pos)} {n : Nat} (he : Ev C k env own ρ value md (.tuple ds)) (hl : ns.length = ds.length) (h : Ex C k env (unpO ns own) (unpR ns md ds ρ) rest P) (hst : ns.all (fun p => storable env p.1) = true := by rfl)
    (hs : swapsWithSole [.Tuple (ns.map nameE) n tpos] value pos.line env = pure false := by rfl) (hw : swappedStores [.Tuple (ns.map nameE) n tpos] value env = pure none := by rfl) (hnl : noLent own = true := by rfl) :
    Ex C k env own ρ (.Assign [.Tuple (ns.map nameE) n tpos] value pos :: rest) P :=
  Ex.plain (fun A hN ok s₀ Kp W s Q E S q => Assign_Tuple (he A ok W s _ E S.cur fun v h' tk u y => (Asg.tuple hl hst hnl).2 A hN ok s₀ Kp W _ v _ E (S.on u tk) y fun W' s' _ S' => q W' s' S') hs hw) h
end

end Mine

namespace Mine
open PySem PyProof.Rows

/-- a target stored in a comprehension's own frame -/
def AsgC (C : Cx) (target : Expr) (d : PyData) (bs : List (Str × PyData)) : Prop :=
  ∀ (A : Around) (okp : Addr → Prop) (env : Env) (s : Shared) (m : Str → Option Value) (v : Value) (Q : Unit → Shared → Prop) (E : Value → Shared → Prop), A.handled = none → env.scope.kind = .function → (∀ p ∈ bs, env.kindOf p.1 = some .local) → s.heap.Ns env.locals m → Rep okp s.heap d v →
    (∀ h' tk m', h'.Ns env.locals m' → (∀ b o, b ≠ env.locals → s.heap.get? b = some o → h'.get? b = some o) → (∀ x dx, bs.lookup x = some dx → ∃ vx, m' x = some vx ∧ Rep okp s.heap dx vx) → Q () { s with heap := h', toks := tk }) →
    wpAny (model C.prog C.w) A (assign target env v) Q E s

section
variable {C : Cx} {x : Str} {d : PyData} {pos : Pos} {ds : List PyData}
theorem AsgC.name : AsgC C (.Name x pos) d [(x, d)] := fun A okp env s m v Q E hh hk hl hn y q =>
  wpAny_assign_Name (wpAny_storeName_local (hl (x, d) (.head _)) hn (fun h' hn' hs => q h' _ _ hn' (fun b o hb e => hs.extBut b o hb e) fun z dz hz => by
    simp only [List.lookup_cons, List.lookup_nil] at hz
    cases hb : z == x with
    | true =>
      rw [hb] at hz; cases hz
      have : z = x := by simpa using hb
      subst this
      exact ⟨v, by simp, y⟩
    | false => rw [hb] at hz; cases hz) (by rw [hk]; rfl))

theorem inOrderC {A : Around} {okp : Addr → Prop} {env : Env} {E : Value → Shared → Prop} (hk : env.scope.kind = .function) {h₀ : Heap} : ∀ (ns : List (Str × Pos)) (ds : List PyData) (vs : List Value) (s : Shared) (m : Str → Option Value) (done : List (Str × PyData)) (Q : Unit → Shared → Prop), ns.length = ds.length → (∀ p ∈ ns, env.kindOf p.1 = some .local) → s.heap.Ns env.locals m → (∀ b o, b ≠ env.locals → h₀.get? b = some o → s.heap.get? b = some o) →
    (ns.map (·.1)).Nodup → (∀ p ∈ ns, p.1 ∉ done.map (·.1)) → RepAll okp h₀ ds vs → (∀ x dx, done.lookup x = some dx → ∃ vx, m x = some vx ∧ Rep okp h₀ dx vx) →
    (∀ h' tk m', h'.Ns env.locals m' → (∀ b o, b ≠ env.locals → h₀.get? b = some o → h'.get? b = some o) → (∀ x dx, (((ns.map (·.1)).zip ds) ++ done).lookup x = some dx → ∃ vx, m' x = some vx ∧ Rep okp h₀ dx vx) → Q () { s with heap := h', toks := tk }) →
    wpAny (model C.prog C.w) A (assignInOrder (ns.map fun p => assign (nameE p) env) vs) Q E s
  | [], ds, vs, s, m, done, Q, hl, _, hn, hu, _, _, r, hd, q => by
    cases ds with
    | nil => cases r; exact wpAny_assignInOrder_none (q s.heap s.toks m hn hu hd)
    | cons => simp at hl
  | (x, p) :: ns, ds, vs, s, m, done, Q, hl, hloc, hn, hu, hnd, hap, r, hd, q => by
    cases r with
    | nil => simp at hl
    | cons r1 r2 =>
      rename_i v vs d ds
      simp only [List.map_cons, List.nodup_cons] at hnd
      refine wpAny_assignInOrder_more (wpAny_assign_Name (wpAny_storeName_local (hloc (x, p) (.head _)) hn (fun h' hn' hs => ?_) (by rw [hk]; rfl)))
      refine inOrderC hk ns ds vs { s with heap := h', toks := s.toks + 1 } _ ((x, d) :: done) Q (by simpa using hl) (fun z hz => hloc z (.tail _ hz)) hn' (fun b o hb e => hs.extBut b o hb (hu b o hb e)) hnd.2 (fun z hz => ?_) r2 (fun z dz hz => ?_) fun h'' tk m' hn'' hu'' hm => ?_
      · simp only [List.map_cons, List.mem_cons, not_or]
        refine ⟨fun e => hnd.1 ?_, hap z (.tail _ hz)⟩
        exact e ▸ List.mem_map_of_mem hz
      · rw [List.lookup_cons] at hz
        cases hb : z == x with
        | true =>
          rw [hb] at hz; cases hz
          have : z = x := by simpa using hb
          subst this
          exact ⟨v, by simp, r1⟩
        | false =>
          rw [hb] at hz
          obtain ⟨vz, e1, e2⟩ := hd z dz hz
          have : ¬ z = x := by simpa using hb
          exact ⟨vz, by simp [this, e1], e2⟩
      · refine q h'' tk m' hn'' hu'' fun z dz hz => hm z dz ?_
        have hxd : x ∉ done.map (·.1) := hap (x, p) (.head _)
        simp only [List.map_cons, List.zip_cons_cons, List.cons_append, List.lookup_cons] at hz
        cases hb : z == x with
        | true =>
          rw [hb] at hz; cases hz
          have : z = x := by simpa using hb
          subst this
          rw [List.lookup_append, List.lookup_cons, beq_self_eq_true]
          have : List.lookup z ((ns.map (·.1)).zip ds) = none := by
            rw [List.lookup_eq_none_iff]
            intro w hw
            have h1 : w.1 ∈ ns.map (·.1) := (List.of_mem_zip (a := w.1) (b := w.2) hw).1
            simp only [bne_iff_ne, ne_eq, Bool.not_eq_true, beq_eq_false_iff_ne]
            intro e
            exact hnd.1 (e ▸ h1)
          rw [this]; rfl
        | false =>
          rw [hb] at hz
          rw [List.lookup_append] at hz ⊢
          rw [List.lookup_cons, hb]
          exact hz
theorem AsgC.tuple {ns : List (Str × Pos)} {n : Nat} (hl : ns.length = ds.length) (hnd : (ns.map (·.1)).Nodup) : AsgC C (.Tuple (ns.map nameE) n pos) (.tuple ds) ((ns.map (·.1)).zip ds) := by
  intro A okp env s m v Q E hh hk hloc hn y q
  cases y with
  | tuple g r =>
    rename_i a vs n'
    refine wpAny_assign_Tuple hh ⟨_, g, rfl, _, rfl⟩ ?_ ?_ fun h' he => ?_
    · rw [assignEach_names, List.length_map, List.size_toArray, r.length, hl]
    · rw [assignEach_names]
      rw [List.findIdx?_eq_none_iff]
      intro p hp
      obtain ⟨p', _, rfl⟩ := List.mem_map.mp hp
      rfl
    · have u : Up s.heap h' := fun b o e => he b o (Nat.ne_of_lt (Heap.lt_size e)) e
      have e1 : (assignEach (ns.map nameE) env).map (·.2) = ns.map fun p => assign (nameE p) env := by rw [assignEach_names, List.map_map]; rfl
      rw [e1]
      refine inOrderC hk (h₀ := s.heap) ns ds _ { s with heap := h' } m [] Q hl (fun p hp => ?_) (hn.keeps u) (fun b o _ e => u b o e) hnd (fun p _ => by simp) (by simpa using r) (fun x dx h => by cases h) fun h'' tk m' hn' hu hm => q h'' tk m' hn' hu fun x dx hx => hm x dx (by rw [List.append_nil]; exact hx)
      have : p.1 ∈ ((ns.map (·.1)).zip ds).map (·.1) := by rw [List.map_fst_zip (by simp; omega)]; exact List.mem_map_of_mem hp
      obtain ⟨w, hw, e⟩ := List.mem_map.mp this
      rw [← e]
      exact hloc w hw
end

/-- a comprehension's own data: the targets, and what it takes from around -/
def compR (bs : List (Str × PyData)) (mdi : Bool) (fv : List Str) (ρ : DEnv) : DEnv := fun y => match bs.lookup y with
  | some d => some (mdi, d)
  | none => if fv.contains y then ρ y else none
/-- the names from around are cells there, and the same ones -/
def FvOk (env : Env) (scope : Scope) (cl : List (Str × Addr)) : List Str → Prop
  | [] => True
  | y :: r => (((relabel scope env).names.lookup y == some .cell || (relabel scope env).names.lookup y == some .free) = true ∧ (env.kindOf y == some .local) = false ∧ cl.lookup y = env.cells.lookup y) ∧ FvOk env scope cl r
theorem FvOk.mem {env : Env} {scope : Scope} {cl : List (Str × Addr)} {y : Str} : ∀ {fv : List Str}, FvOk env scope cl fv → y ∈ fv → ((relabel scope env).names.lookup y == some .cell || (relabel scope env).names.lookup y == some .free) = true ∧ (env.kindOf y == some .local) = false ∧ cl.lookup y = env.cells.lookup y
  | z :: r, h, m => by
    rcases List.mem_cons.mp m with e | m
    · subst e; exact h.1
    · exact h.2.mem m

/-- the tests of a comprehension, one behind the other, come out as b -/
def Tsts (C : Cx) (k : Nat) (env : Env) (own : List Str) (ρ : DEnv) : List Expr → Bool → Prop
  | [], b => b = true
  | [c], b => Tst C k env own ρ c b
  | _, _ => False

section
variable {C : Cx} {k : Nat} {env : Env} {own : List Str} {ρ : DEnv} {elt target iter : Expr} {ifs : List Expr} {scope : Scope} {pos : Pos} {md mdi : Bool} {items : List PyData} {cl : List (Str × Addr)} {fv : List Str}

theorem Tsts.run {A ok W s} {Q : Bool → Shared → Prop} {E : Value → Shared → Prop} {b : Bool} (h : Tsts C k env own ρ ifs b) (c : Cur C k A ok W own env ρ s) (q : ∀ h' tk, Up s.heap h' → Q b { s with heap := h', toks := tk }) :
    wpAny (model C.prog C.w) A (forIn ifs true fun c r => if r = true then do let ok ← isTrue c env (eval c env); pure (ForInStep.yield ok) else pure (ForInStep.yield r)) Q E s := by
  match ifs, h with
  | [], h => cases h; exact wpAny_tests_nil (q s.heap s.toks (Up.refl _))
  | [t], h => exact wpAny_tests_one (h A ok W s _ E c q)

theorem compLoop_rule {A : Around} {R : Result → Shared → Prop} {I : Addr} {acc : Value} {cenv : Env} {s : Shared} (Iv : Nat → Shared → Prop)
    (turn : ∀ n s, Iv n s → wpAny (model C.prog C.w) A (pyNext (.ref I)) (fun r s₁ => match r with
      | none => R (.ok .next) s₁
      | some v => wpAny (model C.prog C.w) A (letOwnedTupleGo target (.ref I) v) (fun _ s₂ => wpAny (model C.prog C.w) A (assign target cenv v) (fun _ s₃ =>
          wpAny (model C.prog C.w) A (forIn ifs true fun c r => if r = true then do let ok ← isTrue c cenv (eval c cenv); pure (ForInStep.yield ok) else pure (ForInStep.yield r)) (fun ok s₄ =>
            if ok = true then wpAny (model C.prog C.w) A (eval elt cenv) (fun x s₅ => wpAny (model C.prog C.w) A (call (.builtin "list.append") [acc, x]) (fun _ s₆ => ∃ m, m < n ∧ Iv m s₆) (notedBy (model C.prog C.w) A cenv fun e s' => R (.error e) s') s₅) (notedBy (model C.prog C.w) A cenv fun e s' => R (.error e) s') s₄
            else ∃ m, m < n ∧ Iv m s₄) (notedBy (model C.prog C.w) A cenv fun e s' => R (.error e) s') s₃) (notedBy (model C.prog C.w) A cenv fun e s' => R (.error e) s') s₂) (notedBy (model C.prog C.w) A cenv fun e s' => R (.error e) s') s₁)
      (notedBy (model C.prog C.w) A cenv fun e s' => R (.error e) s') s)
    (n : Nat) (h : Iv n s) : codeAny (model C.prog C.w) A (.compLoop (.ListComp elt [⟨target, iter, ifs, 0⟩] scope pos) 0 (.ref I) acc cenv) R s := by
  refine codeAny_loop rfl Iv (fun n s hI => ?_) n h
  show wpAny _ A ((compTurn (.ListComp elt [⟨target, iter, ifs, 0⟩] scope pos) 0 (.ref I) acc cenv).onRaise (fun x => do noteFrame x cenv; theTreesLotGoes x)) _ _ s
  refine wpAny_noted ?_
  rw [compTurn_list]
  refine wpAny_bind (wpAny_standAt (wpAny_bind (wpAny_mono (turn n s hI) (fun r s₁ h₁ => ?_) fun _ _ h' => h')))
  cases r with
  | none => exact wpAny_pure h₁
  | some v =>
    refine wpAny_bind (wpAny_mono h₁ (fun _ s₂ h₂ => wpAny_bind (wpAny_mono h₂ (fun _ s₃ h₃ => wpAny_bind (wpAny_mono h₃ (fun ok s₄ h₄ => ?_) fun _ _ h' => h')) fun _ _ h' => h')) fun _ _ h' => h')
    cases ok with
    | false => exact wpAny_pure ⟨rfl, h₄⟩
    | true => exact wpAny_bind (wpAny_bind (wpAny_mono h₄ (fun x s₅ h₅ => wpAny_bind (wpAny_mono h₅ (fun _ s₆ h₆ => wpAny_pure (wpAny_pure ⟨rfl, h₆⟩)) fun _ _ h' => h')) fun _ _ h' => h'))

/-- what one item gives in a comprehension -/
def CompStep (C : Cx) (k : Nat) (env : Env) (own : List Str) (ρ : DEnv) (scope : Scope) (cl : List (Str × Addr)) (fv : List Str) (target elt : Expr) (ifs : List Expr) (mdi md : Bool) (p : PyData → Bool) (f : PyData → PyData) (d : PyData) : Prop :=
  ∃ bs, AsgC C target d bs ∧ (bs.all fun q => (relabel scope env).names.lookup q.1 == some .local && !own.contains q.1) = true ∧
    ∀ L, Tsts C k (compEnvC scope cl L env) own (compR bs mdi fv ρ) ifs (p d) ∧ (p d = true → Ev C k (compEnvC scope cl L env) own (compR bs mdi fv ρ) elt md (f d))

theorem lookup_mem {α : Type} {l : List (Str × α)} {x : Str} {a : α} (h : l.lookup x = some a) : ∃ q ∈ l, q.1 = x := ⟨(x, a), PySem.mem_of_lookup h, rfl⟩

theorem comp_core {A ok W} {s : Shared} {hp : Heap} {tkp : Nat} {E : Value → Shared → Prop} {I : Addr} {fp : List Addr} {Pv : Nat → Value → Prop} {St : Nat → Heap → Prop} {F : (Str → Option Addr) → Heap → Prop} {p : PyData → Bool} {f : PyData → PyData}
    (c : Cur C k A ok W own env ρ s) (u : Up s.heap hp) (frI : s.heap.get? I = none) (X : Source C A ok mdi items I fp Pv St F) (F0 : F W hp) (st0 : St 0 hp) (hsz : items.length ≤ sizeLine)
    (hstep : ∀ d ∈ items, CompStep C k env own ρ scope cl fv target elt ifs mdi md p f d) (hfv : FvOk env scope cl fv) (hcell : ∀ y ∈ scope.names, y.2 ≠ .cell) (hkind : scope.kind = .function) {RR : Value → Addr → Result → Shared → Prop}
    (hRR : ∀ D L vs n h' tk m', hp.get? D = none → hp.get? L = none → D ≠ L → h'.Ns L m' → (∀ b o, b ≠ I → hp.get? b = some o → h'.get? b = some o) → h'.get? D = some (lst vs n) →
      RepAll (fun b => okW ok W md b ∧ b ≠ D) h' ((items.filter p).map f) vs → RR (.ref D) L (.ok .next) { s with heap := h', toks := tk }) :
    wpAny (model C.prog C.w) A (newList []) (fun acc s₃ => wpAny (model C.prog C.w) A (newFunctionEnv scope env.globals cl [] env.qual none .none (some env)) (fun cenv s₄ =>
      codeAny (model C.prog C.w) A (.compStart (.ListComp elt [⟨target, iter, ifs, 0⟩] scope pos) 0 (.ref I) acc { cenv with scope := relabel scope env }) (RR acc cenv.locals) s₄) E s₃) E { s with heap := hp, toks := tkp } := by
  refine wpAny_newObj_type (wpAny_newFunctionEnv hcell (by intro y hy; simp at hy) (fun h₁ hns₁ hsb₁ => ?_) hkind)
  dsimp only at hns₁ hsb₁ ⊢
  generalize hH2 : hp.push { cls := .type "list", dict := none, data := .seq ([] : List Value).toArray } = H2 at hns₁ hsb₁ ⊢
  generalize hDe : hp.objs.size = D at *
  generalize hLe : H2.objs.size = L at *
  have hL : L = D + 1 := by rw [← hLe, ← hH2, Heap.size_push, hDe]
  have hDL : D ≠ L := by omega
  have frD : hp.get? D = none := Heap.get?_none_of_le (by omega)
  have frL : hp.get? L = none := Heap.get?_none_of_le (by omega)
  have belowD : ∀ b o, hp.get? b = some o → b ≠ D := fun b o e q => by rw [q, frD] at e; cases e
  have belowL : ∀ b o, hp.get? b = some o → b ≠ L := fun b o e q => by rw [q, frL] at e; cases e
  have old : ∀ b o, hp.get? b = some o → h₁.get? b = some o := fun b o e => hsb₁.extBut b o (belowL b o e) (Heap.get?_push_of_some _ (hH2 ▸ Heap.get?_push_of_some _ e))
  have hacc : h₁.get? D = some (lst [] 0) := hsb₁.extBut D _ hDL (Heap.get?_push_of_some _ (hH2 ▸ hDe ▸ Heap.get?_push_size _ rfl))
  obtain ⟨oI, xsI, hoI, hdI, _⟩ := X.fld _ _ st0
  have hID : I ≠ D := belowD I _ hoI
  have hIL : I ≠ L := belowL I _ hoI
  have nlI : ∀ vs n, hp.get? I ≠ some (lst vs n) := fun vs n e => by rw [hoI] at e; cases e; cases hdI
  have ntI : ∀ vs n, hp.get? I ≠ some (tup vs n) := fun vs n e => by rw [hoI] at e; cases e; cases hdI
  have carry2 : ∀ h', (∀ b o, b ≠ I → hp.get? b = some o → h'.get? b = some o) → Carry W hp W h' := fun h' hk => Carry.but hk nlI ntI
  have upS : ∀ h', (∀ b o, b ≠ I → hp.get? b = some o → h'.get? b = some o) → Up s.heap h' := fun h' hk b o e => hk b o (fun q => by rw [q, frI] at e; cases e) (u b o e)
  have loop : ∀ s₃ : Shared, s₃ = { s with heap := h₁, toks := tkp + ([] : List (Str × Value)).length } →
      codeAny (model C.prog C.w) A (.compLoop (.ListComp elt [⟨target, iter, ifs, 0⟩] scope pos) 0 (.ref I) (.ref D) (compEnvC scope cl L env)) (RR (.ref D) L) s₃ := by
    rintro s₃ rfl
    refine compLoop_rule (fun n s' => ∃ i h' tk m' vs c', n = items.length + 1 - i ∧ i ≤ items.length ∧ s' = { s with heap := h', toks := tk } ∧ h'.Ns L m' ∧ (∀ b o, b ≠ I → hp.get? b = some o → h'.get? b = some o) ∧ St i h' ∧ h'.get? D = some (lst vs c') ∧
      RepAll (fun b => okW ok W md b ∧ b ≠ D) h' (((items.take i).filter p).map f) vs) ?_ (items.length + 1)
      ⟨0, h₁, _, _, [], 0, by omega, Nat.zero_le _, rfl, hns₁, fun b o _ e => old b o e, X.wk.frame 0 _ _ st0 fun b hb o e => old _ _ e, hacc, by simpa using RepAll.nil⟩
    rintro n s' ⟨i, h', tk, m', vs, c', rfl, hle, rfl, hn, hk, st, hD, hr⟩
    obtain ⟨oI', xsI', hoI', hdI', _⟩ := X.fld _ _ st
    have nlI' : ∀ vs n, h'.get? I ≠ some (lst vs n) := fun vs n e => by rw [hoI'] at e; cases e; cases hdI'
    have ntI' : ∀ vs n, h'.get? I ≠ some (tup vs n) := fun vs n e => by rw [hoI'] at e; cases e; cases hdI'
    by_cases hlt : i < items.length
    · refine X.wk.item i _ _ _ hlt st fun v h₂ tk₂ hP st₂ hk₂ => ?_
      have hk₂' : ∀ b o, b ≠ I → h'.get? b = some o → h₂.get? b = some o := fun b o hb e => hk₂ b o (by simpa using hb) e
      have hd : items[i]? = some items[i] := List.getElem?_eq_getElem hlt
      refine X.go (s := { s with heap := h₂, toks := tk₂ }) (i := i + 1) st₂ ?_
      obtain ⟨bs, asg, hbs, hrun⟩ := hstep items[i] (List.getElem_mem hlt)
      have hbs' := List.all_eq_true.mp hbs
      have hkA : ∀ b o, b ≠ I → hp.get? b = some o → h₂.get? b = some o := fun b o hb e => hk₂' b o hb (hk b o hb e)
      have hn₂ : h₂.Ns L m' := hn.at' fun o e => hk₂' L o (Ne.symm hIL) e
      have ri : Rep (fun b => okW ok W mdi b ∧ b ≠ D) h₂ items[i] v := by
        have r0 := (X.item i v _ W hp hP hd F0).there
        refine Rep.gen (fun b vs n e o => ⟨hkA b _ (fun q => nlI vs n (q ▸ e)) e, o.1, fun q => o.2 (q ▸ frD)⟩) (fun b vs n e => hkA b _ (fun q => ntI vs n (q ▸ e)) e) r0
      refine asg A _ (compEnvC scope cl L env) { s with heap := h₂, toks := tk₂ } m' v _ _ c.room.hh hkind (fun q hq => by
        have := hbs' q hq
        simp only [Bool.and_eq_true, beq_iff_eq] at this
        exact this.1) hn₂ ri fun h₃ tk₃ m₃ hn₃ hk₃ hm₃ => ?_
      have nlL := ns_no_lst hn₂
      have hk₃' : ∀ b o, b ≠ L → h₂.get? b = some o → h₃.get? b = some o := fun b o hb e => hk₃ b o hb e
      have hkB : ∀ b o, b ≠ I → hp.get? b = some o → h₃.get? b = some o := fun b o hb e => hk₃' b o (belowL b o e) (hkA b o hb e)
      have uS := upS h₃ hkB
      have hD₃ : h₃.get? D = some (lst vs c') := hk₃' D _ hDL (hk₂' D _ (Ne.symm hID) hD)
      have cur₃ : Cur C k A (fun m a => ok m a ∧ a ≠ D) W own (compEnvC scope cl L env) (compR bs mdi fv ρ) { s with heap := h₃, toks := tk₃ } := by
        refine { room := c.room, top := c.top, eok := ⟨hkind, c.eok.glob, c.eok.bi⟩, up := c.up.trans uS, new := fun m a e => ⟨c.new m a (uS.none e), fun q => ?_⟩, le := fun a z => ⟨c.le a z.1, z.2⟩, inj := c.inj, own := fun x a e => ⟨(c.own x a e).1, fun q => (c.own x a e).2.1 (uS.none q), (c.own x a e).2.2, fun q => (c.own x a e).2.1 (q ▸ u.none frD)⟩, has := fun y my dy e => ?_ }
        · have e : h₃.get? a = none := e
          rw [q, hD₃] at e; cases e
        · unfold compR at e
          cases hl : bs.lookup y with
          | some d' =>
            rw [hl] at e; cases e
            obtain ⟨vx, e1, e2⟩ := hm₃ y dy hl
            obtain ⟨q, hq, eq⟩ := lookup_mem hl
            have hb := hbs' q hq
            simp only [Bool.and_eq_true, beq_iff_eq, Bool.not_eq_true'] at hb
            refine ⟨vx, .inl ⟨by rw [← eq]; exact hb.1, m₃, hn₃, e1⟩, ?_⟩
            have hW : W y = none := by
              cases hw : W y with
              | none => rfl
              | some a =>
                have := (c.own y a hw).1
                rw [← List.contains_iff_mem, ← eq, hb.2] at this
                cases this
            unfold Holds1
            rw [hW]
            exact Rep.gen (fun b vs n e o => ⟨hk₃' b _ (fun q => nlL.1 vs n (q ▸ e)) e, ⟨o.1.1, o.2⟩, o.1.2⟩) (fun b vs n e => hk₃' b _ (fun q => nlL.2 vs n (q ▸ e)) e) e2
          | none =>
            rw [hl] at e
            dsimp only at e
            split at e
            · rename_i hc
              have hyf : y ∈ fv := by simpa using hc
              obtain ⟨q1, q2, q3⟩ := hfv.mem hyf
              obtain ⟨v', lk, z⟩ := c.has y my dy e
              refine ⟨v', ?_, ?_⟩
              · rcases lk with ⟨kl, _⟩ | ⟨kc, cc, ec, ic⟩
                · rw [kl] at q2; cases q2
                · refine .inr ⟨?_, cc, by show cl.lookup y = _; rw [q3]; exact ec, ic.keeps uS⟩
                  rcases Bool.or_eq_true_iff.mp q1 with q | q
                  · exact .inl (eq_of_beq q)
                  · exact .inr (eq_of_beq q)
              · have av : ∀ {m : Bool} {b : Addr}, okW ok W m b ∧ s.heap.get? b ≠ none → okW (fun m a => ok m a ∧ a ≠ D) W m b := fun z => ⟨⟨z.1.1, fun q => z.2 (u.none (q ▸ frD))⟩, z.1.2⟩
                unfold Holds1 at z ⊢
                split at z
                · exact (z.there.imp fun b z => av z).up uS
                · obtain ⟨e1, ds', vs', n', e2, g, r⟩ := z
                  exact ⟨e1, ds', vs', n', e2, uS _ _ g, (r.there.imp fun b z => av z).up uS⟩
            · cases e
      -- the iterator stays from h₂ on
      have stay : ∀ h, (∀ b o, b ≠ L → b ≠ D → h₂.get? b = some o → h.get? b = some o) → St (i + 1) h := fun h hh => X.wk.frame _ _ _ st₂ fun b hb o e => by
        by_cases hbI : b = I
        · subst hbI; exact hh _ _ hIL hID e
        · obtain ⟨vs', n', g, _⟩ := X.oth b hb hbI W _ F0
          exact hh _ _ (belowL _ _ g) (belowD _ _ g) e
      have hr₃ : RepAll (fun b => okW ok W md b ∧ b ≠ D) h₃ (((items.take i).filter p).map f) vs := by
        refine RepAll.gen (fun b vs n e o => ⟨?_, o⟩) (fun b vs n e => ?_) hr
        · have e2 := hk₂' b _ (fun q => nlI' vs n (q ▸ e)) e
          exact hk₃' b _ (fun q => nlL.1 vs n (q ▸ e2)) e2
        · have e2 := hk₂' b _ (fun q => ntI' vs n (q ▸ e)) e
          exact hk₃' b _ (fun q => nlL.2 vs n (q ▸ e2)) e2
      obtain ⟨ht, hel⟩ := hrun L
      refine ht.run cur₃ fun h₄ tk₄ u₄ => ?_
      have etake : items.take (i + 1) = items.take i ++ [items[i]] := by rw [List.take_add_one, hd]; rfl
      cases hp' : p items[i] with
      | false =>
        rw [if_neg (by simp)]
        refine ⟨items.length + 1 - (i + 1), by omega, i + 1, h₄, tk₄, m₃, vs, c', rfl, hlt, rfl, hn₃.keeps u₄, fun b o hb e => u₄ _ _ (hkB b o hb e), stay h₄ fun b o h1 h2 e => u₄ _ _ (hk₃' b o h1 e), u₄ _ _ hD₃, ?_⟩
        rw [etake, List.filter_append, List.filter_cons, hp']
        simpa using hr₃.up u₄
      | true =>
        rw [if_pos rfl]
        refine hel hp' A _ W _ _ _ (cur₃.on u₄ tk₄) fun y h₅ tk₅ u₅ ry => ?_
        have u45 := u₄.trans u₅
        have hlen : vs.length ≤ i := by
          rw [hr.length, List.length_map]
          refine Nat.le_trans (List.length_filter_le _ _) ?_
          rw [List.length_take]; omega
        refine wpAny_list_append_plain (s := { s with heap := h₅, toks := tk₅ }) ⟨c', u45 _ _ hD₃⟩ (fun h₆ pl hs => ?_) (by rw [List.size_toArray]; omega)
        obtain ⟨c'', g''⟩ := pl
        have g'' : h₆.get? D = some (lst (vs ++ [y]) c'') := by rw [g'']; simp
        have k6 : ∀ b o, b ≠ D → h₃.get? b = some o → h₆.get? b = some o := fun b o hb e => hs.extBut b o hb (u45 _ _ e)
        refine ⟨items.length + 1 - (i + 1), by omega, i + 1, h₆, tk₅, m₃, vs ++ [y], c'', rfl, hlt, rfl, (hn₃.keeps u45).sameBut hs (Ne.symm hDL), fun b o hb e => k6 b o (belowD b o e) (hkB b o hb e), stay h₆ fun b o h1 h2 e => k6 b o h2 (hk₃' b o h1 e), g'', ?_⟩
        rw [etake, List.filter_append, List.filter_cons, hp', if_pos rfl, List.map_append]
        have mv : ∀ {d : PyData} {v : Value}, Rep (fun b => okW ok W md b ∧ b ≠ D) h₅ d v → Rep (fun b => okW ok W md b ∧ b ≠ D) h₆ d v := fun z => Rep.gen (fun b vs n e o => ⟨hs.extBut b _ o.2 e, o⟩) (fun b vs' n' e => hs.extBut b _ (fun q => by
          rw [q, u45 _ _ hD₃] at e
          exact absurd (show Value.type "list" = Value.type "tuple" from congrArg Obj.cls (Option.some.inj e)) (by decide)) e) z
        have mvA : ∀ {ds : List PyData} {vs : List Value}, RepAll (fun b => okW ok W md b ∧ b ≠ D) h₅ ds vs → RepAll (fun b => okW ok W md b ∧ b ≠ D) h₆ ds vs := fun z => RepAll.gen (fun b vs n e o => ⟨hs.extBut b _ o.2 e, o⟩) (fun b vs' n' e => hs.extBut b _ (fun q => by
          rw [q, u45 _ _ hD₃] at e
          exact absurd (show Value.type "list" = Value.type "tuple" from congrArg Obj.cls (Option.some.inj e)) (by decide)) e) z
        exact (mvA (hr₃.up u45)).append (.one (mv (ry.imp fun b z => ⟨⟨z.1.1, z.2⟩, z.1.2⟩)))
    · have hin : i = items.length := by omega
      subst hin
      refine X.wk.done _ _ _ st fun h₂ tk₂ hk₂ => ?_
      have hk₂' : ∀ b o, b ≠ I → h'.get? b = some o → h₂.get? b = some o := fun b o hb e => hk₂ b o (by simpa using hb) e
      rw [List.take_length] at hr
      exact hRR D L vs c' h₂ tk₂ m' frD frL hDL (hn.at' fun o e => hk₂' L o (Ne.symm hIL) e) (fun b o hb e => hk₂' b o hb (hk b o hb e)) (hk₂' D _ (Ne.symm hID) hD) (RepAll.gen (fun b vs n e o => ⟨hk₂' b _ (fun q => nlI' vs n (q ▸ e)) e, o⟩) (fun b vs n e => hk₂' b _ (fun q => ntI' vs n (q ▸ e)) e) hr)
  exact codeAny_compStart_list (loop _ rfl) (X.wk.self 0 _ _ _ (X.wk.frame 0 _ _ st0 fun b hb o e => old _ _ e) (loop _ rfl))

/-- [elt for target in iter if ..] -/
theorem EvF.comp {p : PyData → Bool} {f : PyData → PyData} (hi : EvI C k env own ρ iter mdi items) (hsz : items.length ≤ sizeLine) (hclos : closureFor scope env = pure cl)
    (hstep : ∀ d ∈ items, CompStep C k env own ρ scope cl fv target elt ifs mdi md p f d) (hfv : FvOk env scope cl fv) (hcell : ∀ y ∈ scope.names, y.2 ≠ .cell) (hkind : scope.kind = .function)
    (hnames : ∀ y ∈ scope.names, y.2 = .local → scope.names.lookup y.1 = some .local) (hs : ∀ x, foldedSetIterable iter env x = pure x := by intro _; rfl) :
    EvF C k env own ρ (.ListComp elt [⟨target, iter, ifs, 0⟩] scope pos) md ((items.filter p).map f) := fun A ok W s Q E c q => by
  rw [eval_ListComp]
  refine wpAny_comprehension_free (use := none) rfl hs hclos hkind hnames (hi A ok W s _ E c fun I fp Pv St F h' tk u fr X F0 st0 => ?_)
  refine comp_core (RR := fun acc L => compPost (model C.prog C.w) A E none Q acc L) c u fr X F0 st0 hsz hstep hfv hcell hkind fun D L vs n h₂ tk₂ m' frD frL hDL hn hk hD hr => ?_
  refine ⟨m', hn, fun h₃ hs₃ => ?_⟩
  have nl := ns_no_lst hn
  refine q D vs n h₃ tk₂ (fun b o e => hs₃.extBut b o (fun z => by rw [z] at e; rw [u.none frL] at e; cases e) (hk b o (fun z => by rw [z, fr] at e; cases e) (u b o e))) (u.none frD) (hs₃.extBut D _ hDL hD) ?_
  exact RepAll.gen (fun b vs n e o => ⟨hs₃.extBut b _ (fun z => nl.1 vs n (z ▸ e)) e, o⟩) (fun b vs n e => hs₃.extBut b _ (fun z => nl.2 vs n (z ▸ e)) e) hr
end

end Mine

namespace Mine
open PySem PyProof.Rows

section
variable {C : Cx} {k : Nat} {A : Around} {hN : Heap} {ok : Bool → Addr → Prop} {s₀ : Shared} {Kp : Addr → Obj → Prop} {env : Env} {own : List Str} {W : Str → Option Addr} {ρ : DEnv} {s : Shared}
theorem Sta.but' (S : Sta C k A hN ok s₀ Kp env own W ρ s) {c : Addr} (nl : ∀ vs n, s.heap.get? c ≠ some (lst vs n)) (nt : ∀ vs n, s.heap.get? c ≠ some (tup vs n)) (hL : env.locals ≠ c) (hC : ∀ n c', env.cells.lookup n = some c' → c' ≠ c) (hk : ∀ o, ¬ Kp c o) {h' : Heap} (tk : Nat)
    (u : ∀ b o, b ≠ c → s.heap.get? b = some o → h'.get? b = some o) : Sta C k A hN ok s₀ Kp env own W ρ { s with heap := h', toks := tk } := by
  refine { room := S.room, top := S.top, eok := S.eok, up := S.up, new := S.new, le := S.le, kpN := S.kpN, same := let ⟨h, t, e⟩ := S.same; ⟨h', tk, by rw [e]⟩, keep := fun b o e => u b o (fun q => hk o (q ▸ e)) (S.keep b o e), newL := S.newL, newC := S.newC, apart := S.apart, frm := ?_, own1 := S.own1, own2 := fun x a e => ?_, inj := S.inj }
  · obtain ⟨m, cm, hn, hc, hv⟩ := S.frm
    refine ⟨m, cm, hn.at' fun o' e => u _ o' hL e, fun n c' e => ?_, fun x md d e => ?_⟩
    · obtain ⟨o2, ho2, hd2⟩ := hc n c' e
      exact ⟨o2, u _ _ (hC n c' e) ho2, hd2⟩
    · obtain ⟨v, l, y⟩ := hv x md d e
      refine ⟨v, l, ?_⟩
      have cy : Carry W s.heap W h' := Carry.but u nl nt
      unfold Holds1 at y ⊢
      split at y
      · exact y.carry cy
      · obtain ⟨e1, ds, vs, n, e2, g, r⟩ := y
        exact ⟨e1, ds, vs, n, e2, u _ _ (fun q => nl vs n (q ▸ g)) g, r.carry cy⟩
  · obtain ⟨g1, vs, n, g2⟩ := S.own2 x a e
    exact ⟨g1, vs, n, u _ _ (fun q => nl vs n (q ▸ g2)) g2⟩
end

section
variable {C : Cx} {k : Nat} {A : Around} {hN : Heap} {ok : Bool → Addr → Prop} {s₀ : Shared} {Kp : Addr → Obj → Prop} {env : Env} {own : List Str} {W : Str → Option Addr} {ρ : DEnv} {s : Shared} {E : Value → Shared → Prop}
/-- no datum of the frame's names holds the list at a -/
def Away (ok : Bool → Addr → Prop) (env : Env) (W : Str → Option Addr) (ρ : DEnv) (h : Heap) (a : Addr) : Prop :=
  (∀ z, W z ≠ some a) ∧ ∃ m cm, h.Ns env.locals m ∧ (∀ n c, env.cells.lookup n = some c → h.IsCell c (cm n)) ∧ ∀ x md d, ρ x = some (md, d) → ∃ v, val env m cm x = some v ∧ Holds1 (fun m b => ok m b ∧ b ≠ a) W h x md d v
theorem Sta.away (S : Sta C k A hN ok s₀ Kp env own W ρ s) {h₁ : Heap} {a : Addr} (u : Up s.heap h₁) (fr : s.heap.get? a = none) : Away ok env W ρ h₁ a := by
  refine ⟨fun z q => ?_, ?_⟩
  · obtain ⟨vs', n', g⟩ := (S.own2 z a q).2
    rw [fr] at g
    cases g
  obtain ⟨m, cm, hn, hc, hv⟩ := S.frm
  refine ⟨m, cm, hn.keeps u, fun n c e => (hc n c e).keeps u, fun x md d e => ?_⟩
  obtain ⟨v, l, r⟩ := hv x md d e
  refine ⟨v, l, Holds1.up ?_ u⟩
  have av : ∀ {m : Bool} {b : Addr}, okW ok W m b ∧ s.heap.get? b ≠ none → okW (fun m b => ok m b ∧ b ≠ a) W m b := fun z => ⟨⟨z.1.1, fun q => z.2 (q ▸ fr)⟩, z.1.2⟩
  unfold Holds1 at *
  split at r
  · exact r.there.imp fun b p => av p
  · obtain ⟨p1, ds', vs', n', p2, p3, p4⟩ := r
    exact ⟨p1, ds', vs', n', p2, p3, p4.there.imp fun b p => av p⟩

theorem Sta.storeNew {x : Str} {a : Addr} {vs : List Value} {n : Nat} {md : Bool} {ds : List PyData} {Q : Unit → Shared → Prop} (S : Sta C k A hN ok s₀ Kp env own W ρ s) (hx : storable env x = true)
    (aw : Away ok env W ρ s.heap a) (nka : ∀ o, ¬ Kp a o) (ga : s.heap.get? a = some (lst vs n)) (y : RepAll (fun b => okW ok W md b ∧ b ≠ a) s.heap ds vs)
    (h : ∀ s', Sta C k A hN ok s₀ Kp env (x :: less own x) (setW W x a) (upd ρ x md (.list ds)) s' → Q () s') : wpAny (model C.prog C.w) A (storeName env x (.ref a)) Q E s := by
  obtain ⟨away, m, cm, hn, hc, hv⟩ := aw
  have avoid : ∀ {md : Bool} {b : Addr}, okW ok W md b → b ≠ a → okW ok (setW W x a) md b := fun q ne => ⟨q.1, fun z e => by
    unfold setW at e
    split at e
    · cases e; exact absurd rfl ne
    · exact q.2 z e⟩
  refine store_raw hx S.eok.kind hn hc S.apart fun h' tk c m' cm' hs n1 n2 hcc hn' hc' e1 e2 => h _ ?_
  have nk : ∀ o, ¬ Kp c o := by
    rcases hcc with e | ⟨n, e⟩
    · rw [e]; exact S.newL
    · exact fun o => S.newC n c o e
  have hca : a ≠ c := fun q => n1 vs n (q ▸ ga)
  refine { room := S.room, top := S.top, eok := S.eok, up := S.up, new := S.new, le := S.le, kpN := S.kpN, same := ?_, keep := fun b o e => hs.extBut b o (fun q => nk o (q ▸ e)) (S.keep b o e), newL := S.newL, newC := S.newC, apart := S.apart, frm := ?_, own1 := fun z => ?_, own2 := fun z b e => ?_, inj := fun z z' b e e' => ?_ }
  · obtain ⟨h0, t0, e0⟩ := S.same; exact ⟨h', tk, by rw [e0]⟩
  · refine ⟨m', cm', hn', hc', fun z md' d' e => ?_⟩
    unfold upd at e
    split at e
    · rename_i q; subst q; cases e
      refine ⟨_, e1, ?_⟩
      have ew : setW W z a z = some a := if_pos rfl
      unfold Holds1
      rw [ew]
      exact ⟨rfl, ds, vs, n, rfl, hs.extBut a _ hca ga, (y.imp fun b q => avoid q.1 q.2).but hs n1 n2⟩
    · rename_i q
      have hW : setW W x a z = W z := if_neg q
      obtain ⟨v', l, r⟩ := hv z md' d' e
      refine ⟨v', (e2 z q).trans l, Holds1.but ?_ hs n1 n2⟩
      unfold Holds1 at *
      rw [hW]
      split at r
      · exact r.imp fun b p => avoid ⟨p.1.1, p.2⟩ p.1.2
      · obtain ⟨p1, ds', vs', n', p2, p3, p4⟩ := r
        exact ⟨p1, ds', vs', n', p2, p3, p4.imp fun b p => avoid ⟨p.1.1, p.2⟩ p.1.2⟩
  · rw [List.mem_cons, mem_less, ← S.own1 z]
    unfold setW
    constructor
    · rintro ⟨b, e⟩
      split at e
      · rename_i q; exact .inl q
      · rename_i q; exact .inr ⟨⟨b, e⟩, q⟩
    · rintro (q | ⟨⟨b, e⟩, q⟩)
      · exact ⟨a, by rw [if_pos q]⟩
      · exact ⟨b, by rw [if_neg q]; exact e⟩
  · unfold setW at e
    split at e
    · cases e
      exact ⟨nka, vs, n, hs.extBut a _ hca ga⟩
    · obtain ⟨g1, vs', n', g2⟩ := S.own2 z b e
      exact ⟨g1, vs', n', hs.extBut b _ (fun q => n1 vs' n' (q ▸ g2)) g2⟩
  · unfold setW at e e'
    split at e
    · cases e
      split at e'
      · rename_i q q'; rw [q, q']
      · exact absurd e' (away _)
    · split at e'
      · cases e'; exact absurd e (away _)
      · exact S.inj z z' b e e'
end

section
variable {C : Cx} {k : Nat} {env : Env} {own : List Str} {ρ : DEnv} {elt target iter : Expr} {ifs : List Expr} {scope : Scope} {pos spos py : Pos} {md mdi : Bool} {items : List PyData} {cl : List (Str × Addr)} {fv : List Str} {x : Str} {rest : List Stmt} {P : Out → Prop}

/-- the state behind a comprehension whose value is stored before its own frame goes -/
theorem use_store {A hN ok s₀ Kp W s} {E : Value → Shared → Prop} {Q : Flow → Shared → Prop} {ds : List PyData} (S : Sta C k A hN ok s₀ Kp env own W ρ s) (hx : storable env x = true)
    (q : ∀ W' s', (∀ y, y ≠ x → W' y = W y) → Sta C k A hN ok s₀ Kp env (x :: less own x) W' (upd ρ x md (.list ds)) s' → Q .next s') {hp h₂ : Heap} {I D L : Addr} {vs : List Value} {n tk₂ : Nat} {m' : Str → Option Value} (u : Up s.heap hp) (fr : s.heap.get? I = none) (frD : hp.get? D = none) (frL : hp.get? L = none) (hDL : D ≠ L) (hn : h₂.Ns L m')
    (hk : ∀ b o, b ≠ I → hp.get? b = some o → h₂.get? b = some o) (hD : h₂.get? D = some (lst vs n)) (hr : RepAll (fun b => okW ok W md b ∧ b ≠ D) h₂ ds vs) :
    compPost (model C.prog C.w) A E (some (assign (.Name x py) env)) (fun _ s' => Q .next s') (.ref D) L (.ok .next) { s with heap := h₂, toks := tk₂ } := by
  have uS : Up s.heap h₂ := fun b o e => hk b o (fun z => by rw [z, fr] at e; cases e) (u b o e)
  have sL : s.heap.get? L = none := u.none frL
  show wpAny (model C.prog C.w) A (assign (.Name x py) env (.ref D)) (fun _ s'' => ∃ m, s''.heap.Ns L m ∧ ∀ h', Heap.SameBut L s''.heap h' → Q .next { s'' with heap := h' }) E { s with heap := h₂, toks := tk₂ }
  obtain ⟨m, cm, hnL, hc, hv⟩ := S.frm
  have neL : env.locals ≠ L := fun z => by obtain ⟨o, _, _, ho, _⟩ := hnL; rw [z, sL] at ho; cases ho
  have neC : ∀ n c', env.cells.lookup n = some c' → c' ≠ L := fun n c' e z => by obtain ⟨o, ho, _⟩ := hc n c' e; rw [z, sL] at ho; cases ho
  obtain ⟨oL, esL, epL, hoL, hdL, hkL, hfL⟩ := id hn
  -- the same state, the comprehension's frame kept
  let Kp' : Addr → Obj → Prop := fun b o => Kp b o ∨ (b = L ∧ o = oL)
  have S' : Sta C k A hN ok s₀ Kp' env own W ρ { s with heap := h₂, toks := tk₂ } := by
    have S1 := S.on uS tk₂
    refine { room := S1.room, top := S1.top, eok := S1.eok, up := S1.up, new := S1.new, le := S1.le, kpN := fun b o e => .inl (S1.kpN b o e), same := S1.same, keep := fun b o e => ?_, newL := fun o e => ?_, newC := fun n c o e z => ?_, apart := S1.apart, frm := S1.frm, own1 := S1.own1, own2 := fun y a e => ⟨fun o z => ?_, (S1.own2 y a e).2⟩, inj := S1.inj }
    · rcases e with e | ⟨e1, e2⟩
      · exact S1.keep b o e
      · subst e1 e2; exact hoL
    · rcases e with e | ⟨e1, _⟩
      · exact S1.newL o e
      · exact neL e1
    · rcases z with z | ⟨z, _⟩
      · exact S1.newC n c o e z
      · exact neC n c e z
    · rcases z with z | ⟨z, _⟩
      · exact (S1.own2 y a e).1 o z
      · obtain ⟨vs', n', g⟩ := (S.own2 y a e).2
        rw [z, sL] at g; cases g
  refine wpAny_assign_Name ?_
  have nkD : ∀ o, ¬ Kp' D o := fun o z => by
    rcases z with z | ⟨z, _⟩
    · have := S.keep _ _ z; rw [u.none frD] at this; cases this
    · exact hDL z
  refine S'.storeNew hx (S.away uS (u.none frD)) nkD hD hr fun s' S'' => ?_
  have hoL' : s'.heap.get? L = some oL := S''.keep L oL (.inr ⟨rfl, rfl⟩)
  refine ⟨m', ⟨oL, esL, epL, hoL', hdL, hkL, hfL⟩, fun h' hs => ?_⟩
  have S3 := S''.lessKp (Kp := Kp) (fun b o e => .inl e) S.kpN
  refine q _ _ (fun y hy => by unfold setW; rw [if_neg hy]) (S3.but' (c := L) (fun vs n e => ?_) (fun vs n e => ?_) neL neC (fun o z => ?_) s'.toks fun b o hb e => hs.extBut b o hb e)
  · rw [hoL'] at e; cases e; cases hdL
  · rw [hoL'] at e; cases e; cases hdL
  · have := S.keep _ _ z; rw [sL] at this; cases this

/-- x = [elt for target in iter if ..], on one line -/
theorem Ex.assignComp {p : PyData → Bool} {f : PyData → PyData} (hi : EvI C k env own ρ iter mdi items) (hsz : items.length ≤ sizeLine) (hclos : closureFor scope env = pure cl)
    (hstep : ∀ d ∈ items, CompStep C k env own ρ scope cl fv target elt ifs mdi md p f d) (h : Ex C k env (x :: less own x) (upd ρ x md (.list ((items.filter p).map f))) rest P) (hfv : FvOk env scope cl fv) (hcell : ∀ y ∈ scope.names, y.2 ≠ .cell) (hkind : scope.kind = .function)
    (hnames : ∀ y ∈ scope.names, y.2 = .local → scope.names.lookup y.1 = some .local) (hx : storable env x = true := by rfl) (hsw : swapsWith (.ListComp elt [⟨target, iter, ifs, 0⟩] scope pos) (some (.Name x py)) spos.line env = pure true := by rfl) (hs : ∀ x, foldedSetIterable iter env x = pure x := by intro _; rfl) :
    Ex C k env own ρ (.Assign [.Name x py] (.ListComp elt [⟨target, iter, ifs, 0⟩] scope pos) spos :: rest) P := by
  refine Ex.plain (fun A hN ok s₀ Kp W s Q E S q => ?_) h
  rw [exec_Assign_Name_used _ _ _ _ hsw]
  refine wpAny_bind (wpAny_standAt (wpAny_bind ?_))
  show wpAny _ A (do let _ ← comprehension (.ListComp elt [⟨target, iter, ifs, 0⟩] scope pos) scope env _ (newList []) false (eval iter env) (some (PySem.assign (.Name x py) env))) _ _ s
  refine wpAny_bind (wpAny_mono (wpAny_comprehension_free (use := some (PySem.assign (.Name x py) env)) (Q := fun _ s' => Q .next s') rfl hs hclos hkind hnames (hi A ok W s _ E S.cur fun I fp Pv St F h' tk u fr X F0 st0 => ?_)) (fun _ s' hq => wpAny_pure (wpAny_pure hq)) fun _ _ e => e)
  exact comp_core (RR := fun acc L => compPost (model C.prog C.w) A E (some (PySem.assign (.Name x py) env)) (fun _ s' => Q .next s') acc L) S.cur u fr X F0 st0 hsz hstep hfv hcell hkind fun D L vs n h₂ tk₂ m' frD frL hDL hn hk hD hr =>
    use_store S hx (fun W' s' _ S' => q W' s' S') u fr frD frL hDL hn hk hD hr
end

end Mine

namespace Mine
open PySem PySem.W PyProof.Rows

/-- the def that the i-th statement of the top makes -/
def recAt (p : Program) (i : Nat) : DefRec := match p.main.body[i]? with
  | some (.FunctionDef name a b _ _ _ sc _ _ pos) => ⟨name, a, b, sc, pos⟩
  | _ => ⟨"", default, [], default, default⟩

def cxOf {p : Program} {loose : List Str} {mean : ExcName → Option Value} {mg mb : Str → Option Value} {h : Heap} (T : Top p loose mean mg mb h) (prog : Program) (w : World) (ht : prog.given.tree = none) (hi : h.NoSeer) : Cx :=
  { prog := prog, w := w, base := h, mg := mg, mb := mb, g := T.g, b := T.b, lim := T.nolimit, bi := T.builtins, tree := ht, seer := hi }

theorem fn_of_top {p : Program} {loose : List Str} {mean : ExcName → Option Value} {mg mb : Str → Option Value} {h : Heap} (T : Top p loose mean mg mb h) (d : DefRec) (i : Nat) (hd : (recsOf p)[i]? = some d) :
    ∃ a o pm code doc, mg d.name = some (.ref a) ∧ h.get? a = some o ∧ o.data = .func (Calls.docDef d.name d.params d.body d.scope pm code doc) ∧ h.CodeRec code d.name := T.fn d (List.mem_of_getElem? hd)

theorem fnAt_of {C : Cx} {d : DefRec} {f : Addr} {o : Obj} {pm code doc dV kV : Value} {ps : List Str} (h1 : C.base.get? f = some o) (h2 : o.data = .func { Calls.docDef d.name d.params d.body d.scope pm code doc with defaults := dV, kwdefaults := kV }) (h3 : C.base.CodeRec code d.name)
    (hb : ∀ vs : List Value, vs.length = ps.length → bindArgs { Calls.docDef d.name d.params d.body d.scope pm code doc with defaults := dV, kwdefaults := kV } ⟨vs, []⟩ = pure (ps.zip vs)) (hnd : ps.Nodup) (hst : ∀ L, ps.all (fun x => storable (callEnvC { Calls.docDef d.name d.params d.body d.scope pm code doc with defaults := dV, kwdefaults := kV } L f) x) = true)
    (hk : d.scope.kind = .function) (hco : d.scope.isCoroutine = false) (hgen : d.scope.isGenerator = false) : FnAt C f { Calls.docDef d.name d.params d.body d.scope pm code doc with defaults := dV, kwdefaults := kV } ps d.body where
  at_ := ⟨o, h1, h2⟩
  code := h3
  body_ := rfl
  clo := rfl
  glob := rfl
  bi := rfl
  bind := hb
  nd := hnd
  st := hst
  kind := hk
  co := hco
  gen := hgen

theorem repAll_ints {ok : Addr → Prop} {h : Heap} {vs : List Value} {ns : List Int} (hi : IntsAre vs ns) : RepAll ok h (ns.map .int) vs := by
  induction hi with
  | nil => exact .nil
  | cons n t _ ih => exact .cons (.int n t) ih

/-- the law's end -/
theorem law_end {prog : Program} {w : World} {s₁ : Shared} {fa a : Addr} {vs : List Value} {ns : List Int} {c : ClaimW} {cl : Str → Option Addr} {mean : ExcName → Option Value} {args : List WData} {k : Nat} {C : Cx} {n : Nat}
    (e1 : C.prog = prog) (e2 : C.w = w) (e3 : C.base = s₁.heap) (hF : Fn C k fa false [.list (ns.map .int)] false (.bool true)) (hk : k ≤ 40) (ha : s₁.heap.get? a = some (lst vs n)) (hi : IntsAre vs ns) (hg : s₁.gens = #[]) (hr : ∀ cls, c.raises args cls = false) (hp : c.post args (.bool true) args = true)
    {E : Value → Shared → Prop} : wpAny (model prog w) callerA (call (.ref fa) [.ref a]) (fun v s' => GoodWG c cl mean args s₁ (.ok (.ret v)) s') E s₁ := by
  subst e1 e2
  refine hF callerA (fun _ _ => True) s₁ [.ref a] _ _ ⟨rfl, ?_, ?_, ⟨[], rfl⟩⟩ (e3 ▸ Up.refl _) (fun _ _ _ => trivial) (fun _ _ => trivial) (.cons (.list ha trivial (repAll_ints hi)) .nil) fun v h' tk u r => ?_
  · show 1 + claimMargin + k + 100 < recursionLimit
    have : claimMargin = 300 := rfl
    have : recursionLimit = 1000 := rfl
    omega
  · show 4 + 8 * k + 80 < cLine
    have : cLine = 9900 := rfl
    omega
  · cases r
    exact GoodW.toG ⟨.inl ⟨_, _, [], rfl, hr, ReadsW.bool true, hp, fun _ => ⟨List.nodup_nil, fun _ hm => (nomatch hm)⟩⟩, u, rfl, hg⟩
end Mine

namespace Mine
open PySem PySem.W PyProof.Rows

/-- a side condition that a walk may leave -/
structure Side (p : Prop) : Prop where
  out : p

structure Now (p : Prop) : Prop where
  out : p

abbrev DCtx := List (Str × Bool × PyData)
/-- the names that Γ tells -/
def mk (Γ : DCtx) : DEnv := fun x => Γ.lookup x
def All (ρ : DEnv) : DCtx → Prop
  | [] => True
  | p :: Γ => ρ p.1 = some p.2 ∧ All ρ Γ
theorem All.nil {ρ : DEnv} : All ρ [] := trivial
theorem All.cons {ρ : DEnv} {p : Str × Bool × PyData} {Γ : DCtx} (h : ρ p.1 = some p.2) (t : All ρ Γ) : All ρ (p :: Γ) := ⟨h, t⟩
theorem All.put {ρ : DEnv} {x : Str} {m : Bool} {d d' : PyData} {Γ : DCtx} (h : ρ x = some (m, d)) (e : d = d') (t : All ρ Γ) : All ρ ((x, m, d') :: Γ) := ⟨e ▸ h, t⟩
theorem All.sub {ρ : DEnv} : ∀ {Γ : DCtx}, All ρ Γ → ∀ x v, mk Γ x = some v → ρ x = some v
  | [], _, x, v, e => nomatch e
  | (y, w) :: Γ, h, x, v, e => by
    unfold mk at e
    rw [List.lookup_cons] at e
    split at e
    · rename_i q
      cases e
      rw [beq_iff_eq] at q
      subst q
      exact h.1
    · exact All.sub h.2 x v e

section
variable {C : Cx} {k : Nat} {env : Env} {own : List Str} {ρ ρ' : DEnv} {rest body orelse : List Stmt} {P : Out → Prop} {iter target : Expr} {md : Bool} {items : List PyData} {pos : Pos}

theorem Sta.forget {A hN ok s₀ Kp W s} (S : Sta C k A hN ok s₀ Kp env own W ρ s) (h : ∀ x v, ρ' x = some v → ρ x = some v) : Sta C k A hN ok s₀ Kp env own W ρ' s where
  room := S.room
  top := S.top
  eok := S.eok
  up := S.up
  new := S.new
  le := S.le
  kpN := S.kpN
  same := S.same
  keep := S.keep
  newL := S.newL
  newC := S.newC
  apart := S.apart
  frm := let ⟨m, cm, hn, hc, hv⟩ := S.frm; ⟨m, cm, hn, hc, fun x md d e => hv x md d (h _ _ e)⟩
  own1 := S.own1
  own2 := S.own2
  inj := S.inj
theorem Ex.forget (h : ∀ x v, ρ' x = some v → ρ x = some v) (e : Ex C k env own ρ' body P) : Ex C k env own ρ body P := fun A hN ok s₀ Kp W s Q E S f => e A hN ok s₀ Kp W s Q E (S.forget h) f
theorem Ex.ctx (Γ : DCtx) (h : All ρ Γ) (e : Ex C k env own (mk Γ) body P) : Ex C k env own ρ body P := Ex.forget h.sub e

/-- the body ends with the names Γ -/
def Nx (O : List Str) (Γ : DCtx) : Out → Prop := fun o => match o with
  | .next own ρ => own = O ∧ All ρ Γ
  | _ => False
def NxR (O : List Str) (Γ : DCtx) (P : Out → Prop) : Out → Prop := fun o => match o with
  | .next own ρ => own = O ∧ All ρ Γ
  | .cont own ρ => own = O ∧ All ρ Γ
  | .brk _ _ => False
  | .ret md d => P (.ret md d)

theorem Ex.forR (hi : EvI C k env own ρ iter md items) (O : Nat → List Str) (Γ : Nat → DCtx) (h0 : own = O 0) (h0' : All ρ (Γ 0))
    (turn : ∀ i d, i < items.length → items[i]? = some d → ∃ own' ρ', Asg C k env (O i) (mk (Γ i)) target md d own' ρ' ∧ Ex C k env own' ρ' body (NxR (O (i + 1)) (Γ (i + 1)) P))
    (done : Ex C k env (O items.length) (mk (Γ items.length)) rest P)
    (hs : ∀ x, foldedSetIterable iter env x = pure x := by intro _; rfl) (hnl : ∀ i, noLent (O i) = true := by intro _; rfl) : Ex C k env own ρ (.For target iter body [] pos :: rest) P := by
  refine Ex.for_ hi (fun i own ρ => own = O i ∧ All ρ (Γ i)) (fun _ _ _ => False) ⟨h0, h0'⟩ (fun i d own ρ hd hI => ?_) (fun own ρ hI => ?_) (fun _ _ _ q => q.elim) hs (fun i own ρ hI => by rw [hI.1]; exact hnl i)
  · obtain ⟨e, ha⟩ := hI
    subst e
    have hlt : i < items.length := by
      rcases Nat.lt_or_ge i items.length with h | h
      · exact h
      · rw [List.getElem?_eq_none h] at hd; cases hd
    obtain ⟨own', ρ', asg, ex⟩ := turn i d hlt hd
    refine ⟨own', ρ', ⟨asg.1, fun A hN ok s₀ Kp W s v Q E S y q => asg.2 A hN ok s₀ Kp W s v Q E (S.forget ha.sub) y q⟩, ex.mono fun o ho => ?_⟩
    cases o <;> exact ho
  · obtain ⟨e, ha⟩ := hI
    subst e
    exact Ex.ctx _ ha done

theorem Ex.ifJ {t : Expr} {b : Bool} (ht : Tst C k env own ρ t b) (O : List Str) (Γ : DCtx) (h1 : b = true → Ex C k env own ρ body (Nx O Γ)) (h2 : b = false → Ex C k env own ρ orelse (Nx O Γ))
    (h : Ex C k env O (mk Γ) rest P) : Ex C k env own ρ (.If t body orelse pos :: rest) P := by
  have key : ∀ bd, Ex C k env own ρ bd (Nx O Γ) → Ex C k env own ρ (bd ++ rest) P := fun bd hb A hN ok s₀ Kp W s Q E S f => by
    rw [execs_append]
    refine wpAny_bind (hb A hN ok s₀ Kp W s _ E S { next := ?_, brk := fun _ _ _ _ q => q.elim, cont := fun _ _ _ _ q => q.elim, ret := fun _ _ _ _ q => q.elim })
    rintro own' W' ρ' s' ⟨e, ha⟩ S'
    subst e
    exact Ex.ctx _ ha h A hN ok s₀ Kp W' s' Q E S' f
  exact Ex.if_ ht (fun q => key _ (h1 q)) (fun q => key _ (h2 q))
end
end Mine

namespace Mine
open PySem PySem.W PyProof.Rows

/-- the built-in names that no law of ours hides -/
structure Bis (C : Cx) : Prop where
  len : C.mg "len" = none
  abs : C.mg "abs" = none
  min : C.mg "min" = none
  max : C.mg "max" = none
  list : C.mg "list" = none
  tuple : C.mg "tuple" = none
  range : C.mg "range" = none
  type : C.mg "type" = none
  int : C.mg "int" = none
  bool : C.mg "bool" = none
  all : C.mg "all" = none
  sum : C.mg "sum" = none
  isi : C.mg "isinstance" = none

theorem bi_len : bootBuiltins "len" = some (.builtin "len") := by kernel_rfl
theorem bi_abs : bootBuiltins "abs" = some (.builtin "abs") := by kernel_rfl
theorem bi_min : bootBuiltins "min" = some (.builtin "min") := by kernel_rfl
theorem bi_max : bootBuiltins "max" = some (.builtin "max") := by kernel_rfl
theorem bi_isi : bootBuiltins "isinstance" = some (.builtin "isinstance") := by kernel_rfl
theorem bi_sum : bootBuiltins "sum" = some (.builtin "sum") := by kernel_rfl
theorem bi_all : bootBuiltins "all" = some (.builtin "all") := by kernel_rfl
theorem bi_list : bootBuiltins "list" = some (.type "list") := by kernel_rfl
theorem bi_tuple : bootBuiltins "tuple" = some (.type "tuple") := by kernel_rfl
theorem bi_range : bootBuiltins "range" = some (.type "range") := by kernel_rfl
theorem bi_type : bootBuiltins "type" = some (.type "type") := by kernel_rfl
theorem bi_int : bootBuiltins "int" = some (.type "int") := by kernel_rfl
theorem bi_bool : bootBuiltins "bool" = some (.type "bool") := by kernel_rfl

/-- a size that a walk looks up -/
structure Sz (n : Nat) : Prop where
  out : n ≤ sizeLine
theorem Sz.of {n : Nat} (h : n ≤ 1000000) : Sz n := ⟨by rw [sizeLine_eq]; omega⟩

section
variable {C : Cx} {k : Nat} {env : Env} {own : List Str} {ρ : DEnv} {e e' l r : Expr} {es : List Expr} {md md' : Bool} {d : PyData} {ds ds' items : List PyData} {ns : List Int} {pos npos cpos : Pos} {i j : Int} {f : Addr} {x : Str}

theorem Ev.lenB (B : Bis C) (ha : EvB C k env own ρ e false (.list ds)) (hz : Sz ds.length) (hk : env.kindOf "len" = some .globalImplicit) (he : starEach [e] env = (false, eval e env) :: starEach [] env) :
    Ev C k env own ρ (.Call (.Name "len" npos) [e] [] pos) md (.int ds.length) := Ev.len (EvK.builtin B.len bi_len (hk := hk)) ha hz.out he
theorem Ev.lenI (B : Bis C) (ha : EvB C k env own ρ e false (.list (ns.map .int))) (hz : Sz ns.length) (hk : env.kindOf "len" = some .globalImplicit) (he : starEach [e] env = (false, eval e env) :: starEach [] env) :
    Ev C k env own ρ (.Call (.Name "len" npos) [e] [] pos) md (.int ns.length) := by
  have := Ev.len (md := md) (EvK.builtin B.len bi_len (hk := hk) (pos := npos)) ha (by rw [List.length_map]; exact hz.out) he (pos := pos)
  rwa [List.length_map] at this
theorem Ev.lenTB (B : Bis C) (ha : EvB C k env own ρ e false (.tuple ds)) (hz : Sz ds.length) (hk : env.kindOf "len" = some .globalImplicit) (he : starEach [e] env = (false, eval e env) :: starEach [] env) :
    Ev C k env own ρ (.Call (.Name "len" npos) [e] [] pos) md (.int ds.length) := Ev.lenT (EvK.builtin B.len bi_len (hk := hk)) ha hz.out he
theorem Ev.absB (B : Bis C) (ha : EvB C k env own ρ e false (.int i)) (hk : env.kindOf "abs" = some .globalImplicit) (he : starEach [e] env = (false, eval e env) :: starEach [] env) :
    Ev C k env own ρ (.Call (.Name "abs" npos) [e] [] pos) md (.int i.natAbs) := Ev.abs (EvK.builtin B.abs bi_abs (hk := hk)) ha he
theorem EvF.copyB (B : Bis C) (ha : EvB C k env own ρ e md (.list ds)) (hz : Sz ds.length) (hk : env.kindOf "list" = some .globalImplicit) (he : starEach [e] env = (false, eval e env) :: starEach [] env) :
    EvF C k env own ρ (.Call (.Name "list" npos) [e] [] pos) md ds := EvF.copy (EvK.builtin B.list bi_list (hk := hk)) ha hz.out he
theorem EvF.copyI (B : Bis C) (ha : EvB C k env own ρ e false (.list (ns.map .int))) (hz : Sz ns.length) (hk : env.kindOf "list" = some .globalImplicit) (he : starEach [e] env = (false, eval e env) :: starEach [] env) :
    EvF C k env own ρ (.Call (.Name "list" npos) [e] [] pos) md (ns.map .int) := EvF.copyA (EvK.builtin B.list bi_list (hk := hk)) ha (by rw [List.all_map]; exact List.all_eq_true.mpr fun _ _ => rfl) (by rw [List.length_map]; exact hz.out) he
theorem EvF.copyTB (B : Bis C) (ha : EvB C k env own ρ e md (.tuple ds)) (hz : Sz ds.length) (hk : env.kindOf "list" = some .globalImplicit) (he : starEach [e] env = (false, eval e env) :: starEach [] env) :
    EvF C k env own ρ (.Call (.Name "list" npos) [e] [] pos) md ds := EvF.copyT (EvK.builtin B.list bi_list (hk := hk)) ha hz.out he
theorem Ev.totupleB (B : Bis C) (ha : EvB C k env own ρ e md (.list ds)) (hz : Sz ds.length) (hk : env.kindOf "tuple" = some .globalImplicit) (he : starEach [e] env = (false, eval e env) :: starEach [] env) :
    Ev C k env own ρ (.Call (.Name "tuple" npos) [e] [] pos) md (.tuple ds) := Ev.totuple (EvK.builtin B.tuple bi_tuple (hk := hk)) ha hz.out he
theorem Ev.toBoolB {b : Bool} (B : Bis C) (ha : EvB C k env own ρ e false (.bool b)) (hk : env.kindOf "bool" = some .globalImplicit) (he : starEach [e] env = (false, eval e env) :: starEach [] env) :
    Ev C k env own ρ (.Call (.Name "bool" npos) [e] [] pos) md (.bool b) := Ev.toBool (EvK.builtin B.bool bi_bool (hk := hk)) ha he
theorem Ev.minB (B : Bis C) (ha : EvB C k env own ρ e false (.int i)) (hb : EvB C k env own ρ e' false (.int j)) (hk : env.kindOf "min" = some .globalImplicit) (he : starEach [e, e'] env = (false, eval e env) :: starEach [e'] env) (he' : starEach [e'] env = (false, eval e' env) :: starEach [] env)
    (hp : (backTo pos (starEach [e'] env)).any (·.1) = false) : Ev C k env own ρ (.Call (.Name "min" npos) [e, e'] [] pos) md (.int (Min.min i j)) := Ev.min (EvK.builtin B.min bi_min (hk := hk)) ha hb he he' hp
theorem Ev.maxB (B : Bis C) (ha : EvB C k env own ρ e false (.int i)) (hb : EvB C k env own ρ e' false (.int j)) (hk : env.kindOf "max" = some .globalImplicit) (he : starEach [e, e'] env = (false, eval e env) :: starEach [e'] env) (he' : starEach [e'] env = (false, eval e' env) :: starEach [] env)
    (hp : (backTo pos (starEach [e'] env)).any (·.1) = false) : Ev C k env own ρ (.Call (.Name "max" npos) [e, e'] [] pos) md (.int (Max.max i j)) := Ev.max (EvK.builtin B.max bi_max (hk := hk)) ha hb he he' hp
theorem EvI.rangeB (B : Bis C) (ha : EvB C k env own ρ e false (.int i)) (hz : i ≤ 1000000) (hk : env.kindOf "range" = some .globalImplicit) (he : starEach [e] env = (false, eval e env) :: starEach [] env) (hlo : -1000000 ≤ i) :
    EvI C k env own ρ (.Call (.Name "range" npos) [e] [] pos) md (rangeD i) := EvI.range (EvK.builtin B.range bi_range (hk := hk)) ha (by omega) (by omega) he
theorem EvK.typeB (B : Bis C) (ha : EvB C k env own ρ e false d) (hk : env.kindOf "type" = some .globalImplicit) (he : starEach [e] env = (false, eval e env) :: starEach [] env) :
    EvK C k env own ρ (.Call (.Name "type" npos) [e] [] pos) (.type (typeD d)) := EvK.type (EvK.builtin B.type bi_type (hk := hk)) ha he
theorem EvK.intB (B : Bis C) (hk : env.kindOf "int" = some .globalImplicit) : EvK C k env own ρ (.Name "int" npos) (.type "int") := EvK.builtin B.int bi_int (hk := hk)
theorem EvK.listB (B : Bis C) (hk : env.kindOf "list" = some .globalImplicit) : EvK C k env own ρ (.Name "list" npos) (.type "list") := EvK.builtin B.list bi_list (hk := hk)
theorem EvK.boolB (B : Bis C) (hk : env.kindOf "bool" = some .globalImplicit) : EvK C k env own ρ (.Name "bool" npos) (.type "bool") := EvK.builtin B.bool bi_bool (hk := hk)
theorem Ev.isIntB (B : Bis C) (ha : EvB C k env own ρ e false (.int i)) (hk : env.kindOf "isinstance" = some .globalImplicit) (hk' : env.kindOf "int" = some .globalImplicit) {npos' : Pos} (he : starEach [e, .Name "int" npos'] env = (false, eval e env) :: starEach [.Name "int" npos'] env) (he' : starEach [.Name "int" npos'] env = (false, eval (.Name "int" npos') env) :: starEach [] env)
    (hp : (backTo pos (starEach [.Name "int" npos'] env)).any (·.1) = false) : Ev C k env own ρ (.Call (.Name "isinstance" npos) [e, .Name "int" npos'] [] pos) md (.bool true) := Ev.isInt (EvK.builtin B.isi bi_isi (hk := hk)) ha (EvK.intB B hk') he he' hp

/-- l[i] -/
theorem Ev.itemI {slice : Expr} (hl : EvB C k env own ρ l false (.list (ns.map .int))) (hi : EvB C k env own ρ slice false (.int i)) (h0 : 0 ≤ i ∧ i < ns.length) (hz : Sz ns.length) (hs : ∀ o i, ∃ vs, subscripted slice false o i = operate vs (getItem o i)) :
    Ev C k env own ρ (.Subscript l slice pos) md (.int (ns.getD i.toNat 0)) := EvB.at (md' := false) (Ev.b (Ev.item hl hi h0.1 (by
      rw [List.getElem?_map, List.getD, List.getElem?_eq_getElem (by omega)]; rfl) (by rw [List.length_map]; exact hz.out) hs)) rfl
theorem Ev.itemD {slice : Expr} (hl : EvB C k env own ρ l md (.list ds)) (hi : EvB C k env own ρ slice false (.int i)) (h0 : 0 ≤ i ∧ i < ds.length) (hz : Sz ds.length) (hs : ∀ o i, ∃ vs, subscripted slice false o i = operate vs (getItem o i)) :
    Ev C k env own ρ (.Subscript l slice pos) md (ds.getD i.toNat .none) := Ev.item hl hi h0.1 (by rw [List.getD, List.getElem?_eq_getElem (by omega)]; rfl) hz.out hs
theorem Ev.itemL {slice : Expr} (hl : EvB C k env own ρ l md (.list ds)) (hi : EvB C k env own ρ slice false (.int i)) (h0 : 0 ≤ i) (hd : ds[i.toNat]? = some d) (hz : Sz ds.length) (hs : ∀ o i, ∃ vs, subscripted slice false o i = operate vs (getItem o i)) :
    Ev C k env own ρ (.Subscript l slice pos) md d := Ev.item hl hi h0 hd hz.out hs

/-- what a comprehension's scope must be like -/
def compB (env : Env) (scope : Scope) (cl : List (Str × Addr)) (fv own xs : List Str) : Bool :=
  (fv.all fun y => ((relabel scope env).names.lookup y == some .cell || (relabel scope env).names.lookup y == some .free) && !(env.kindOf y == some .local)) &&
  (scope.names.all fun y => !decide (y.2 = .cell)) && decide (scope.kind = .function) && (scope.names.all fun y => !decide (y.2 = .local) || decide (scope.names.lookup y.1 = some .local)) &&
  xs.all fun q => (relabel scope env).names.lookup q == some .local && !own.contains q
def freeOf (sc : Scope) : List Str := (sc.names.filter fun y => y.2 == .free).map (·.1)
structure CompS (env : Env) (scope : Scope) (cl : List (Str × Addr)) (fv own xs : List Str) : Prop where
  fv : FvOk env scope cl fv
  cell : ∀ y ∈ scope.names, y.2 ≠ .cell
  kind : scope.kind = .function
  names : ∀ y ∈ scope.names, y.2 = .local → scope.names.lookup y.1 = some .local
  xs : (xs.all fun q => (relabel scope env).names.lookup q == some .local && !own.contains q) = true
theorem compS {scope : Scope} {cl : List (Str × Addr)} {fv xs : List Str} (h : compB env scope cl fv own xs = true) (hfl : fv.map (fun y => cl.lookup y) = fv.map (fun y => env.cells.lookup y)) : CompS env scope cl fv own xs := by
  unfold compB at h
  simp only [Bool.and_eq_true] at h
  obtain ⟨⟨⟨⟨h1, h2⟩, h3⟩, h4⟩, h5⟩ := h
  refine ⟨?_, fun y hy => ?_, of_decide_eq_true h3, fun y hy e => ?_, h5⟩
  · clear h2 h3 h4 h5
    induction fv with
    | nil => trivial
    | cons y r ih =>
      rw [List.all_cons, Bool.and_eq_true] at h1
      obtain ⟨a, b⟩ := h1
      rw [Bool.and_eq_true] at a
      rw [List.map_cons, List.map_cons] at hfl
      exact ⟨⟨a.1, by simpa using a.2, List.head_eq_of_cons_eq hfl⟩, ih (List.tail_eq_of_cons_eq hfl) b⟩
  · have := List.all_eq_true.mp h2 y hy
    simpa using this
  · have := List.all_eq_true.mp h4 y hy
    simpa [e] using this

variable {scope : Scope} {cl : List (Str × Addr)} {fv : List Str} {elt : Expr} {ifs : List Expr} {tpos spos py : Pos} {y : Str} {rest : List Stmt} {P : Out → Prop}

theorem rangeD_map {n : Int} (F : PyData → PyData) (p : PyData → Bool) (hp : ∀ d ∈ rangeD n, p d = true) : ((rangeD n).filter p).map F = (List.range n.toNat).map fun i : Nat => F (.int (i : Int)) := by
  rw [List.filter_eq_self.mpr hp, rangeD, List.map_map]; rfl
theorem mem_rangeD {n : Int} {d : PyData} (h : d ∈ rangeD n) : ∃ i : Nat, (i : Int) < n ∧ d = .int (i : Int) := by
  rw [rangeD, List.mem_map] at h
  obtain ⟨i, hi, e⟩ := h
  rw [List.mem_range] at hi
  exact ⟨i, by omega, e.symm⟩
theorem rangeD_length {n : Int} : (rangeD n).length = n.toNat := by rw [rangeD, List.length_map, List.length_range]

def natD (g : Nat → PyData) : PyData → PyData
  | .int i => g i.toNat
  | d => d
theorem comp_range {n : Int} {g : Nat → PyData} (S : CompS env scope cl fv own [x]) (hstep : ∀ i : Nat, (i : Int) < n → ∀ L, Ev C k (compEnvC scope cl L env) own (compR [(x, .int (i : Int))] false fv ρ) elt md (g i)) :
    ∀ d ∈ rangeD n, CompStep C k env own ρ scope cl fv (.Name x tpos) elt [] false md (fun _ => true) (natD g) d := fun d hd => by
  obtain ⟨i, hi, e⟩ := mem_rangeD hd
  subst e
  refine ⟨_, AsgC.name, ?_, fun L => ⟨rfl, fun _ => ?_⟩⟩
  · have := S.xs
    simpa using this
  · exact hstep i hi L

theorem EvF.compR {n : Int} (g : Nat → PyData) (B : Bis C) (hr : EvB C k env own ρ e false (.int n)) (hn : n ≤ 1000000) (hlo : -1000000 ≤ n) (hk : env.kindOf "range" = some .globalImplicit) (he : starEach [e] env = (false, eval e env) :: starEach [] env)
    (hcl : closureFor scope env = pure cl) (hS : compB env scope cl (freeOf scope) own [x] = true) (hfl : (freeOf scope).map (fun y => cl.lookup y) = (freeOf scope).map (fun y => env.cells.lookup y)) (hs : ∀ y, foldedSetIterable (.Call (.Name "range" npos) [e] [] cpos) env y = pure y)
    (hstep : ∀ i : Nat, (i : Int) < n → ∀ L, Ev C k (compEnvC scope cl L env) own (Mine.compR [(x, .int (i : Int))] false (freeOf scope) ρ) elt md (g i)) :
    EvF C k env own ρ (.ListComp elt [⟨.Name x tpos, .Call (.Name "range" npos) [e] [] cpos, [], 0⟩] scope pos) md ((List.range n.toNat).map g) := by
  have S := compS hS hfl
  have := EvF.comp (md := md) (pos := pos) (EvI.rangeB (md := false) B hr hn hk he hlo (npos := npos) (pos := cpos)) (by rw [rangeD_length, sizeLine_eq]; omega) hcl (comp_range S hstep (tpos := tpos)) S.fv S.cell S.kind S.names hs
  rwa [rangeD_map _ _ fun _ _ => rfl] at this
theorem Ex.asgR {n : Int} (g : Nat → PyData) (B : Bis C) (hr : EvB C k env own ρ e false (.int n)) (hn : n ≤ 1000000) (hlo : -1000000 ≤ n) (hk : env.kindOf "range" = some .globalImplicit) (he : starEach [e] env = (false, eval e env) :: starEach [] env)
    (hcl : closureFor scope env = pure cl) (hS : compB env scope cl (freeOf scope) own [x] = true) (hfl : (freeOf scope).map (fun y => cl.lookup y) = (freeOf scope).map (fun y => env.cells.lookup y)) (hs : ∀ y, foldedSetIterable (.Call (.Name "range" npos) [e] [] cpos) env y = pure y) (hx : storable env y = true)
    (hsw : swapsWith (.ListComp elt [⟨.Name x tpos, .Call (.Name "range" npos) [e] [] cpos, [], 0⟩] scope pos) (some (.Name y py)) spos.line env = pure true)
    (hstep : ∀ i : Nat, (i : Int) < n → ∀ L, Ev C k (compEnvC scope cl L env) own (compR [(x, .int (i : Int))] false (freeOf scope) ρ) elt md (g i))
    (h : Ex C k env (y :: less own y) (upd ρ y md (.list ((List.range n.toNat).map g))) rest P) :
    Ex C k env own ρ (.Assign [.Name y py] (.ListComp elt [⟨.Name x tpos, .Call (.Name "range" npos) [e] [] cpos, [], 0⟩] scope pos) spos :: rest) P := by
  have S := compS hS hfl
  refine Ex.assignComp (EvI.rangeB (md := false) B hr hn hk he hlo (npos := npos) (pos := cpos)) (by rw [rangeD_length, sizeLine_eq]; omega) hcl (comp_range S hstep (tpos := tpos)) ?_ S.fv S.cell S.kind S.names hx hsw hs
  rwa [rangeD_map _ _ fun _ _ => rfl]
end
end Mine

namespace Mine
open PySem PySem.W PyProof.Rows

/-- what is known of a def of the top -/
structure Def (C : Cx) (x : Str) (j : Nat) (R : List PyData → Bool → PyData → Prop) : Prop where
  ex : ∃ f, C.mg x = some (.ref f) ∧ (∃ o fd, C.base.get? f = some o ∧ o.data = .func fd) ∧ ∀ args md d, R args md d → Fn C j f false args md d
theorem Fn.atom {C : Cx} {k : Nat} {f : Addr} {ma md md' : Bool} {args : List PyData} {d : PyData} (h : Fn C k f ma args md' d) (ha : atom d = true) : Fn C k f ma args md d :=
  fun A ok s vs Q E r u n l y q => h A ok s vs Q E r u n l y fun v h' tk u' r' => q v h' tk u' (r'.atom ha)
section
variable {C : Cx} {k j : Nat} {env : Env} {own : List Str} {ρ : DEnv} {e : Expr} {es : List Expr} {md : Bool} {d : PyData} {args : List PyData} {pos npos : Pos} {x : Str} {R : List PyData → Bool → PyData → Prop}
theorem Ev.callK (K : Def C x j R) (ha : Evs C k env own ρ (e :: es) false args) (hR : R args md d) (hj : j ≤ k) (hk : env.kindOf x = some .globalImplicit) (hd : (x == ("__debug__" : Str)) = false)
    (he : starEach (e :: es) env = (false, eval e env) :: starEach es env) : Ev C k env own ρ (.Call (.Name x npos) (e :: es) [] pos) md d := by
  obtain ⟨f, hg, X, hF⟩ := K.ex
  exact Ev.call X (EvK.glob hg hk hd) ha (hF _ _ _ hR) hj he
end
/-- a def of the top that is at its place -/
theorem Def.of {C : Cx} {x : Str} {j : Nat} {R : List PyData → Bool → PyData → Prop} {f : Addr} {fd : FuncData} {ps : List Str} {body : List Stmt} (hg : C.mg x = some (.ref f)) (X : FnAt C f fd ps body) (h : ∀ args md d, R args md d → Fn C j f false args md d) : Def C x j R :=
  ⟨f, hg, (let ⟨o, h1, h2⟩ := X.at_; ⟨o, fd, h1, h2⟩), h⟩
end Mine

namespace Mine
open PySem PySem.W PyProof.Rows

section
variable {C : Cx} {k : Nat} {env : Env} {own : List Str} {ρ : DEnv} {e t : Expr} {md : Bool} {pos npos cpos : Pos} {x : Str} {scope : Scope} {cl : List (Str × Addr)} {elt : Expr} {tpos spos py : Pos} {y : Str} {body rest : List Stmt} {P : Out → Prop} {b : Bool}

theorem map_ints {n : Nat} (g : Nat → Int) : (List.range n).map (fun i => PyData.int (g i)) = ((List.range n).map g).map .int := by rw [List.map_map]; rfl

theorem EvF.compRI {n : Int} (g : Nat → Int) (B : Bis C) (hr : EvB C k env own ρ e false (.int n)) (hn : n ≤ 1000000) (hlo : -1000000 ≤ n) (hk : env.kindOf "range" = some .globalImplicit) (he : starEach [e] env = (false, eval e env) :: starEach [] env)
    (hcl : closureFor scope env = pure cl) (hS : compB env scope cl (freeOf scope) own [x] = true) (hfl : (freeOf scope).map (fun y => cl.lookup y) = (freeOf scope).map (fun y => env.cells.lookup y)) (hs : ∀ y, foldedSetIterable (.Call (.Name "range" npos) [e] [] cpos) env y = pure y)
    (hstep : ∀ i : Nat, (i : Int) < n → ∀ L, Ev C k (compEnvC scope cl L env) own (Mine.compR [(x, .int (i : Int))] false (freeOf scope) ρ) elt md (.int (g i))) :
    EvF C k env own ρ (.ListComp elt [⟨.Name x tpos, .Call (.Name "range" npos) [e] [] cpos, [], 0⟩] scope pos) md (((List.range n.toNat).map g).map .int) := by
  rw [← map_ints]
  exact EvF.compR (fun i => .int (g i)) B hr hn hlo hk he hcl hS hfl hs hstep
theorem Ex.asgRI {n : Int} (g : Nat → Int) (B : Bis C) (hr : EvB C k env own ρ e false (.int n)) (hn : n ≤ 1000000) (hlo : -1000000 ≤ n) (hk : env.kindOf "range" = some .globalImplicit) (he : starEach [e] env = (false, eval e env) :: starEach [] env)
    (hcl : closureFor scope env = pure cl) (hS : compB env scope cl (freeOf scope) own [x] = true) (hfl : (freeOf scope).map (fun y => cl.lookup y) = (freeOf scope).map (fun y => env.cells.lookup y)) (hs : ∀ y, foldedSetIterable (.Call (.Name "range" npos) [e] [] cpos) env y = pure y) (hx : storable env y = true)
    (hsw : swapsWith (.ListComp elt [⟨.Name x tpos, .Call (.Name "range" npos) [e] [] cpos, [], 0⟩] scope pos) (some (.Name y py)) spos.line env = pure true)
    (hstep : ∀ i : Nat, (i : Int) < n → ∀ L, Ev C k (compEnvC scope cl L env) own (compR [(x, .int (i : Int))] false (freeOf scope) ρ) elt md (.int (g i)))
    (h : Ex C k env (y :: less own y) (upd ρ y md (.list (((List.range n.toNat).map g).map .int))) rest P) :
    Ex C k env own ρ (.Assign [.Name y py] (.ListComp elt [⟨.Name x tpos, .Call (.Name "range" npos) [e] [] cpos, [], 0⟩] scope pos) spos :: rest) P := by
  rw [← map_ints] at h
  exact Ex.asgR (fun i => .int (g i)) B hr hn hlo hk he hcl hS hfl hs hx hsw hstep h

theorem Ex.ifSkip (ht : Tst C k env own ρ t b) (hb : b = false) (h : Ex C k env own ρ rest P) : Ex C k env own ρ (.If t body [] pos :: rest) P :=
  Ex.if_ ht (fun q => absurd (hb.symm.trans q) (by decide)) (fun _ => h)
end

theorem ne_self (i : Int) : (i != i) = false := by simp
theorem eqvI (xs : List Int) : PyData.eqv (.list (xs.map .int)) (.list (xs.map .int)) = true := by
  rw [PyData.eqv]
  induction xs with
  | nil => rfl
  | cons x xs ih => rw [List.map_cons, PyData.eqvAll, ih, PyData.eqv]; simp
theorem eqvAll_self_of {ds : List PyData} (h : ∀ d ∈ ds, PyData.eqv d d = true) : PyData.eqvAll ds ds = true := by
  induction ds with
  | nil => rfl
  | cons d ds ih => rw [PyData.eqvAll, h d (.head _), ih fun e he => h e (.tail _ he)]; rfl
theorem fmod_nonneg (a : Int) {b : Int} (h : 0 < b) : 0 ≤ a.fmod b := Int.fmod_nonneg_of_pos a h
theorem fmod_lt (a : Int) {b : Int} (h : 0 < b) : a.fmod b < b := Int.fmod_lt_of_pos a h
end Mine

namespace Mine
open PySem PySem.W PyProof.Rows

/-- plain data, n deep at most -/
structure Gd (n : Nat) (d : PyData) : Prop where
  lay : d.canLay0 = true
  deep : d.depth ≤ n
structure Gds (n : Nat) (ds : List PyData) : Prop where
  all : ∀ d ∈ ds, Gd n d
theorem Gd.none {n : Nat} : Gd n .none := ⟨rfl, Nat.zero_le _⟩
theorem Gd.bool {n : Nat} {b : Bool} : Gd n (.bool b) := ⟨rfl, Nat.zero_le _⟩
theorem Gd.int {n : Nat} {i : Int} : Gd n (.int i) := ⟨rfl, Nat.zero_le _⟩
theorem Gd.str {n : Nat} {x : Str} (h : PyData.strOk x = true) : Gd n (.str x) := ⟨by rw [PyData.canLay0]; exact h, Nat.zero_le _⟩
theorem Gds.lay {n : Nat} : ∀ {ds : List PyData}, Gds n ds → PyData.canLayAll0 ds = true
  | [], _ => rfl
  | d :: ds, h => by rw [PyData.canLayAll0, (h.all d (.head _)).lay, Gds.lay ⟨fun e he => h.all e (.tail _ he)⟩]; rfl
theorem Gds.deep {n : Nat} : ∀ {ds : List PyData}, Gds n ds → PyData.depthAll ds ≤ n
  | [], _ => Nat.zero_le _
  | d :: ds, h => by rw [PyData.depthAll]; exact Nat.max_le.mpr ⟨(h.all d (.head _)).deep, Gds.deep ⟨fun e he => h.all e (.tail _ he)⟩⟩
theorem Gd.list {n : Nat} {ds : List PyData} (h : Gds n ds) : Gd (n + 1) (.list ds) := ⟨by rw [PyData.canLay0]; exact h.lay, by rw [PyData.depth]; exact Nat.succ_le_succ h.deep⟩
theorem Gd.tuple {n : Nat} {ds : List PyData} (h : Gds n ds) : Gd (n + 1) (.tuple ds) := ⟨by rw [PyData.canLay0]; exact h.lay, by rw [PyData.depth]; exact Nat.succ_le_succ h.deep⟩
theorem Gds.nil {n : Nat} : Gds n [] := ⟨fun _ h => nomatch h⟩
theorem Gds.cons {n : Nat} {d : PyData} {ds : List PyData} (h : Gd n d) (t : Gds n ds) : Gds n (d :: ds) := ⟨fun e he => by
  rcases List.mem_cons.mp he with q | q
  · exact q ▸ h
  · exact t.all e q⟩
theorem Gds.append {n : Nat} {ds es : List PyData} (h : Gds n ds) (t : Gds n es) : Gds n (ds ++ es) := ⟨fun e he => by
  rcases List.mem_append.mp he with q | q
  · exact h.all e q
  · exact t.all e q⟩
theorem Gds.ints {n : Nat} {xs : List Int} : Gds n (xs.map .int) := ⟨fun e he => by
  obtain ⟨i, _, q⟩ := List.mem_map.mp he
  exact q ▸ Gd.int⟩
theorem Gds.map {α : Type} {n : Nat} {xs : List α} {g : α → PyData} (h : ∀ x, Gd n (g x)) : Gds n (xs.map g) := ⟨fun e he => by
  obtain ⟨i, _, q⟩ := List.mem_map.mp he
  exact q ▸ h i⟩
theorem Gd.shaped {n : Nat} {d : PyData} (h : Gd n d) (hn : n ≤ 64) : SeqAt.shaped d = true := by
  unfold SeqAt.shaped
  rw [h.lay, decide_eq_true (Nat.le_trans h.deep hn)]
  rfl
theorem Gd.self {n : Nat} {d : PyData} (h : Gd n d) : PyData.eqv d d = true := SeqAt.eqv_refl d h.lay
theorem Gd.mono {n m : Nat} {d : PyData} (h : Gd n d) (hm : n ≤ m) : Gd m d := ⟨h.lay, Nat.le_trans h.deep hm⟩

section
variable {C : Cx} {k : Nat} {env : Env} {own : List Str} {ρ : DEnv} {l r : Expr} {d₁ d₂ : PyData}
theorem Cmp.eqG (hl : EvB C k env own ρ l false d₁) (hr : EvB C k env own ρ r false d₂) (h1 : Gd 20 d₁) (h2 : Gd 20 d₂) : Cmp C k env own ρ l .Eq r (PyData.eqv d₁ d₂) := Cmp.eqD hl hr (h1.shaped (by decide)) (h2.shaped (by decide))
theorem Cmp.neG (hl : EvB C k env own ρ l false d₁) (hr : EvB C k env own ρ r false d₂) (h1 : Gd 20 d₁) (h2 : Gd 20 d₂) : Cmp C k env own ρ l .NotEq r (!PyData.eqv d₁ d₂) := Cmp.neD hl hr (h1.shaped (by decide)) (h2.shaped (by decide))
end
end Mine

namespace Mine
open PySem PySem.W PyProof.Rows

abbrev fdOf (d : DefRec) (pm code doc dV kV : Value) : FuncData := { Calls.docDef d.name d.params d.body d.scope pm code doc with defaults := dV, kwdefaults := kV }

def bisB (p : Program) (loose : List Str) : Bool := (["len", "abs", "min", "max", "list", "tuple", "range", "type", "int", "bool", "all", "sum", "isinstance"] : List Str).all fun x =>
  !startupNames.contains x && !loose.contains x && !((recsOf p).map (·.name)).contains x && !((litsOf p).map (·.1)).contains x && !((clssOf p loose).map (·.name)).contains x
theorem bis_of {p : Program} {loose : List Str} {mean : ExcName → Option Value} {mg mb : Str → Option Value} {h : Heap} (T : Top p loose mean mg mb h) (hb : bisB p loose = true) {C : Cx} (e : C.mg = mg) : Bis C := by
  have key : ∀ x ∈ (["len", "abs", "min", "max", "list", "tuple", "range", "type", "int", "bool", "all", "sum", "isinstance"] : List Str), C.mg x = none := fun x hx => by
    have h := List.all_eq_true.mp hb x hx
    simp only [Bool.and_eq_true, Bool.not_eq_true', List.contains_eq_mem, decide_eq_false_iff_not] at h
    obtain ⟨⟨⟨⟨h1, h2⟩, h3⟩, h4⟩, h5⟩ := h
    rw [e]
    exact T.free x h1 h2 h3 h4 h5
  constructor <;> exact key _ (by simp)

theorem bits_of {ns : List Int} (h : (PyData.list (ns.map .int)).layable0 = true) : ∀ n ∈ ns, Builtin.Int.intBits n ≤ 1048576 := fun n hn => PyData.bits_item_of_ints h hn

/-- the script's object, as it lies -/
theorem lst_of {h : Heap} {a : Addr} {vs : List Value} {w : Params} {ds : List PyData} (hL : h.IsList a vs.toArray) (hw : Well w h (.ref a) (ofPy (.list ds))) : ∃ n, h.get? a = some (lst vs n) := by
  obtain ⟨o, ho, hc, n, hd⟩ := hL
  rw [ofPy] at hw
  cases hw with
  | list g _ =>
    rw [g] at ho
    cases ho
    simp only [Data.seq.injEq] at hd
    exact ⟨0, by rw [g, hd.1]⟩
end Mine

namespace Mine
open PySem PySem.W PyProof.Rows
/-- a comprehension's turns -/
structure St3 (n : Int) (F : Nat → Addr → Prop) : Prop where
  out : ∀ i : Nat, (i : Int) < n → ∀ L, F i L

theorem rangeD_at {n : Int} {i : Nat} {d : PyData} (hd : (rangeD n)[i]? = some d) : (i : Int) < n ∧ d = .int (i : Int) := by
  have hi : i < n.toNat := by
    rcases Nat.lt_or_ge i n.toNat with h | h
    · exact h
    · rw [List.getElem?_eq_none (by rw [rangeD_length]; exact h)] at hd; cases hd
  rw [rangeD, List.getElem?_map, List.getElem?_range hi] at hd
  cases hd
  exact ⟨by omega, rfl⟩
theorem ints_at {xs : List Int} {i : Nat} {d : PyData} (hd : (xs.map PyData.int)[i]? = some d) : i < xs.length ∧ d = .int (xs.getD i 0) := by
  have hi : i < xs.length := by
    rcases Nat.lt_or_ge i xs.length with h | h
    · exact h
    · rw [List.getElem?_eq_none (by rw [List.length_map]; exact h)] at hd; cases hd
  rw [List.getElem?_map, List.getElem?_eq_getElem hi] at hd
  cases hd
  exact ⟨hi, by simp [List.getD, List.getElem?_eq_getElem hi]⟩

section
variable {C : Cx} {k : Nat} {env : Env} {own : List Str} {ρ : DEnv} {rest body : List Stmt} {P : Out → Prop} {iter : Expr} {pos tpos : Pos} {x : Str}
/-- for x in range(n) -/
theorem Ex.forN {n : Int} (hi : EvI C k env own ρ iter false (rangeD n)) (O : List Str) (Γ : Nat → DCtx) (h0 : own = O) (h0' : All ρ (Γ 0)) (hx : storable env x = true) (ho : less O x = O)
    (turn : ∀ i : Nat, (i : Int) < n → Ex C k env O (upd (mk (Γ i)) x false (.int (i : Int))) body (NxR O (Γ (i + 1)) P))
    (done : Ex C k env O (mk (Γ n.toNat)) rest P)
    (hs : ∀ x, foldedSetIterable iter env x = pure x) (hnl : noLent O = true := by rfl) : Ex C k env own ρ (.For (.Name x tpos) iter body [] pos :: rest) P := by
  refine Ex.forR (md := false) hi (fun _ => O) Γ h0 h0' (fun i d hi hd => ?_) (by rw [rangeD_length]; exact done) hs (fun _ => hnl)
  obtain ⟨h1, e⟩ := rangeD_at hd
  subst e
  refine ⟨_, _, Asg.name hx, ?_⟩
  rw [ho]
  exact turn i h1
/-- for x in a list of ints -/
theorem Ex.forI {xs : List Int} (hi : EvI C k env own ρ iter false (xs.map .int)) (O : List Str) (Γ : Nat → DCtx) (h0 : own = O) (h0' : All ρ (Γ 0)) (hx : storable env x = true) (ho : less O x = O)
    (turn : ∀ i : Nat, i < xs.length → Ex C k env O (upd (mk (Γ i)) x false (.int (xs.getD i 0))) body (NxR O (Γ (i + 1)) P))
    (done : Ex C k env O (mk (Γ xs.length)) rest P)
    (hs : ∀ x, foldedSetIterable iter env x = pure x) (hnl : noLent O = true := by rfl) : Ex C k env own ρ (.For (.Name x tpos) iter body [] pos :: rest) P := by
  refine Ex.forR (md := false) hi (fun _ => O) Γ h0 h0' (fun i d hi hd => ?_) (by rw [List.length_map]; exact done) hs (fun _ => hnl)
  obtain ⟨h1, e⟩ := ints_at hd
  subst e
  refine ⟨_, _, Asg.name hx, ?_⟩
  rw [ho]
  exact turn i h1
end
end Mine

namespace Mine
open PySem PySem.W PyProof.Rows

section
variable {C : Cx} {k : Nat} {env : Env} {own : List Str} {ρ : DEnv} {e e' l r t : Expr} {es : List Expr} {md md' : Bool} {d : PyData} {ds ds' items : List PyData} {ns : List Int} {pos npos cpos tpos p : Pos} {i j : Int} {f : Addr} {x : Str} {rest body : List Stmt} {P : Out → Prop} {iter : Expr}

/-- for x in a list of things -/
theorem Ex.forM {α : Type} {xs : List α} {g : α → PyData} {mdi : Bool} (hi : EvI C k env own ρ iter mdi (xs.map g)) (O : List Str) (Γ : Nat → DCtx) (h0 : own = O) (h0' : All ρ (Γ 0)) (hx : storable env x = true) (ho : less O x = O)
    (turn : ∀ (i : Nat) (h : i < xs.length), Ex C k env O (upd (mk (Γ i)) x mdi (g xs[i])) body (NxR O (Γ (i + 1)) P))
    (done : Ex C k env O (mk (Γ xs.length)) rest P)
    (hs : ∀ x, foldedSetIterable iter env x = pure x) (hnl : noLent O = true := by rfl) : Ex C k env own ρ (.For (.Name x tpos) iter body [] pos :: rest) P := by
  refine Ex.forR (md := mdi) hi (fun _ => O) Γ h0 h0' (fun i d hi hd => ?_) (by rw [List.length_map]; exact done) hs (fun _ => hnl)
  rw [List.length_map] at hi
  rw [List.getElem?_map, List.getElem?_eq_getElem hi] at hd
  cases hd
  refine ⟨_, _, Asg.name hx, ?_⟩
  rw [ho]
  exact turn i hi

theorem Ev.ifexpI {b : Bool} {i j : Int} (h : Tst C k env own ρ t b) (h1 : Ev C k env own ρ e false (.int i)) (h2 : Ev C k env own ρ e' false (.int j)) : Ev C k env own ρ (.IfExp t e e' pos) md (.int (if b = true then i else j)) := by
  have := Ev.ifexp (md := false) (pos := pos) h (fun _ => h1) (fun _ => h2)
  cases b <;> exact EvB.at (md' := false) this.b rfl
theorem Tst.and2 {b b' : Bool} (h : Tst C k env own ρ e b) (h' : Tst C k env own ρ e' b') : Tst C k env own ρ (.BoolOp .And [e, e'] pos) (b && b') := by
  have := Tst.and_cons (pos := pos) h fun _ => Tst.and_cons h' fun _ => Tst.and_nil
  rwa [Bool.and_true] at this
theorem Tst.or2 {b b' : Bool} (h : Tst C k env own ρ e b) (h' : Tst C k env own ρ e' b') : Tst C k env own ρ (.BoolOp .Or [e, e'] pos) (b || b') := by
  have := Tst.or_cons (pos := pos) h fun _ => Tst.or_cons h' fun _ => Tst.or_nil
  rwa [Bool.or_false] at this

/-- l[:i], l[i:] -/
theorem EvF.upto (hl : EvB C k env own ρ l md (.list ds)) (hi : EvB C k env own ρ e false (.int i)) (h0 : 0 ≤ i) (hz : Sz ds.length) : EvF C k env own ρ (.Subscript l (.Slice none (some e) none p) pos) md (ds.take i.toNat) := by
  have := EvF.slice (p := p) (pos := pos) (lower := none) (upper := some e) (lo := none) (hi := some i) hl trivial hi hz.out
  have q : slD ds none (some i) = ds.take i.toNat := by
    have e1 : slB ds.length (some i) = min i.toNat ds.length := by simp only [slB, if_neg (show ¬ i < 0 by omega)]; omega
    unfold slD
    rw [e1, show slA ds.length none = 0 from rfl, List.drop_zero, Nat.sub_zero, ← List.take_take, List.take_length]
  rwa [q] at this
theorem EvF.frm (hl : EvB C k env own ρ l md (.list ds)) (hi : EvB C k env own ρ e false (.int i)) (h0 : 0 ≤ i) (hz : Sz ds.length) : EvF C k env own ρ (.Subscript l (.Slice (some e) none none p) pos) md (ds.drop i.toNat) := by
  have := EvF.slice (p := p) (pos := pos) (lower := some e) (upper := none) (lo := some i) (hi := none) hl hi trivial hz.out
  have q : slD ds (some i) none = ds.drop i.toNat := by
    have e1 : slA ds.length (some i) = min i.toNat ds.length := by simp only [slA, if_neg (show ¬ i < 0 by omega)]; omega
    unfold slD
    rw [e1, show slB ds.length none = ds.length from rfl, List.take_of_length_le (by rw [List.length_drop]; exact Nat.le_refl _)]
    rcases Nat.le_total i.toNat ds.length with h | h
    · rw [Nat.min_eq_left h]
    · rw [Nat.min_eq_right h, List.drop_length, List.drop_eq_nil_of_le h]
  rwa [q] at this
theorem EvF.uptoI (hl : EvB C k env own ρ l false (.list (ns.map .int))) (hi : EvB C k env own ρ e false (.int i)) (h0 : 0 ≤ i) (hz : Sz ns.length) : EvF C k env own ρ (.Subscript l (.Slice none (some e) none p) pos) false ((ns.take i.toNat).map .int) := by
  have := EvF.upto (p := p) (pos := pos) hl hi h0 ⟨by rw [List.length_map]; exact hz.out⟩
  rwa [← List.map_take] at this
theorem EvF.frmI (hl : EvB C k env own ρ l false (.list (ns.map .int))) (hi : EvB C k env own ρ e false (.int i)) (h0 : 0 ≤ i) (hz : Sz ns.length) : EvF C k env own ρ (.Subscript l (.Slice (some e) none none p) pos) false ((ns.drop i.toNat).map .int) := by
  have := EvF.frm (p := p) (pos := pos) hl hi h0 ⟨by rw [List.length_map]; exact hz.out⟩
  rwa [← List.map_drop] at this
theorem Ev.itemM {α : Type} {xs : List α} {g : α → PyData} (dflt : α) {slice : Expr} (hl : EvB C k env own ρ l md (.list (xs.map g))) (hi : EvB C k env own ρ slice false (.int i)) (h0 : 0 ≤ i ∧ i < xs.length) (hz : Sz xs.length) (hs : ∀ o i, ∃ vs, subscripted slice false o i = operate vs (getItem o i)) :
    Ev C k env own ρ (.Subscript l slice pos) md (g (xs.getD i.toNat dflt)) := Ev.item hl hi h0.1 (by
      rw [List.getElem?_map, List.getD, List.getElem?_eq_getElem (by omega)]; rfl) (by rw [List.length_map]; exact hz.out) hs

theorem strs_length {vs : List Value} {ss : List Str} (h : StrsAre vs ss) : vs.length = ss.length := by
  induction h with
  | nil => rfl
  | cons _ _ _ ih => rw [List.length_cons, List.length_cons, ih]
theorem strs_get {vs : List Value} {ss : List Str} (h : StrsAre vs ss) : ∀ (n : Nat), n < ss.length → ∃ t, vs[n]? = some (.str (ss.getD n "") t) := by
  induction h with
  | nil => intro n hn; simp at hn
  | cons x t _ ih =>
    intro n hn
    cases n with
    | zero => exact ⟨t, rfl⟩
    | succ n => simpa using ih n (by simpa using hn)
theorem seqIndex_pos {i : Int} {n : Nat} (h : 0 ≤ i ∧ i < n) : seqIndex? i n = some i.toNat := by
  unfold seqIndex?
  simp only [if_neg (show ¬ i < 0 by omega)]
  rw [if_pos (by simp; omega)]
/-- a str of a tuple that the module keeps -/
theorem Ev.tabS {a : Addr} {vs : List Value} {ss : List Str} {slice : Expr} (hv : EvK C k env own ρ l (.ref a)) (ht : IsTup C.base a vs.toArray) (hss : StrsAre vs ss) (hi : EvB C k env own ρ slice false (.int i)) (h0 : 0 ≤ i ∧ i < ss.length) (hz : ss.length ≤ 100) (hs : ∀ o i, ∃ vs, subscripted slice false o i = operate vs (getItem o i)) :
    Ev C k env own ρ (.Subscript l slice pos) md (.str (ss.getD i.toNat "")) := fun A ok W s Q E c q => by
  have hlen := strs_length hss
  refine PyProof.Rows.Subscript_ (hv A ok W s _ E c fun h₁ tk₁ u₁ => hi A ok W _ _ E (c.on u₁ tk₁) fun v' h' tk u y' => ?_)
  obtain ⟨t, rfl⟩ := y'.int_inv
  have hit : IsTup h' a vs.toArray := ht.keeps (c.up.trans (u₁.trans u))
  obtain ⟨t', ht'⟩ := strs_get hss i.toNat (by omega)
  have hsi : seqIndex? i vs.toArray.size = some i.toNat := by
    rw [List.size_toArray, hlen]
    exact seqIndex_pos h0
  exact seqTail (s := { s with heap := h', toks := tk }) hit.typeIs slot_tuple_getitem.lookup (PyProof.Rows.getItem_tuple hit (by omega) (by omega) hsi (by simpa using ht') (q _ h' tk (u₁.trans u) (.str _ _))) (hs _ _)
end
end Mine

namespace Mine
open PySem PySem.W PyProof.Rows
/-- a tuple of strs that the module keeps under a name -/
structure TabS (C : Cx) (x : Str) (ss : List Str) : Prop where
  ex : ∃ a vs, C.mg x = some (.ref a) ∧ IsTup C.base a vs.toArray ∧ StrsAre vs ss
section
variable {C : Cx} {k : Nat} {env : Env} {own : List Str} {ρ : DEnv} {md : Bool} {pos npos : Pos} {i : Int} {x : Str} {ss : List Str} {slice : Expr}
theorem Ev.tabN (T : TabS C x ss) (hi : EvB C k env own ρ slice false (.int i)) (h0 : 0 ≤ i ∧ i < ss.length) (hz : ss.length ≤ 100) (hk : env.kindOf x = some .globalImplicit) (hd : (x == ("__debug__" : Str)) = false) (hs : ∀ o i, ∃ vs, subscripted slice false o i = operate vs (getItem o i)) :
    Ev C k env own ρ (.Subscript (.Name x npos) slice pos) md (.str (ss.getD i.toNat "")) := by
  obtain ⟨a, vs, hg, ht, h⟩ := T.ex
  exact Ev.tabS (EvK.glob hg hk hd) ht h hi h0 hz hs
end
end Mine

namespace Mine
open PySem PySem.W PyProof.Rows

section
variable {C : Cx} {k : Nat} {env : Env} {own : List Str} {ρ : DEnv} {elt it1 it2 t1 t2 : Expr} {ifs : List Expr} {scope : Scope} {pos : Pos} {md mdi : Bool} {items : List PyData} {cl : List (Str × Addr)} {fv : List Str}

theorem comp_cur {A ok W} {s : Shared} {h : Heap} {tk : Nat} {D L : Addr} {m : Str → Option Value} {bs : List (Str × PyData)} {vs : List Value} {n : Nat}
    (c : Cur C k A ok W own env ρ s) (uS : Up s.heap h) (frD : s.heap.get? D = none) (hD : h.get? D = some (lst vs n)) (hn : h.Ns L m) (hkind : scope.kind = .function) (hfv : FvOk env scope cl fv)
    (hbs : (bs.all fun q => (relabel scope env).names.lookup q.1 == some .local && !own.contains q.1) = true)
    (hm : ∀ y d, bs.lookup y = some d → ∃ v, m y = some v ∧ Rep (fun b => okW ok W mdi b ∧ b ≠ D) h d v) :
    Cur C k A (fun m a => ok m a ∧ a ≠ D) W own (compEnvC scope cl L env) (compR bs mdi fv ρ) { s with heap := h, toks := tk } := by
  have hbs' := List.all_eq_true.mp hbs
  refine { room := c.room, top := c.top, eok := ⟨hkind, c.eok.glob, c.eok.bi⟩, up := c.up.trans uS, new := fun m a e => ⟨c.new m a (uS.none e), fun q => ?_⟩, le := fun a z => ⟨c.le a z.1, z.2⟩, inj := c.inj, own := fun x a e => ⟨(c.own x a e).1, fun q => (c.own x a e).2.1 (uS.none q), (c.own x a e).2.2, fun q => (c.own x a e).2.1 (q ▸ frD)⟩, has := fun y my dy e => ?_ }
  · have e : h.get? a = none := e
    rw [q, hD] at e; cases e
  · unfold compR at e
    cases hl : bs.lookup y with
    | some d' =>
      rw [hl] at e; cases e
      obtain ⟨vx, e1, e2⟩ := hm y dy hl
      obtain ⟨q, hq, eq⟩ := lookup_mem hl
      have hb := hbs' q hq
      simp only [Bool.and_eq_true, beq_iff_eq, Bool.not_eq_true'] at hb
      refine ⟨vx, .inl ⟨by rw [← eq]; exact hb.1, m, hn, e1⟩, ?_⟩
      have hW : W y = none := by
        cases hw : W y with
        | none => rfl
        | some a =>
          have := (c.own y a hw).1
          rw [← List.contains_iff_mem, ← eq, hb.2] at this
          cases this
      unfold Holds1
      rw [hW]
      exact e2.imp fun b o => ⟨⟨o.1.1, o.2⟩, o.1.2⟩
    | none =>
      rw [hl] at e
      dsimp only at e
      split at e
      · rename_i hc
        have hyf : y ∈ fv := by simpa using hc
        obtain ⟨q1, q2, q3⟩ := hfv.mem hyf
        obtain ⟨v', lk, z⟩ := c.has y my dy e
        refine ⟨v', ?_, ?_⟩
        · rcases lk with ⟨kl, _⟩ | ⟨kc, cc, ec, ic⟩
          · rw [kl] at q2; cases q2
          · refine .inr ⟨?_, cc, by show cl.lookup y = _; rw [q3]; exact ec, ic.keeps uS⟩
            rcases Bool.or_eq_true_iff.mp q1 with q | q
            · exact .inl (eq_of_beq q)
            · exact .inr (eq_of_beq q)
        · have av : ∀ {m : Bool} {b : Addr}, okW ok W m b ∧ s.heap.get? b ≠ none → okW (fun m a => ok m a ∧ a ≠ D) W m b := fun z => ⟨⟨z.1.1, fun q => z.2 (q ▸ frD)⟩, z.1.2⟩
          unfold Holds1 at z ⊢
          split at z
          · exact (z.there.imp fun b z => av z).up uS
          · obtain ⟨e1, ds', vs', n', e2, g, r⟩ := z
            exact ⟨e1, ds', vs', n', e2, uS _ _ g, (r.there.imp fun b z => av z).up uS⟩
      · cases e

abbrev comp2 (elt t1 it1 t2 it2 : Expr) (ifs : List Expr) (scope : Scope) (pos : Pos) : Expr := .ListComp elt [⟨t1, it1, [], 0⟩, ⟨t2, it2, ifs, 0⟩] scope pos

theorem compTurn_2a (it acc : Value) (cenv : Env) :
    compTurn (comp2 elt t1 it1 t2 it2 ifs scope pos) 0 it acc cenv = (do
      standAt it1.pos
      match ← pyNext it with
      | none => pure (.done .next)
      | some v =>
        letOwnedTupleGo t1 it v
        assign t1 cenv v
        let x ← eval it2 cenv
        standAt it2.pos
        let x ← foldedSetIterable it2 cenv x
        let _ ← runOwn (.compStart (comp2 elt t1 it1 t2 it2 ifs scope pos) 1 (← holding [x] (pyIter x)) acc cenv) cenv
        again (.compLoop (comp2 elt t1 it1 t2 it2 ifs scope pos) 0 it acc cenv)) := by rfl
theorem compTurn_2b (it acc : Value) (cenv : Env) :
    compTurn (comp2 elt t1 it1 t2 it2 ifs scope pos) 1 it acc cenv = (do
      standAt it2.pos
      match ← pyNext it with
      | none => pure (.done .next)
      | some v =>
        letOwnedTupleGo t2 it v
        assign t2 cenv v
        let mut ok := true
        for c in ifs do
          if ok then ok ← isTrue c cenv (eval c cenv)
        if ok then
          (do let _ ← call (.builtin "list.append") [acc, ← eval elt cenv])
        again (.compLoop (comp2 elt t1 it1 t2 it2 ifs scope pos) 1 it acc cenv)) := by rfl

theorem compLoop_2b {A : Around} {R : Result → Shared → Prop} {I : Addr} {acc : Value} {cenv : Env} {s : Shared} (Iv : Nat → Shared → Prop)
    (turn : ∀ n s, Iv n s → wpAny (model C.prog C.w) A (pyNext (.ref I)) (fun r s₁ => match r with
      | none => R (.ok .next) s₁
      | some v => wpAny (model C.prog C.w) A (letOwnedTupleGo t2 (.ref I) v) (fun _ s₂ => wpAny (model C.prog C.w) A (assign t2 cenv v) (fun _ s₃ =>
          wpAny (model C.prog C.w) A (forIn ifs true fun c r => if r = true then do let ok ← isTrue c cenv (eval c cenv); pure (ForInStep.yield ok) else pure (ForInStep.yield r)) (fun ok s₄ =>
            if ok = true then wpAny (model C.prog C.w) A (eval elt cenv) (fun x s₅ => wpAny (model C.prog C.w) A (call (.builtin "list.append") [acc, x]) (fun _ s₆ => ∃ m, m < n ∧ Iv m s₆) (notedBy (model C.prog C.w) A cenv fun e s' => R (.error e) s') s₅) (notedBy (model C.prog C.w) A cenv fun e s' => R (.error e) s') s₄
            else ∃ m, m < n ∧ Iv m s₄) (notedBy (model C.prog C.w) A cenv fun e s' => R (.error e) s') s₃) (notedBy (model C.prog C.w) A cenv fun e s' => R (.error e) s') s₂) (notedBy (model C.prog C.w) A cenv fun e s' => R (.error e) s') s₁)
      (notedBy (model C.prog C.w) A cenv fun e s' => R (.error e) s') s)
    (n : Nat) (h : Iv n s) : codeAny (model C.prog C.w) A (.compLoop (comp2 elt t1 it1 t2 it2 ifs scope pos) 1 (.ref I) acc cenv) R s := by
  refine codeAny_loop rfl Iv (fun n s hI => ?_) n h
  show wpAny _ A ((compTurn (comp2 elt t1 it1 t2 it2 ifs scope pos) 1 (.ref I) acc cenv).onRaise (fun x => do noteFrame x cenv; theTreesLotGoes x)) _ _ s
  refine wpAny_noted ?_
  rw [compTurn_2b]
  refine wpAny_bind (wpAny_standAt (wpAny_bind (wpAny_mono (turn n s hI) (fun r s₁ h₁ => ?_) fun _ _ h' => h')))
  cases r with
  | none => exact wpAny_pure h₁
  | some v =>
    refine wpAny_bind (wpAny_mono h₁ (fun _ s₂ h₂ => wpAny_bind (wpAny_mono h₂ (fun _ s₃ h₃ => wpAny_bind (wpAny_mono h₃ (fun ok s₄ h₄ => ?_) fun _ _ h' => h')) fun _ _ h' => h')) fun _ _ h' => h')
    cases ok with
    | false => exact wpAny_pure ⟨rfl, h₄⟩
    | true => exact wpAny_bind (wpAny_bind (wpAny_mono h₄ (fun x s₅ h₅ => wpAny_bind (wpAny_mono h₅ (fun _ s₆ h₆ => wpAny_pure (wpAny_pure ⟨rfl, h₆⟩)) fun _ _ h' => h')) fun _ _ h' => h'))

theorem compLoop_2a {A : Around} {R : Result → Shared → Prop} {I : Addr} {acc : Value} {cenv : Env} {s : Shared} (Iv : Nat → Shared → Prop) (hs2 : ∀ x, foldedSetIterable it2 cenv x = pure x)
    (turn : ∀ n s, Iv n s → wpAny (model C.prog C.w) A (pyNext (.ref I)) (fun r s₁ => match r with
      | none => R (.ok .next) s₁
      | some v => wpAny (model C.prog C.w) A (letOwnedTupleGo t1 (.ref I) v) (fun _ s₂ => wpAny (model C.prog C.w) A (assign t1 cenv v) (fun _ s₃ =>
          wpAny (model C.prog C.w) A (eval it2 cenv) (fun x s₄ => wpAny (model C.prog C.w) A (pyIter x) (fun it' s₅ =>
            codeAny (model C.prog C.w) A (.compStart (comp2 elt t1 it1 t2 it2 ifs scope pos) 1 it' acc cenv) (fun r s₆ => match r with | .ok f => ∃ m, m < n ∧ Iv m s₆ | .error e => cameBackBy (model C.prog C.w) A cenv (notedBy (model C.prog C.w) A cenv fun e s' => R (.error e) s') e s₆) s₅)
            (notedBy (model C.prog C.w) A cenv fun e s' => R (.error e) s') s₄) (notedBy (model C.prog C.w) A cenv fun e s' => R (.error e) s') s₃) (notedBy (model C.prog C.w) A cenv fun e s' => R (.error e) s') s₂) (notedBy (model C.prog C.w) A cenv fun e s' => R (.error e) s') s₁)
      (notedBy (model C.prog C.w) A cenv fun e s' => R (.error e) s') s)
    (n : Nat) (h : Iv n s) : codeAny (model C.prog C.w) A (.compLoop (comp2 elt t1 it1 t2 it2 ifs scope pos) 0 (.ref I) acc cenv) R s := by
  refine codeAny_loop rfl Iv (fun n s hI => ?_) n h
  show wpAny _ A ((compTurn (comp2 elt t1 it1 t2 it2 ifs scope pos) 0 (.ref I) acc cenv).onRaise (fun x => do noteFrame x cenv; theTreesLotGoes x)) _ _ s
  refine wpAny_noted ?_
  rw [compTurn_2a]
  refine wpAny_bind (wpAny_standAt (wpAny_bind (wpAny_mono (turn n s hI) (fun r s₁ h₁ => ?_) fun _ _ h' => h')))
  cases r with
  | none => exact wpAny_pure h₁
  | some v =>
    refine wpAny_bind (wpAny_mono h₁ (fun _ s₂ h₂ => wpAny_bind (wpAny_mono h₂ (fun _ s₃ h₃ => wpAny_bind (wpAny_mono h₃ (fun x s₄ h₄ => ?_) fun _ _ h' => h')) fun _ _ h' => h')) fun _ _ h' => h')
    refine wpAny_bind (wpAny_standAt (wpAny_bind (wpAny_of_eq (hs2 x) ?_)))
    refine wpAny_bind (wpAny_holding (wpAny_mono h₄ (fun it' s₅ h₅ => wpAny_bind (wpAny_runOwn (codeAny_mono h₅ fun r s₆ h₆ => ?_))) fun _ _ h' => h'))
    cases r with
    | ok f => exact wpAny_pure ⟨rfl, h₆⟩
    | error e => exact h₆

theorem compStart_2b {A : Around} {R : Result → Shared → Prop} {it acc : Value} {cenv : Env} {s : Shared}
    (h0 : codeAny (model C.prog C.w) A (.compLoop (comp2 elt t1 it1 t2 it2 ifs scope pos) 1 it acc cenv) R s)
    (h : wpAny (model C.prog C.w) A (pyIter it) (fun it' s' => codeAny (model C.prog C.w) A (.compLoop (comp2 elt t1 it1 t2 it2 ifs scope pos) 1 it' acc cenv) R s') (notedBy (model C.prog C.w) A cenv fun x s' => R (.error x) s') s) :
    codeAny (model C.prog C.w) A (.compStart (comp2 elt t1 it1 t2 it2 ifs scope pos) 1 it acc cenv) R s := by
  refine codeAny_of_tree ?_
  show wpAny _ _ ((compStart (comp2 elt t1 it1 t2 it2 ifs scope pos) 1 it acc cenv).onRaise (fun x => do noteFrame x cenv; standAt theWindowsPlace)) _ _ s
  refine wpAny_notedAt ?_
  unfold compStart
  show wpAny _ _ (ask >>= _) _ _ s
  refine wpAny_bind (wpAny_askSetting (wpAny_ite ?_))
  split
  · first
      | exact wpAny_bind (wpAny_pure (wpAny_pure (And.intro rfl h0)))
      | exact wpAny_pure (And.intro rfl h0)
  · first
      | exact wpAny_bind (wpAny_rule (wpAny_bind (wpAny_standAt (wpAny_bind (wpAny_mono h (fun it' s' h' => wpAny_pure (And.intro rfl h')) fun _ _ x => x)))))
      | (refine wpAny_bind (wpAny_rule ?_); show wpAny _ _ (standAt it2.pos >>= _) _ _ s; exact wpAny_bind (wpAny_standAt (wpAny_bind (wpAny_mono h (fun it' s' h' => wpAny_pure (And.intro rfl h')) fun _ _ x => x))))
end
end Mine

namespace Mine
open PySem PySem.W PyProof.Rows

theorem flatMap_len {α β : Type} {g : α → List β} {M : Nat} : ∀ (xs : List α), (∀ x ∈ xs, (g x).length ≤ M) → (xs.flatMap g).length ≤ xs.length * M
  | [], _ => Nat.zero_le _
  | x :: xs, h => by
    rw [List.flatMap_cons, List.length_append, List.length_cons, Nat.succ_mul]
    have h1 := h x (.head _)
    have h2 := flatMap_len xs fun y hy => h y (.tail _ hy)
    omega

section
variable {C : Cx} {k : Nat} {env : Env} {own : List Str} {ρ : DEnv} {elt it1 it2 : Expr} {ifs : List Expr} {scope : Scope} {pos p1 p2 : Pos} {md mdi : Bool} {items : List PyData} {cl : List (Str × Addr)} {fv : List Str} {x1 x2 : Str}

theorem comp2_core {A ok W} {s : Shared} {hp : Heap} {tkp : Nat} {E : Value → Shared → Prop} {I : Addr} {fp : List Addr} {Pv : Nat → Value → Prop} {St : Nat → Heap → Prop} {F : (Str → Option Addr) → Heap → Prop} {items2 : PyData → List PyData} {p : PyData → PyData → Bool} {f : PyData → PyData → PyData} {M : Nat}
    (c : Cur C k A ok W own env ρ s) (u : Up s.heap hp) (frI : s.heap.get? I = none) (X : Source C A ok mdi items I fp Pv St F) (F0 : F W hp) (st0 : St 0 hp) (hM : ∀ d ∈ items, (items2 d).length ≤ M) (hN : items.length * M ≤ 1000000) (hM' : M ≤ 1000000)
    (hstep : ∀ d ∈ items, ∀ L, EvI C k (compEnvC scope cl L env) own (compR [(x1, d)] mdi fv ρ) it2 mdi (items2 d) ∧ ∀ d2 ∈ items2 d, Tsts C k (compEnvC scope cl L env) own (compR [(x2, d2), (x1, d)] mdi fv ρ) ifs (p d d2) ∧
      (p d d2 = true → Ev C k (compEnvC scope cl L env) own (compR [(x2, d2), (x1, d)] mdi fv ρ) elt md (f d d2)))
    (hbs : (([x1, x2] : List Str).all fun q => (relabel scope env).names.lookup q == some .local && !own.contains q) = true) (hne : x1 ≠ x2)
    (hfv : FvOk env scope cl fv) (hcell : ∀ y ∈ scope.names, y.2 ≠ .cell) (hkind : scope.kind = .function) (hs2 : ∀ L x, foldedSetIterable it2 (compEnvC scope cl L env) x = pure x) {RR : Value → Addr → Result → Shared → Prop}
    (hRR : ∀ D L vs n h' tk m', hp.get? D = none → hp.get? L = none → D ≠ L → h'.Ns L m' → (∀ b o, b ≠ I → hp.get? b = some o → h'.get? b = some o) → h'.get? D = some (lst vs n) →
      RepAll (fun b => okW ok W md b ∧ b ≠ D) h' (items.flatMap fun d => ((items2 d).filter (p d)).map (f d)) vs → RR (.ref D) L (.ok .next) { s with heap := h', toks := tk }) :
    wpAny (model C.prog C.w) A (newList []) (fun acc s₃ => wpAny (model C.prog C.w) A (newFunctionEnv scope env.globals cl [] env.qual none .none (some env)) (fun cenv s₄ =>
      codeAny (model C.prog C.w) A (.compStart (comp2 elt (.Name x1 p1) it1 (.Name x2 p2) it2 ifs scope pos) 0 (.ref I) acc { cenv with scope := relabel scope env }) (RR acc cenv.locals) s₄) E s₃) E { s with heap := hp, toks := tkp } := by
  have hb1 : (relabel scope env).names.lookup x1 = some .local ∧ x1 ∉ own := by
    have := List.all_eq_true.mp hbs x1 (.head _); simpa using this
  have hb2 : (relabel scope env).names.lookup x2 = some .local ∧ x2 ∉ own := by
    have := List.all_eq_true.mp hbs x2 (.tail _ (.head _)); simpa using this
  refine wpAny_newObj_type (wpAny_newFunctionEnv hcell (by intro y hy; simp at hy) (fun h₁ hns₁ hsb₁ => ?_) hkind)
  dsimp only at hns₁ hsb₁ ⊢
  generalize hH2 : hp.push { cls := .type "list", dict := none, data := .seq ([] : List Value).toArray } = H2 at hns₁ hsb₁ ⊢
  generalize hDe : hp.objs.size = D at *
  generalize hLe : H2.objs.size = L at *
  have hL : L = D + 1 := by rw [← hLe, ← hH2, Heap.size_push, hDe]
  have hDL : D ≠ L := by omega
  have frD : hp.get? D = none := Heap.get?_none_of_le (by omega)
  have frL : hp.get? L = none := Heap.get?_none_of_le (by omega)
  have frDs : s.heap.get? D = none := u.none frD
  have belowD : ∀ b o, hp.get? b = some o → b ≠ D := fun b o e q => by rw [q, frD] at e; cases e
  have belowL : ∀ b o, hp.get? b = some o → b ≠ L := fun b o e q => by rw [q, frL] at e; cases e
  have old : ∀ b o, hp.get? b = some o → h₁.get? b = some o := fun b o e => hsb₁.extBut b o (belowL b o e) (Heap.get?_push_of_some _ (hH2 ▸ Heap.get?_push_of_some _ e))
  have hacc : h₁.get? D = some (lst [] 0) := hsb₁.extBut D _ hDL (Heap.get?_push_of_some _ (hH2 ▸ hDe ▸ Heap.get?_push_size _ rfl))
  obtain ⟨oI, xsI, hoI, hdI, _⟩ := X.fld _ _ st0
  have hID : I ≠ D := belowD I _ hoI
  have hIL : I ≠ L := belowL I _ hoI
  have nlI : ∀ vs n, hp.get? I ≠ some (lst vs n) := fun vs n e => by rw [hoI] at e; cases e; cases hdI
  have ntI : ∀ vs n, hp.get? I ≠ some (tup vs n) := fun vs n e => by rw [hoI] at e; cases e; cases hdI
  have upS : ∀ h', (∀ b o, b ≠ I → hp.get? b = some o → h'.get? b = some o) → Up s.heap h' := fun h' hk b o e => hk b o (fun q => by rw [q, frI] at e; cases e) (u b o e)
  have loop : ∀ s₃ : Shared, s₃ = { s with heap := h₁, toks := tkp + ([] : List (Str × Value)).length } →
      codeAny (model C.prog C.w) A (.compLoop (comp2 elt (.Name x1 p1) it1 (.Name x2 p2) it2 ifs scope pos) 0 (.ref I) (.ref D) (compEnvC scope cl L env)) (RR (.ref D) L) s₃ := by
    rintro s₃ rfl
    refine compLoop_2a (fun n s' => ∃ i h' tk m' vs c', n = items.length + 1 - i ∧ i ≤ items.length ∧ s' = { s with heap := h', toks := tk } ∧ h'.Ns L m' ∧ (∀ b o, b ≠ I → hp.get? b = some o → h'.get? b = some o) ∧ St i h' ∧ h'.get? D = some (lst vs c') ∧
      RepAll (fun b => okW ok W md b ∧ b ≠ D) h' ((items.take i).flatMap fun d => ((items2 d).filter (p d)).map (f d)) vs) (hs2 L) ?_ (items.length + 1)
      ⟨0, h₁, _, _, [], 0, by omega, Nat.zero_le _, rfl, hns₁, fun b o _ e => old b o e, X.wk.frame 0 _ _ st0 fun b hb o e => old _ _ e, hacc, by simpa using RepAll.nil⟩
    rintro n s' ⟨i, h', tk, m', vs, c', rfl, hle, rfl, hn, hk, st, hD, hr⟩
    obtain ⟨oI', xsI', hoI', hdI', _⟩ := X.fld _ _ st
    have nlI' : ∀ vs n, h'.get? I ≠ some (lst vs n) := fun vs n e => by rw [hoI'] at e; cases e; cases hdI'
    have ntI' : ∀ vs n, h'.get? I ≠ some (tup vs n) := fun vs n e => by rw [hoI'] at e; cases e; cases hdI'
    by_cases hlt : i < items.length
    · refine X.wk.item i _ _ _ hlt st fun v h₂ tk₂ hP st₂ hk₂ => ?_
      have hk₂' : ∀ b o, b ≠ I → h'.get? b = some o → h₂.get? b = some o := fun b o hb e => hk₂ b o (by simpa using hb) e
      have hd : items[i]? = some items[i] := List.getElem?_eq_getElem hlt
      have hdm : items[i] ∈ items := List.getElem_mem hlt
      refine X.go (s := { s with heap := h₂, toks := tk₂ }) (i := i + 1) st₂ ?_
      have hkA : ∀ b o, b ≠ I → hp.get? b = some o → h₂.get? b = some o := fun b o hb e => hk₂' b o hb (hk b o hb e)
      have hn₂ : h₂.Ns L m' := hn.at' fun o e => hk₂' L o (Ne.symm hIL) e
      have ri : Rep (fun b => okW ok W mdi b ∧ b ≠ D) h₂ items[i] v := by
        have r0 := (X.item i v _ W hp hP hd F0).there
        refine Rep.gen (fun b vs n e o => ⟨hkA b _ (fun q => nlI vs n (q ▸ e)) e, o.1, fun q => o.2 (q ▸ frD)⟩) (fun b vs n e => hkA b _ (fun q => ntI vs n (q ▸ e)) e) r0
      generalize items[i] = d at *
      obtain ⟨hev, hin⟩ := hstep d hdm L
      refine wpAny_assign_Name (wpAny_storeName_local (env := compEnvC scope cl L env) hb1.1 hn₂ (fun h₃ hn₃ hs₃ => ?_) (by rw [show (compEnvC scope cl L env).scope.kind = .function from hkind]; rfl))
      have hn₃ : h₃.Ns L (fun y => if y = x1 then some v else m' y) := hn₃
      have hs₃ : Heap.SameBut L h₂ h₃ := hs₃
      have nlL := ns_no_lst hn₂
      have hk₃' : ∀ b o, b ≠ L → h₂.get? b = some o → h₃.get? b = some o := fun b o hb e => hs₃.extBut b o hb e
      have hkB : ∀ b o, b ≠ I → hp.get? b = some o → h₃.get? b = some o := fun b o hb e => hk₃' b o (belowL b o e) (hkA b o hb e)
      have uS := upS h₃ hkB
      have hD₃ : h₃.get? D = some (lst vs c') := hk₃' D _ hDL (hk₂' D _ (Ne.symm hID) hD)
      have ri₃ : Rep (fun b => okW ok W mdi b ∧ b ≠ D) h₃ d v := Rep.gen (fun b vs n e o => ⟨hk₃' b _ (fun q => nlL.1 vs n (q ▸ e)) e, o⟩) (fun b vs n e => hk₃' b _ (fun q => nlL.2 vs n (q ▸ e)) e) ri
      have hr₃ : RepAll (fun b => okW ok W md b ∧ b ≠ D) h₃ ((items.take i).flatMap fun d => ((items2 d).filter (p d)).map (f d)) vs := by
        refine RepAll.gen (fun b vs n e o => ⟨?_, o⟩) (fun b vs n e => ?_) hr
        · have e2 := hk₂' b _ (fun q => nlI' vs n (q ▸ e)) e
          exact hk₃' b _ (fun q => nlL.1 vs n (q ▸ e2)) e2
        · have e2 := hk₂' b _ (fun q => ntI' vs n (q ▸ e)) e
          exact hk₃' b _ (fun q => nlL.2 vs n (q ▸ e2)) e2
      have cur₃ := comp_cur (tk := tk₂ + 1) (L := L) (mdi := mdi) (bs := [(x1, d)]) (scope := scope) (cl := cl) (fv := fv) c uS frDs hD₃ hn₃ hkind hfv (by simp [hb1.1, hb1.2]) (fun y dy hy => by
        simp only [List.lookup_cons, List.lookup_nil] at hy
        cases hb : y == x1 with
        | true =>
          rw [hb] at hy; cases hy
          have : y = x1 := by simpa using hb
          subst this
          exact ⟨v, by simp, ri₃⟩
        | false => rw [hb] at hy; cases hy)
      refine hev A _ W _ _ _ cur₃ fun I2 fp2 Pv2 St2 F2 h₄ tk₄ u₄ fr2 X2 F20 st20 => ?_
      dsimp only at fr2 u₄
      obtain ⟨o2, xs2, ho2, hd2, _⟩ := X2.fld _ _ st20
      have hD₄ : h₄.get? D = some (lst vs c') := u₄ _ _ hD₃
      have hn₄ := hn₃.keeps u₄
      have h2D : I2 ≠ D := fun q => by rw [q, hD₃] at fr2; cases fr2
      have h2L : I2 ≠ L := fun q => by obtain ⟨oL, _, _, hoL, _⟩ := hn₃; rw [q, hoL] at fr2; cases fr2
      have h2I : I2 ≠ I := fun q => by
        have : h₃.get? I = none := q ▸ fr2
        obtain ⟨oo, _, hoo, _⟩ := X.fld _ _ st₂
        rw [hk₃' I _ hIL hoo] at this; cases this
      -- the outer iterator stays
      have stay : ∀ h, (∀ b o, b ≠ I2 → b ≠ D → b ≠ L → h₄.get? b = some o → h.get? b = some o) → St (i + 1) h := fun h hh => X.wk.frame _ _ _ st₂ fun b hb o e => by
        by_cases hbI : b = I
        · subst hbI; exact hh _ _ (Ne.symm h2I) hID hIL (u₄ _ _ (hk₃' _ _ hIL e))
        · obtain ⟨vs', n', g, _⟩ := X.oth b hb hbI W _ F0
          have e3 := hkB b _ hbI g
          have q2 : b ≠ I2 := fun q => by rw [q] at e3; rw [fr2] at e3; cases e3
          exact hh _ _ q2 (belowD _ _ g) (belowL _ _ g) (u₄ _ _ (hk₃' b o (belowL _ _ g) e))
      have hlen : vs.length ≤ i * M := by
        rw [hr.length]
        refine Nat.le_trans (flatMap_len _ (M := M) fun x hx => ?_) ?_
        · rw [List.length_map]; exact Nat.le_trans (List.length_filter_le _ _) (hM x (List.mem_of_mem_take hx))
        · rw [List.length_take]; exact Nat.mul_le_mul_right _ (Nat.min_le_left _ _)
      have hi1 : i * M ≤ 1000000 := Nat.le_trans (Nat.mul_le_mul_right _ (by omega)) hN
      have etake : items.take (i + 1) = items.take i ++ [d] := by rw [List.take_add_one, hd]; rfl
      have inner : ∀ s₅ : Shared, s₅ = { s with heap := h₄, toks := tk₄ } → codeAny (model C.prog C.w) A (.compLoop (comp2 elt (.Name x1 p1) it1 (.Name x2 p2) it2 ifs scope pos) 1 (.ref I2) (.ref D) (compEnvC scope cl L env)) (fun r s₆ => match r with
          | .ok f_1 => ∃ m, m < items.length + 1 - i ∧ ∃ i h' tk m' vs c', m = items.length + 1 - i ∧ i ≤ items.length ∧ s₆ = { s with heap := h', toks := tk } ∧ h'.Ns L m' ∧ (∀ b o, b ≠ I → hp.get? b = some o → h'.get? b = some o) ∧ St i h' ∧ h'.get? D = some (lst vs c') ∧
              RepAll (fun b => okW ok W md b ∧ b ≠ D) h' ((items.take i).flatMap fun d => ((items2 d).filter (p d)).map (f d)) vs
          | .error e => cameBackBy (model C.prog C.w) A (compEnvC scope cl L env) (notedBy (model C.prog C.w) A (compEnvC scope cl L env) fun e s' => RR (.ref D) L (.error e) s') e s₆) s₅ := by
        rintro s₅ rfl
        refine compLoop_2b (fun n s' => ∃ j h' tk m' ws c', n = (items2 d).length + 1 - j ∧ j ≤ (items2 d).length ∧ s' = { s with heap := h', toks := tk } ∧ h'.Ns L m' ∧ m' x1 = some v ∧ (∀ b o, b ≠ I2 → b ≠ D → b ≠ L → h₄.get? b = some o → h'.get? b = some o) ∧ St2 j h' ∧ h'.get? D = some (lst ws c') ∧
          RepAll (fun b => okW ok W md b ∧ b ≠ D) h' (((items.take i).flatMap fun d => ((items2 d).filter (p d)).map (f d)) ++ (((items2 d).take j).filter (p d)).map (f d)) ws) ?_ ((items2 d).length + 1)
          ⟨0, h₄, tk₄, _, vs, c', by omega, Nat.zero_le _, rfl, hn₄, by simp, fun b o _ _ _ e => e, st20, hD₄, by simpa using hr₃.up u₄⟩
        rintro n₂ s' ⟨j, h₅, tk₅, m₅, ws, c₅, rfl, hle2, rfl, hn₅, hx1, hk₅, st5, hD₅, hr₅⟩
        obtain ⟨o5, xs5, ho5, hd5, _⟩ := X2.fld _ _ st5
        have nl5 : ∀ vs n, h₅.get? I2 ≠ some (lst vs n) := fun vs n e => by rw [ho5] at e; cases e; cases hd5
        have nt5 : ∀ vs n, h₅.get? I2 ≠ some (tup vs n) := fun vs n e => by rw [ho5] at e; cases e; cases hd5
        -- what is old stays old
        have nl4 : ∀ vs n, h₄.get? I2 ≠ some (lst vs n) := fun vs n e => by rw [ho2] at e; cases e; cases hd2
        have nt4 : ∀ vs n, h₄.get? I2 ≠ some (tup vs n) := fun vs n e => by rw [ho2] at e; cases e; cases hd2
        have nl4L := ns_no_lst hn₄
        have ntD : ∀ vs n, h₄.get? D ≠ some (tup vs n) := fun vs' n' e => by
          rw [hD₄] at e
          exact absurd (show Value.type "list" = Value.type "tuple" from congrArg Obj.cls (Option.some.inj e)) (by decide)
        by_cases hlt2 : j < (items2 d).length
        · refine X2.wk.item j _ _ _ hlt2 st5 fun v2 h₆ tk₆ hP2 st6 hk₆ => ?_
          have hk₆' : ∀ b o, b ≠ I2 → h₅.get? b = some o → h₆.get? b = some o := fun b o hb e => hk₆ b o (by simpa using hb) e
          have he2 : (items2 d)[j]? = some (items2 d)[j] := List.getElem?_eq_getElem hlt2
          have hm2 : (items2 d)[j] ∈ items2 d := List.getElem_mem hlt2
          refine X2.go (s := { s with heap := h₆, toks := tk₆ }) (i := j + 1) st6 ?_
          have hk46 : ∀ b o, b ≠ I2 → b ≠ D → b ≠ L → h₄.get? b = some o → h₆.get? b = some o := fun b o q1 q2 q3 e => hk₆' b o q1 (hk₅ b o q1 q2 q3 e)
          have mv46 : ∀ {okp : Addr → Prop} {dd : PyData} {vv : Value}, Rep (fun b => okp b ∧ b ≠ D) h₄ dd vv → Rep (fun b => okp b ∧ b ≠ D) h₆ dd vv := fun z => Rep.gen (fun b vs n e o => ⟨hk46 b _ (fun q => nl4 vs n (q ▸ e)) o.2 (fun q => nl4L.1 vs n (q ▸ e)) e, o⟩) (fun b vs n e => hk46 b _ (fun q => nt4 vs n (q ▸ e)) (fun q => ntD vs n (q ▸ e)) (fun q => nl4L.2 vs n (q ▸ e)) e) z
          have ri2 : Rep (fun b => okW ok W mdi b ∧ b ≠ D) h₆ (items2 d)[j] v2 := mv46 ((X2.item j v2 _ W h₄ hP2 he2 F20).imp fun b z => ⟨⟨z.1.1, z.2⟩, z.1.2⟩)
          have ri1 : Rep (fun b => okW ok W mdi b ∧ b ≠ D) h₆ d v := mv46 (ri₃.up u₄)
          have etake2 : (items2 d).take (j + 1) = (items2 d).take j ++ [(items2 d)[j]] := by rw [List.take_add_one, he2]; rfl
          generalize (items2 d)[j] = d2 at *
          obtain ⟨ht, hel⟩ := hin d2 hm2
          have hn₆ : h₆.Ns L m₅ := hn₅.at' fun o e => hk₆' L o (Ne.symm h2L) e
          refine wpAny_assign_Name (wpAny_storeName_local (env := compEnvC scope cl L env) hb2.1 hn₆ (fun h₇ hn₇ hs₇ => ?_) (by rw [show (compEnvC scope cl L env).scope.kind = .function from hkind]; rfl))
          have hn₇ : h₇.Ns L (fun y => if y = x2 then some v2 else m₅ y) := hn₇
          have hs₇ : Heap.SameBut L h₆ h₇ := hs₇
          have nl6 := ns_no_lst hn₆
          have hk₇ : ∀ b o, b ≠ L → h₆.get? b = some o → h₇.get? b = some o := fun b o hb e => hs₇.extBut b o hb e
          have mv67 : ∀ {okp : Addr → Prop} {dd : PyData} {vv : Value}, Rep okp h₆ dd vv → Rep okp h₇ dd vv := fun z => Rep.gen (fun b vs n e o => ⟨hk₇ b _ (fun q => nl6.1 vs n (q ▸ e)) e, o⟩) (fun b vs n e => hk₇ b _ (fun q => nl6.2 vs n (q ▸ e)) e) z
          have hk47 : ∀ b o, b ≠ I2 → b ≠ D → b ≠ L → h₄.get? b = some o → h₇.get? b = some o := fun b o q1 q2 q3 e => hk₇ b o q3 (hk46 b o q1 q2 q3 e)
          have hD₇ : h₇.get? D = some (lst ws c₅) := hk₇ D _ hDL (hk₆' D _ (Ne.symm h2D) hD₅)
          have hr₇ : RepAll (fun b => okW ok W md b ∧ b ≠ D) h₇ (((items.take i).flatMap fun d => ((items2 d).filter (p d)).map (f d)) ++ (((items2 d).take j).filter (p d)).map (f d)) ws := by
            refine RepAll.gen (fun b vs n e o => ⟨?_, o⟩) (fun b vs n e => ?_) hr₅
            · have e2 := hk₆' b _ (fun q => nl5 vs n (q ▸ e)) e
              exact hk₇ b _ (fun q => nl6.1 vs n (q ▸ e2)) e2
            · have e2 := hk₆' b _ (fun q => nt5 vs n (q ▸ e)) e
              exact hk₇ b _ (fun q => nl6.2 vs n (q ▸ e2)) e2
          have uS₇ : Up s.heap h₇ := fun b o e => by
            have hbI : b ≠ I := fun q => by rw [q, frI] at e; cases e
            have g := u b o e
            have e3 := hkB b o hbI g
            exact hk47 b o (fun q => by rw [q, fr2] at e3; cases e3) (belowD _ _ g) (belowL _ _ g) (u₄ _ _ e3)
          have cur₇ := comp_cur (tk := tk₆ + 1) (L := L) (mdi := mdi) (bs := [(x2, d2), (x1, d)]) (scope := scope) (cl := cl) (fv := fv) c uS₇ frDs hD₇ hn₇ hkind hfv (by simp [hb1.1, hb1.2, hb2.1, hb2.2]) (fun y dy hy => by
            simp only [List.lookup_cons, List.lookup_nil] at hy
            cases hb : y == x2 with
            | true =>
              rw [hb] at hy; cases hy
              have : y = x2 := by simpa using hb
              subst this
              exact ⟨v2, by simp, mv67 ri2⟩
            | false =>
              rw [hb] at hy
              cases hb' : y == x1 with
              | true =>
                rw [hb'] at hy; cases hy
                have : y = x1 := by simpa using hb'
                subst this
                exact ⟨v, by rw [if_neg hne]; exact hx1, mv67 ri1⟩
              | false => rw [hb'] at hy; cases hy)
          have stay2 : ∀ h, (∀ b o, b ≠ L → b ≠ D → h₆.get? b = some o → h.get? b = some o) → St2 (j + 1) h := fun h hh => X2.wk.frame _ _ _ st6 fun b hb o e => by
            by_cases hbI : b = I2
            · subst hbI; exact hh _ _ h2L h2D e
            · obtain ⟨vs', n', g, z⟩ := X2.oth b hb hbI W _ F20
              exact hh _ _ (fun q => nl4L.1 vs' n' (q ▸ g)) z.1.2 e
          refine ht.run cur₇ fun h₈ tk₈ u₈ => ?_
          cases hp' : p d d2 with
          | false =>
            rw [if_neg (by simp)]
            refine ⟨(items2 d).length + 1 - (j + 1), by omega, j + 1, h₈, tk₈, _, ws, c₅, rfl, hlt2, rfl, hn₇.keeps u₈, by rw [if_neg hne]; exact hx1, fun b o q1 q2 q3 e => u₈ _ _ (hk47 b o q1 q2 q3 e), stay2 h₈ fun b o h1 h2 e => u₈ _ _ (hk₇ b o h1 e), u₈ _ _ hD₇, ?_⟩
            rw [etake2, List.filter_append, List.filter_cons, hp']
            simpa using hr₇.up u₈
          | true =>
            rw [if_pos rfl]
            refine hel hp' A _ W _ _ _ (cur₇.on u₈ tk₈) fun y h₉ tk₉ u₉ ry => ?_
            have u89 := u₈.trans u₉
            have hlen5 : ws.length ≤ 2000000 := by
              rw [hr₅.length, List.length_append, ← hr.length, List.length_map]
              have h1 := List.length_filter_le (p d) ((items2 d).take j)
              rw [List.length_take] at h1
              have h2 := hM d hdm
              omega
            refine wpAny_list_append_plain (s := { s with heap := h₉, toks := tk₉ }) ⟨c₅, u89 _ _ hD₇⟩ (fun h₁₀ pl hs => ?_) (by rw [List.size_toArray, sizeLine_eq]; omega)
            obtain ⟨c'', g''⟩ := pl
            have g'' : h₁₀.get? D = some (lst (ws ++ [y]) c'') := by rw [g'']; simp
            have k10 : ∀ b o, b ≠ D → h₇.get? b = some o → h₁₀.get? b = some o := fun b o hb e => hs.extBut b o hb (u89 _ _ e)
            refine ⟨(items2 d).length + 1 - (j + 1), by omega, j + 1, h₁₀, tk₉, _, ws ++ [y], c'', rfl, hlt2, rfl, (hn₇.keeps u89).sameBut hs (Ne.symm hDL), by rw [if_neg hne]; exact hx1, fun b o q1 q2 q3 e => k10 b o q2 (hk47 b o q1 q2 q3 e), stay2 h₁₀ fun b o h1 h2 e => k10 b o h2 (hk₇ b o h1 e), g'', ?_⟩
            rw [etake2, List.filter_append, List.filter_cons, hp', if_pos rfl, List.map_append, ← List.append_assoc]
            have ntD9 : ∀ vs' n', h₉.get? D ≠ some (tup vs' n') := fun vs' n' e => by
              rw [u89 _ _ hD₇] at e
              exact absurd (show Value.type "list" = Value.type "tuple" from congrArg Obj.cls (Option.some.inj e)) (by decide)
            have mv : ∀ {d : PyData} {v : Value}, Rep (fun b => okW ok W md b ∧ b ≠ D) h₉ d v → Rep (fun b => okW ok W md b ∧ b ≠ D) h₁₀ d v := fun z => Rep.gen (fun b vs n e o => ⟨hs.extBut b _ o.2 e, o⟩) (fun b vs' n' e => hs.extBut b _ (fun q => ntD9 vs' n' (q ▸ e)) e) z
            have mvA : ∀ {ds : List PyData} {vs : List Value}, RepAll (fun b => okW ok W md b ∧ b ≠ D) h₉ ds vs → RepAll (fun b => okW ok W md b ∧ b ≠ D) h₁₀ ds vs := fun z => RepAll.gen (fun b vs n e o => ⟨hs.extBut b _ o.2 e, o⟩) (fun b vs' n' e => hs.extBut b _ (fun q => ntD9 vs' n' (q ▸ e)) e) z
            exact (mvA (hr₇.up u89)).append (.one (mv (ry.imp fun b z => ⟨⟨z.1.1, z.2⟩, z.1.2⟩)))
        · have hin2 : j = (items2 d).length := by omega
          subst hin2
          refine X2.wk.done _ _ _ st5 fun h₆ tk₆ hk₆ => ?_
          have hk₆' : ∀ b o, b ≠ I2 → h₅.get? b = some o → h₆.get? b = some o := fun b o hb e => hk₆ b o (by simpa using hb) e
          refine ⟨items.length + 1 - (i + 1), by omega, i + 1, h₆, tk₆, m₅, ws, c₅, rfl, hlt, rfl, hn₅.at' fun o e => hk₆' L o (Ne.symm h2L) e, fun b o hb e => ?_, stay h₆ fun b o q1 q2 q3 e => hk₆' b o q1 (hk₅ b o q1 q2 q3 e), hk₆' D _ (Ne.symm h2D) hD₅, ?_⟩
          · have e3 := hkB b o hb e
            have q1 : b ≠ I2 := fun q => by rw [q, fr2] at e3; cases e3
            exact hk₆' b o q1 (hk₅ b o q1 (belowD _ _ e) (belowL _ _ e) (u₄ _ _ e3))
          · rw [List.take_length] at hr₅
            rw [etake, List.flatMap_append, List.flatMap_cons, List.flatMap_nil, List.append_nil]
            exact RepAll.gen (fun b vs n e o => ⟨hk₆' b _ (fun q => nl5 vs n (q ▸ e)) e, o⟩) (fun b vs n e => hk₆' b _ (fun q => nt5 vs n (q ▸ e)) e) hr₅
      exact compStart_2b (inner _ rfl) (X2.wk.self 0 _ _ _ st20 (inner _ rfl))
    · have hin : i = items.length := by omega
      subst hin
      refine X.wk.done _ _ _ st fun h₂ tk₂ hk₂ => ?_
      have hk₂' : ∀ b o, b ≠ I → h'.get? b = some o → h₂.get? b = some o := fun b o hb e => hk₂ b o (by simpa using hb) e
      rw [List.take_length] at hr
      exact hRR D L vs c' h₂ tk₂ m' frD frL hDL (hn.at' fun o e => hk₂' L o (Ne.symm hIL) e) (fun b o hb e => hk₂' b o hb (hk b o hb e)) (hk₂' D _ (Ne.symm hID) hD) (RepAll.gen (fun b vs n e o => ⟨hk₂' b _ (fun q => nlI' vs n (q ▸ e)) e, o⟩) (fun b vs n e => hk₂' b _ (fun q => ntI' vs n (q ▸ e)) e) hr)
  exact codeAny_compStart_list (loop _ rfl) (X.wk.self 0 _ _ _ (X.wk.frame 0 _ _ st0 fun b hb o e => old _ _ e) (loop _ rfl))

variable {x : Str} {spos py : Pos} {rest : List Stmt} {P : Out → Prop}
/-- x = [elt for x1 in it1 for x2 in it2 if ..], on one line -/
theorem Ex.assignComp2 {items2 : PyData → List PyData} {p : PyData → PyData → Bool} {f : PyData → PyData → PyData} (M : Nat) (hi : EvI C k env own ρ it1 mdi items) (hM : ∀ d ∈ items, (items2 d).length ≤ M) (hN : items.length * M ≤ 1000000) (hM' : M ≤ 1000000) (hclos : closureFor scope env = pure cl)
    (hS : compB env scope cl (freeOf scope) own [x1, x2] = true) (hfl : (freeOf scope).map (fun y => cl.lookup y) = (freeOf scope).map (fun y => env.cells.lookup y))
    (hstep : ∀ d ∈ items, ∀ L, EvI C k (compEnvC scope cl L env) own (compR [(x1, d)] mdi (freeOf scope) ρ) it2 mdi (items2 d) ∧ ∀ d2 ∈ items2 d, Tsts C k (compEnvC scope cl L env) own (compR [(x2, d2), (x1, d)] mdi (freeOf scope) ρ) ifs (p d d2) ∧
      (p d d2 = true → Ev C k (compEnvC scope cl L env) own (compR [(x2, d2), (x1, d)] mdi (freeOf scope) ρ) elt md (f d d2)))
    (h : Ex C k env (x :: less own x) (upd ρ x md (.list (items.flatMap fun d => ((items2 d).filter (p d)).map (f d)))) rest P) (hne : x1 ≠ x2) (hs2 : ∀ L x, foldedSetIterable it2 (compEnvC scope cl L env) x = pure x)
    (hx : storable env x = true) (hsw : swapsWith (comp2 elt (.Name x1 p1) it1 (.Name x2 p2) it2 ifs scope pos) (some (.Name x py)) spos.line env = pure true) (hs : ∀ x, foldedSetIterable it1 env x = pure x) :
    Ex C k env own ρ (.Assign [.Name x py] (comp2 elt (.Name x1 p1) it1 (.Name x2 p2) it2 ifs scope pos) spos :: rest) P := by
  have S := compS hS hfl
  refine Ex.plain (fun A hN' ok s₀ Kp W s Q E St q => ?_) h
  rw [exec_Assign_Name_used _ _ _ _ hsw]
  refine wpAny_bind (wpAny_standAt (wpAny_bind ?_))
  show wpAny _ A (do let _ ← comprehension (comp2 elt (.Name x1 p1) it1 (.Name x2 p2) it2 ifs scope pos) scope env _ (newList []) false (eval it1 env) (some (PySem.assign (.Name x py) env))) _ _ s
  refine wpAny_bind (wpAny_mono (wpAny_comprehension_free (use := some (PySem.assign (.Name x py) env)) (Q := fun _ s' => Q .next s') rfl hs hclos S.kind S.names (hi A ok W s _ E St.cur fun I fp Pv Stt F h' tk u fr X F0 st0 => ?_)) (fun _ s' hq => wpAny_pure (wpAny_pure hq)) fun _ _ e => e)
  exact comp2_core (RR := fun acc L => compPost (model C.prog C.w) A E (some (PySem.assign (.Name x py) env)) (fun _ s' => Q .next s') acc L) St.cur u fr X F0 st0 hM hN hM' hstep S.xs hne S.fv S.cell S.kind hs2 fun D L vs n h₂ tk₂ m' frD frL hDL hn hk hD hr =>
    use_store St hx (fun W' s' _ S' => q W' s' S') u fr frD frL hDL hn hk hD hr
end
end Mine

namespace Mine
open PySem PySem.W PyProof.Rows PyProof.V

theorem ints_of {ok : Addr → Prop} {h : Heap} : ∀ {ns : List Int} {vs : List Value}, RepAll ok h (ns.map .int) vs → IntsAre vs ns
  | [], _, r => by cases r; exact .nil
  | n :: ns, _, r => by
    cases r with
    | cons x t => cases x; exact .cons _ _ (ints_of t)

section
variable {C : Cx} {k : Nat} {env : Env} {own : List Str} {ρ : DEnv} {e e' : Expr} {md : Bool} {ns : List Int} {pos npos : Pos} {i j : Int} {x : Str}

theorem Ev.sumB (B : Bis C) (ha : EvB C k env own ρ e false (.list (ns.map .int))) (hk : env.kindOf "sum" = some .globalImplicit) (he : starEach [e] env = (false, eval e env) :: starEach [] env) :
    Ev C k env own ρ (.Call (.Name "sum" npos) [e] [] pos) md (.int ns.sum) := fun A ok W s Q E c q =>
  call1 (EvK.builtin B.sum bi_sum (hk := hk)) ha c (fun v h' tk u y => by
    obtain ⟨a, vs, n, e, g, r⟩ := y
    subst e
    have hi := ints_of r
    obtain ⟨xs, ex⟩ := hi.allInts.items
    have hil : Heap.IsList h' a (intItems xs) := ex ▸ ⟨_, g, rfl, _, rfl⟩
    refine sum_intListG (s := { s with heap := h', toks := tk }) c.room.hh hil fun h'' tk'' t' hk => ?_
    have e2 : preSum (numAt xs) xs.size = ns.sum := by
      rw [preSum_eq, List.take_of_length_le (by simp), ← nums_intItems, ← ex]
      rw [show vs.toArray.toList = vs from rfl, hi.numsOf]
    rw [e2]
    exact q _ _ _ (u.trans hk) (.int _ _)) he

/-- pairs of a dict display: strs and ints -/
inductive KvAre : List (Str × Value) → List (Str × Int) → Prop
  | nil : KvAre [] []
  | cons {x : Str} {i : Int} {t : Tok} {kv : List (Str × Value)} {l : List (Str × Int)} (r : KvAre kv l) : KvAre ((x, .int i t) :: kv) ((x, i) :: l)
def EvKv (C : Cx) (k : Nat) (env : Env) (own : List Str) (ρ : DEnv) (keys : List (Option Expr)) (values : List Expr) (l : List (Str × Int)) : Prop :=
  ∀ A ok W s (Q : List (Value × Value) → Shared → Prop) E (pos : Pos), Cur C k A ok W own env ρ s → (∀ vs kv h' tk, Up s.heap h' → Carries (PySem.strKind C.prog C.w) vs kv → KvAre kv l → Q vs { s with heap := h', toks := tk }) →
    wpAny (model C.prog C.w) A (evalPairs (pairTrees keys values env pos)) Q E s
theorem EvKv.nil : EvKv C k env own ρ [] [] [] := fun A ok W s Q E pos c q => pairTrees_nil_walk (q [] [] s.heap s.toks (Up.refl _) trivial .nil)
theorem EvKv.cons {n : Nat} {kpos : Pos} {keys : List (Option Expr)} {values : List Expr} {l : List (Str × Int)} (h : EvB C k env own ρ e false (.int i)) (t : EvKv C k env own ρ keys values l) :
    EvKv C k env own ρ (some (.Constant (.str x) n kpos) :: keys) (e :: values) ((x, i) :: l) := fun A ok W s Q E pos c q =>
  pairTrees_cons_walk (PySem.wpAny_Constant_str (h A ok W _ _ E (c.on (Up.refl _) _) fun v h' tk u y => by
    obtain ⟨t1, rfl⟩ := y.int_inv
    exact t A ok W _ _ E pos ((c.on (Up.refl _) _).on u tk) fun vs kv h'' tk' u' hc hk => q _ ((x, .int i t1) :: kv) h'' tk' (u.trans u') (show Carries _ (_ :: vs) ((x, .int i t1) :: kv) from ⟨strKind_is _ _ _ _, rfl, hc⟩) (.cons hk)))
theorem KvAre.keys {kv : List (Str × Value)} {l : List (Str × Int)} (h : KvAre kv l) : kv.map (·.1) = l.map (·.1) := by
  induction h with
  | nil => rfl
  | cons _ ih => rw [List.map_cons, List.map_cons, ih]
abbrev kvD (l : List (Str × Int)) : List (PyData × PyData) := l.map fun p => (.str p.1, .int p.2)
theorem KvAre.flat {kv : List (Str × Value)} {l : List (Str × Int)} (h : KvAre kv l) : FlatPairs PyData.str kv (kvD l) := by
  induction h with
  | nil => exact .nil
  | cons _ ih => exact .cons (fun h => Reads.int _ _) ih
def getV (l : List (Str × Int)) (x : Str) : Int := (l.lookup x).getD 0
theorem lookup_kvD (x : Str) : ∀ l : List (Str × Int), (Spec.lookup (.str x) (kvD l)).getD (.int 0) = .int (getV l x)
  | [] => rfl
  | (y, i) :: l => by
    rw [show kvD ((y, i) :: l) = (.str y, .int i) :: kvD l from rfl, Spec.lookup, getV, List.lookup_cons]
    have hs : Spec.same (.str y) (.str x) = (x == y) := by
      rw [same_str]
      by_cases h : y = x
      · subst h; simp
      · rw [decide_eq_false h]; symm; rw [beq_eq_false_iff_ne]; exact fun q => h q.symm
    rw [hs]
    cases x == y with
    | true => rfl
    | false => exact lookup_kvD x l

/-- x = {..}; return x.get(op, 0) -/
theorem Ex.dictGet {op : Str} {o : Str} {m : Bool} {keys : List (Option Expr)} {values : List Expr} {l : List (Str × Int)} {px nx np dpos spos apos cpos' callpos rpos : Pos} {n : Nat} {rest : List Stmt} {P : Out → Prop} (hkv : EvKv C k env own ρ keys values l) (hop : ρ op = some (m, .str o)) (hne : op ≠ x)
    (hnd : (l.map (·.1)).Nodup) (hall : keys.all (·.isSome) = true) (hl : keys.length = values.length) (h0 : keys ≠ []) (hlen : keys.length ≤ 15) (hx : storable env x = true) (h : P (.ret false (.int (getV l o))))
    (hsw : swapsWith (.Dict keys values dpos) (some (.Name x px)) spos.line env = pure false) {pl : Sem Bool}
    (he : eval (.Call (.Attribute (.Name x nx) "get" apos) [.Name op np, .Constant (.int 0) n cpos'] [] callpos) env = (do
      let ov ← eval (.Name x nx) env
      standAt apos.atName
      let (f, first) ← holding [ov] (getMethod ov "get" pl)
      callWith callpos f first (backTo callpos (starEach [.Name op np, .Constant (.int 0) n cpos'] env)) []))
    (hd1 : (x == ("__debug__" : Str)) = false) (hd2 : (op == ("__debug__" : Str)) = false) (hn1 : (x == ("__classdict__" : Str)) = false) (hn2 : (op == ("__classdict__" : Str)) = false) :
    Ex C k env own ρ (.Assign [.Name x px] (.Dict keys values dpos) spos :: .Return (some (.Call (.Attribute (.Name x nx) "get" apos) [.Name op np, .Constant (.int 0) n cpos'] [] callpos)) rpos :: rest) P := by
  intro A hN ok s₀ Kp W s Q E S f
  refine wpAny_execs_cons (wpAny_Assign_Name ?_ hsw)
  refine wpAny_Dict_walk (knd := PySem.strKind C.prog C.w) hall hl h0 hlen ?_
  have u0 : Up s.heap (s.heap.push { cls := .type "dict", data := .dict #[] }) := Up.push _ _
  refine hkv A ok W _ _ E dpos (S.cur.on u0 s.toks) fun vs kv h₁ tk₁ u₁ hc hk => ?_
  refine ⟨kv, hc, (Heap.DictOf.new _).keep u₁, fun h₂ hd₂ hs₂ => ?_⟩
  generalize hDe : s.heap.objs.size = D at *
  have frD : s.heap.get? D = none := Heap.get?_none_of_le (by omega)
  have u₂ : Up s.heap h₂ := fun b ob e => hs₂.extBut b ob (fun q => by rw [q, frD] at e; cases e) (u₁ b ob (u0 b ob e))
  have loD : (D == sysModules) = false := by
    obtain ⟨mc, hns, _⟩ := C.lim.keeps S.cur.up
    obtain ⟨o2, _, _, ho2, _⟩ := hns
    have := Heap.lt_size ho2
    rw [hDe] at this
    rw [beq_eq_false_iff_ne]
    have h2 : (2 : Nat) < D := this
    show ¬ ((D : Nat) = 1)
    omega
  rw [merged_nil_of_nodup kv (by rw [hk.keys]; exact hnd)] at hd₂
  have S₂ := S.on u₂ (tk₁ + vs.length)
  obtain ⟨m₁, cm, hn, hcl, hv⟩ := S₂.frm
  refine store_raw hx S.eok.kind hn hcl S.apart fun h₃ tk₃ c m' cm' hs n1 n2 hcc hn' hc' e1 e2 => ?_
  have nk : ∀ ob, ¬ Kp c ob := by
    intro ob q
    rcases hcc with e | ⟨z, e⟩
    · exact S.newL ob (e ▸ q)
    · exact S.newC z c ob e q
  have hcD : D ≠ c := fun q => by
    obtain ⟨m0, cm0, hn0, hc0, _⟩ := S.frm
    rcases hcc with e | ⟨z, e⟩
    · obtain ⟨o5, _, _, ho5, _⟩ := hn0
      rw [← e, ← q, frD] at ho5; cases ho5
    · obtain ⟨o5, ho5, _⟩ := hc0 z c e
      rw [← q, frD] at ho5; cases ho5
  have T : StrTab C.prog C.w h₃ D (kvD l) := ⟨loD, kv, hd₂.sameBut hs hcD, hk.flat⟩
  obtain ⟨vo, lo, yo⟩ := hv op m (.str o) hop
  have eo : ∃ t, vo = .str o t := yo.b.str_inv
  obtain ⟨to, rfl⟩ := eo
  have Lx : Look env h₃ x (.ref D) := val_look hn' hc' e1
  have Lo : Look env h₃ op (.str o to) := val_look hn' hc' ((e2 op hne).trans lo)
  refine wpAny_execs_cons (wpAny_Return_some (MethodCall_ (pl := pl) ?_ he))
  refine wpAny_Name (Look.load (s := { s with heap := h₃, toks := tk₃ }) S.eok.kind Lx ?_ hn1) hd1
  refine getMethod_strTab_get (s := { s with heap := h₃, toks := tk₃ }) T ?_
  refine callWith_method1 (args_cons ?_) rfl rfl
  refine wpAny_Name (Look.load (s := { s with heap := h₃, toks := tk₃ }) S.eok.kind Lo ?_ hn2) hd2
  refine args_cons (wpAny_Constant_int (args_nil ?_))
  refine call_get2_strTab (s := { s with heap := h₃, toks := tk₃ + 1 }) (dd := .int 0) T (fun h => Reads.int _ _) fun v hv => ?_
  rw [lookup_kvD] at hv
  have ev : ∃ t, v = .int (getV l o) t := by
    have := hv h₃
    cases this; exact ⟨_, rfl⟩
  obtain ⟨t9, rfl⟩ := ev
  refine f.ret false (.int (getV l o)) _ _ h ?_ (fun b ob q => ?_) (.int _ _)
  · obtain ⟨h9, tk9, e9⟩ := S.same
    exact ⟨h₃, _, by rw [e9]⟩
  · exact hs.extBut b ob (fun z => nk ob (z ▸ q)) (u₂ _ _ (S.keep b ob q))
end
end Mine

namespace Mine
open PySem PySem.W PyProof.Rows

section
variable {C : Cx} {k : Nat} {env : Env} {own : List Str} {ρ : DEnv} {rest : List Stmt} {P : Out → Prop} {e ix : Expr} {x : Str} {md mx : Bool} {d : PyData} {ds : List PyData} {ns : List Int} {i v : Int} {pos pos' npos : Pos}

theorem set_lst {h : Heap} {a : Addr} {vs : List Value} {n j : Nat} {v : Value} (g : h.get? a = some (lst vs n)) (hj : j < vs.length) : (h.update a (Obj.mapSeq (·.setIfInBounds j v))).get? a = some (lst (vs.set j v) n) := by
  have := Heap.get?_update_self (Obj.mapSeq (·.setIfInBounds j v)) g (by rfl)
  rw [this]
  simp [Obj.mapSeq]

/-- x[ix] = e, x owned -/
theorem Ex.setItem (he : Ev C k env own ρ e md d) (hx : ρ x = some (mx, .list ds)) (ho : own.contains x = true) (hi : EvB C k env own ρ ix false (.int i)) (h0 : 0 ≤ i ∧ i < ds.length) (hz : ds.length ≤ sizeLine) (h : Ex C k env own (upd ρ x (mx && md) (.list (ds.set i.toNat d))) rest P)
    (hd : (x == ("__debug__" : Str)) = false) (hcd : (x == ("__classdict__" : Str)) = false) (hsw : swapsWith e (some (.Subscript (.Name x npos) ix pos')) pos.line env = pure false) (hlt : lentName x = false := by rfl) :
    Ex C k env own ρ (.Assign [.Subscript (.Name x npos) ix pos'] e pos :: rest) P := by
  refine Ex.plain (fun A hN ok s₀ Kp W s Q E S q => ?_) h
  obtain ⟨a, hw⟩ : ∃ a, W x = some a := (S.own1 x).mpr (by simpa using ho)
  refine wpAny_Assign_Subscript (he A ok W s _ E S.cur fun v h' tk u y => ?_) hsw
  have S1 := S.on u tk
  obtain ⟨vx, lk, yx⟩ := S1.cur.has x mx (.list ds) hx
  unfold Holds1 at yx
  rw [hw] at yx
  obtain ⟨e1, ds₁, vs, n, e2, g, r⟩ := yx
  cases e2
  subst e1
  refine wpAny_Name (lk.load S.eok.kind ?_ hcd) hd
  refine hi A ok W _ _ E S1.cur fun vi h'' tk' u' yi => ?_
  obtain ⟨t, rfl⟩ := yi.int_inv
  have hl := r.length
  rw [sizeLine_eq] at hz
  refine ki_setAt (s := { s with heap := h'', toks := tk' }) (items := vs.toArray) (n := n) (u' _ _ g) h0.1 (by omega) (by rw [List.size_toArray]; omega) ?_
  have g2 := set_lst (v := v) (u' _ _ g) (show i.toNat < vs.length by omega)
  refine q W _ (((S1.on u' tk').mut (h' := h''.update a (Obj.mapSeq (·.setIfInBounds i.toNat v))) ⟨_, _, hx⟩ hw hlt (Heap.SameBut.update ..) g2 ?_ tk'))
  have r1 : RepAll (okW ok W (mx && md)) h'' ds vs := (r.up u').imp fun b z => okW_le S.le (md' := mx) (by cases mx <;> cases md <;> rfl) z
  have r2 : Rep (okW ok W (mx && md)) h'' d v := (y.imp fun b z => okW_le S.le (md' := md) (by cases mx <;> cases md <;> rfl) z).up u'
  exact r1.set _ r2
end
end Mine

namespace Mine
open PySem PySem.W PyProof.Rows

theorem Fn.anyMd {C : Cx} {k : Nat} {f : Addr} {ma md : Bool} {args : List PyData} {d : PyData} (h : Fn C k f ma args true d) : Fn C k f ma args md d := by
  cases md with
  | true => exact h
  | false => exact fun A ok s vs Q E r u n l y q => h A ok s vs Q E r u n l y fun v h' tk u' r' => q v h' tk u' (r'.imp l)

def natB (p : Nat → Bool) : PyData → Bool
  | .int i => p i.toNat
  | _ => false
section
variable {C : Cx} {k : Nat} {env : Env} {own : List Str} {ρ : DEnv} {e t elt : Expr} {md : Bool} {pos npos cpos tpos spos py : Pos} {x y : Str} {scope : Scope} {cl : List (Str × Addr)} {fv : List Str} {rest : List Stmt} {P : Out → Prop}
theorem comp_rangeF {n : Int} {p : Nat → Bool} {g : Nat → PyData} (S : CompS env scope cl fv own [x]) (hstep : ∀ i : Nat, (i : Int) < n → ∀ L, Tst C k (compEnvC scope cl L env) own (compR [(x, .int (i : Int))] false fv ρ) t (p i) ∧ Ev C k (compEnvC scope cl L env) own (compR [(x, .int (i : Int))] false fv ρ) elt md (g i)) :
    ∀ d ∈ rangeD n, CompStep C k env own ρ scope cl fv (.Name x tpos) elt [t] false md (natB p) (natD g) d := fun d hd => by
  obtain ⟨i, hi, e⟩ := mem_rangeD hd
  subst e
  refine ⟨_, AsgC.name, ?_, fun L => ⟨(hstep i hi L).1, fun _ => (hstep i hi L).2⟩⟩
  have := S.xs
  simpa using this
theorem rangeD_filter {n : Int} (p : Nat → Bool) (g : Nat → PyData) : ((rangeD n).filter (natB p)).map (natD g) = ((List.range n.toNat).filter p).map g := by
  unfold rangeD
  induction List.range n.toNat with
  | nil => rfl
  | cons i l ih =>
    rw [List.map_cons, List.filter_cons, List.filter_cons, show natB p (.int (i : Int)) = p i from rfl]
    cases p i with
    | true => rw [if_pos rfl, if_pos rfl, List.map_cons, List.map_cons, ih]; rfl
    | false => rw [if_neg (by decide), if_neg (by decide), ih]
/-- [elt for x in range(e) if t] -/
theorem EvF.compRF {n : Int} (p : Nat → Bool) (g : Nat → PyData) (B : Bis C) (hr : EvB C k env own ρ e false (.int n)) (hn : n ≤ 1000000) (hlo : -1000000 ≤ n) (hk : env.kindOf "range" = some .globalImplicit) (he : starEach [e] env = (false, eval e env) :: starEach [] env)
    (hcl : closureFor scope env = pure cl) (hS : compB env scope cl (freeOf scope) own [x] = true) (hfl : (freeOf scope).map (fun y => cl.lookup y) = (freeOf scope).map (fun y => env.cells.lookup y)) (hs : ∀ y, foldedSetIterable (.Call (.Name "range" npos) [e] [] cpos) env y = pure y)
    (hstep : ∀ i : Nat, (i : Int) < n → ∀ L, Tst C k (compEnvC scope cl L env) own (Mine.compR [(x, .int (i : Int))] false (freeOf scope) ρ) t (p i) ∧ Ev C k (compEnvC scope cl L env) own (Mine.compR [(x, .int (i : Int))] false (freeOf scope) ρ) elt md (g i)) :
    EvF C k env own ρ (.ListComp elt [⟨.Name x tpos, .Call (.Name "range" npos) [e] [] cpos, [t], 0⟩] scope pos) md (((List.range n.toNat).filter p).map g) := by
  have S := compS hS hfl
  have := EvF.comp (md := md) (pos := pos) (EvI.rangeB (md := false) B hr hn hk he hlo (npos := npos) (pos := cpos)) (by rw [rangeD_length, sizeLine_eq]; omega) hcl (comp_rangeF S hstep (tpos := tpos)) S.fv S.cell S.kind S.names hs
  rwa [rangeD_filter] at this
end
end Mine

namespace Mine
open PySem PySem.W PyProof.Rows
section
variable {C : Cx} {k : Nat} {env : Env} {own : List Str} {ρ : DEnv} {rest body : List Stmt} {P : Out → Prop} {t : Expr} {pos : Pos}
/-- while t: body (no break): σ is what the names tell, n how often it may turn -/
theorem Ex.whileR {α : Type} (O : List Str) (Γ : α → DCtx) (Iv : α → Prop) (μ : α → Nat) (tv : α → Bool) (a₀ : α) (h0 : own = O) (h0' : All ρ (Γ a₀)) (hI : Iv a₀)
    (test : ∀ a, Iv a → Tst C k env O (mk (Γ a)) t (tv a))
    (turn : ∀ a, Iv a → tv a = true → Ex C k env O (mk (Γ a)) body (fun o => match o with
      | .next own ρ | .cont own ρ => own = O ∧ ∃ a', μ a' < μ a ∧ Iv a' ∧ All ρ (Γ a')
      | .brk _ _ => False
      | .ret md d => P (.ret md d)))
    (done : ∀ a, Iv a → tv a = false → Ex C k env O (mk (Γ a)) rest P) : Ex C k env own ρ (.While t body [] pos :: rest) P := by
  subst h0
  intro A hN ok s₀ Kp W s Q E S f
  refine wpAny_execs_cons (wpAny_While ?_)
  refine codeAny_whileLoop (fun n s' => ∃ a W, n = μ a ∧ Iv a ∧ Sta C k A hN ok s₀ Kp env own W (mk (Γ a)) s') ?_ (μ a₀) ⟨a₀, W, rfl, hI, S.forget h0'.sub⟩
  rintro n s' ⟨a, W', rfl, hIa, S'⟩
  refine test a hIa A ok W' s' _ _ S'.cur fun h' tk u => ?_
  have S2 := S'.on u tk
  cases hb : tv a with
  | true =>
    refine turn a hIa hb A hN ok s₀ Kp W' _ _ _ S2 { next := ?_, brk := fun _ _ _ _ p => p.elim, cont := ?_, ret := ?_ }
    · rintro own' W'' ρ' s'' ⟨e, a', hm, hI', ha⟩ S''
      subst e
      exact ⟨μ a', hm, a', W'', rfl, hI', S''.forget ha.sub⟩
    · rintro own' W'' ρ' s'' ⟨e, a', hm, hI', ha⟩ S''
      subst e
      exact ⟨μ a', hm, a', W'', rfl, hI', S''.forget ha.sub⟩
    · intro md d v s'' p sm kp r
      exact f.ret md d v s'' p sm kp r
  | false =>
    exact wpAny_execs_nil (done a hIa hb A hN ok s₀ Kp W' _ Q E S2 f)
end
end Mine

namespace Mine
open PySem PySem.W PyProof.Rows
section
variable {C : Cx} {k : Nat} {env : Env} {own : List Str} {ρ : DEnv} {rest : List Stmt} {P : Out → Prop} {e : Expr} {x : Str} {md mx : Bool} {d : PyData} {ds : List PyData} {pos cpos apos npos : Pos}
/-- a list that a lent name owns, handed out -/
theorem Ev.lent (h : ρ x = some (mx, .list ds)) (hl : lentName x = true) (hd : (x == ("__debug__" : Str)) = false) (hn : (x == ("__classdict__" : Str)) = false) : Ev C k env own ρ (.Name x pos) false (.list ds) := fun A ok W s Q E c q => by
  obtain ⟨v, lk, y⟩ := c.has x mx (.list ds) h
  refine wpAny_Name (lk.load c.eok.kind (q v s.heap s.toks (Up.refl _) ?_) hn) hd
  unfold Holds1 at y
  split at y
  · exact y.imp fun b z => okW_le c.le (md := false) (md' := mx) rfl z
  · rename_i a hw
    obtain ⟨e1, ds', vs, n, e2, g, r⟩ := y
    cases e2
    subst e1
    refine .list g ⟨(c.own x a hw).2.2, fun y q => ⟨c.inj x y a hw q ▸ hl, rfl⟩⟩ (r.imp fun b z => okW_le c.le (md := false) (md' := mx) rfl z)

/-- x.append(e) where the list of x was lent out: what may hold it is forgotten -/
theorem Ex.appendLent (Γ : DCtx) (hΓ : All ρ Γ) (hΓ' : (Γ.all fun p => (p.2.1 || atom p.2.2) && p.1 != x) = true) (he : Ev C k env own ρ e md d) (hx : ρ x = some (mx, .list ds)) (ho : own = [x]) (hz : ds.length ≤ sizeLine) (h : Ex C k env [] (mk Γ) rest P)
    (hd : (x == ("__debug__" : Str)) = false := by decide) (hcd : (x == ("__classdict__" : Str)) = false := by decide)
    (hbase : attributeBase (.Name x npos) "append" env (eval (.Name x npos) env) = eval (.Name x npos) env := by rfl)
    (hfew : ((backTo cpos (starEach [e] env)).all (fun x => !x.1) && (backToKw cpos (keywordEach [] env)).all (fun x => x.1.isSome) && decide (([e] : List Expr).length + ([] : List Keyword).length + (if ([] : List Keyword).isEmpty then 0 else 1) < 30)) = true := by rfl)
    (hline : (apos.endLine == cpos.line) = true := by rfl) (htrees : backTo cpos (starEach [e] env) = [(false, eval e env)] := by rfl) (hi : interactive env = false := by rfl) :
    Ex C k env own ρ (.Expr (.Call (.Attribute (.Name x npos) "append" apos) [e] [] cpos) pos :: rest) P := by
  subst ho
  refine Ex.plain (own' := []) (ρ' := mk Γ) (fun A hN ok s₀ Kp W s Q E S q => ?_) h
  refine wpAny_Expr ?_ hi rfl
  refine wpAny_Call_append hbase hfew hline htrees ?_
  obtain ⟨a, hw⟩ : ∃ a, W x = some a := (S.own1 x).mpr (.head _)
  obtain ⟨v, lk, y⟩ := S.cur.has x mx (.list ds) hx
  refine wpAny_Name (lk.load S.eok.kind ?_ hcd) hd
  unfold Holds1 at y
  rw [hw] at y
  obtain ⟨e1, ds₁, vs, n, e2, g, r⟩ := y
  cases e2
  subst e1
  refine ⟨a, vs.toArray, rfl, ⟨_, n, g, rfl, rfl, rfl⟩, ?_⟩
  refine he A ok W s _ E S.cur fun v h' tk u y => ?_
  refine wpAny_list_append_plain (s := { s with heap := h', toks := tk }) ⟨n, u _ _ g⟩ (fun h'' pl hs => ?_) (by rw [List.size_toArray, r.length]; exact hz)
  have S1 := S.on u tk
  have ga : h'.get? a = some (lst vs n) := u _ _ g
  have nk := (S.own2 x a hw).1
  have hs : Heap.SameBut a h' h'' := hs
  obtain ⟨m, cm, hn, hc, hv⟩ := S1.frm
  have hn : h'.Ns env.locals m := hn
  have hc : ∀ n c, env.cells.lookup n = some c → h'.IsCell c (cm n) := hc
  have neL : a ≠ env.locals := fun q => (ns_no_lst hn).1 vs n (q ▸ ga)
  refine q (fun _ => none) _ { room := S.room, top := S.top, eok := S.eok, up := S.up, new := S.new, le := S.le, kpN := S.kpN, same := (let ⟨h9, t9, e9⟩ := S.same; ⟨h'', tk, by rw [e9]⟩), keep := fun b o e => hs.extBut b o (fun z => nk o (z ▸ e)) (S1.keep b o e), newL := S.newL, newC := S.newC, apart := S.apart, frm := ?_, own1 := fun z => ⟨fun ⟨_, w⟩ => (nomatch w), fun w => (nomatch w)⟩, own2 := fun _ _ w => (nomatch w), inj := fun _ _ _ w => (nomatch w) }
  refine ⟨m, cm, hn.sameBut hs (Ne.symm neL), fun n' c e => (hc n' c e).sameBut hs fun z => (cell_no_lst (hc n' c e)).1 vs n (z ▸ ga), fun y md' d' e => ?_⟩
  have hm := List.all_eq_true.mp hΓ' (y, md', d') (PySem.mem_of_lookup e)
  simp only [Bool.and_eq_true, bne_iff_ne] at hm
  obtain ⟨v', l, z⟩ := hv y md' d' (hΓ.sub _ _ e)
  refine ⟨v', l, ?_⟩
  have hWy : W y = none := by
    cases w : W y with
    | none => rfl
    | some b => exact absurd (by simpa using (S.own1 y).mp ⟨b, w⟩) hm.2
  unfold Holds1 at z ⊢
  rw [hWy] at z
  cases ha : atom d' with
  | true => exact Rep.atom z ha
  | false =>
    have hmd : md' = true := by simpa [ha] using hm.1
    subst hmd
    refine Rep.gen (fun b vs' n' e o => ⟨hs.extBut b _ (fun w => ?_) e, o.1, fun _ w => (nomatch w)⟩) (fun b vs' n' e => hs.extBut b _ (fun w => ?_) e) z
    · exact absurd (o.2 x (w ▸ hw)).2 (by decide)
    · have e : h'.get? b = some (tup vs' n') := e
      rw [w, ga] at e
      exact absurd (show Value.type "list" = Value.type "tuple" from congrArg Obj.cls (Option.some.inj e)) (by decide)
end
end Mine

namespace Mine
open PySem PySem.W PyProof.Rows
section
variable {C : Cx} {k : Nat} {env : Env} {own : List Str} {ρ : DEnv} {rest body : List Stmt} {P : Out → Prop} {iter : Expr} {pos tpos : Pos} {x : Str} {md : Bool}
/-- for x in a list of things: a is what the names tell -/
theorem Ex.forS {α β : Type} {xs : List β} {g : β → PyData} (hi : EvI C k env own ρ iter md (xs.map g)) (O : List Str) (Γ : α → DCtx) (Iv : Nat → α → Prop) (a₀ : α) (h0 : own = O) (h0' : All ρ (Γ a₀)) (hI : Iv 0 a₀) (hx : storable env x = true) (ho : less O x = O)
    (turn : ∀ (i : Nat) (h : i < xs.length) (a : α), Iv i a → Ex C k env O (upd (mk (Γ a)) x md (g xs[i])) body (fun o => match o with
      | .next own ρ | .cont own ρ => own = O ∧ ∃ a', Iv (i + 1) a' ∧ All ρ (Γ a')
      | .brk _ _ => False
      | .ret md d => P (.ret md d)))
    (done : ∀ a, Iv xs.length a → Ex C k env O (mk (Γ a)) rest P) (hs : ∀ x, foldedSetIterable iter env x = pure x) (hnl : noLent O = true := by rfl) : Ex C k env own ρ (.For (.Name x tpos) iter body [] pos :: rest) P := by
  refine Ex.for_ hi (fun i own ρ => own = O ∧ ∃ a, Iv i a ∧ All ρ (Γ a)) (fun _ _ _ => False) ⟨h0, a₀, hI, h0'⟩ (fun i d own ρ hd hI => ?_) (fun own ρ hI => ?_) (fun _ _ _ q => q.elim) hs (fun i own ρ hI => by rw [hI.1]; exact hnl)
  · obtain ⟨e, a, hIa, ha⟩ := hI
    subst e
    have hlt : i < xs.length := by
      rcases Nat.lt_or_ge i xs.length with h | h
      · exact h
      · rw [List.getElem?_eq_none (by rw [List.length_map]; exact h)] at hd; cases hd
    rw [List.getElem?_map, List.getElem?_eq_getElem hlt] at hd
    cases hd
    have asg : Asg C k env own (mk (Γ a)) (.Name x tpos) md (g xs[i]) (less own x) (upd (mk (Γ a)) x md (g xs[i])) := Asg.name hx
    refine ⟨less own x, _, ⟨asg.1, fun A hN ok s₀ Kp W s v Q E S y q => asg.2 A hN ok s₀ Kp W s v Q E (S.forget ha.sub) y q⟩, ?_⟩
    rw [ho]
    refine (turn i hlt a hIa).mono fun o ho => ?_
    cases o <;> exact ho
  · obtain ⟨e, a, hIa, ha⟩ := hI
    subst e
    rw [List.length_map] at hIa
    exact Ex.ctx _ ha (done a hIa)
theorem Tst.or3 {e₁ e₂ e₃ : Expr} {b₁ b₂ b₃ : Bool} (h₁ : Tst C k env own ρ e₁ b₁) (h₂ : Tst C k env own ρ e₂ b₂) (h₃ : Tst C k env own ρ e₃ b₃) : Tst C k env own ρ (.BoolOp .Or [e₁, e₂, e₃] pos) (b₁ || (b₂ || b₃)) := by
  have := Tst.or_cons (pos := pos) h₁ fun _ => Tst.or_cons h₂ fun _ => Tst.or_cons h₃ fun _ => Tst.or_nil
  rwa [Bool.or_false] at this
end
end Mine

namespace Mine
open PySem PySem.W PyProof.Rows

/-- what the frame's code table needs -/
structure TabHere (env : Env) (c P : Addr) (h : Heap) : Prop where
  code : env.code = .ref c
  is : h.IsCode c P #[]
  tab : h.TableAt c P #[]
  ns : P ≠ cStatics
theorem TabHere.up {env : Env} {c P : Addr} {h h' : Heap} (x : TabHere env c P h) (u : Up h h') : TabHere env c P h' := ⟨x.code, x.is.keeps u, x.tab.keeps u, x.ns⟩
theorem table_ne_ns {h : Heap} {c P a : Addr} {ps : Array Value} {m : Str → Option Value} (t : h.TableAt c P ps) (n : h.Ns a m) : a ≠ P := fun e => by
  obtain ⟨o, es, ep, ho, hd, _⟩ := n
  rw [e, t.2] at ho; cases ho; cases hd
theorem table_ne_cls {h : Heap} {c P a : Addr} {ps : Array Value} {o : Obj} (t : h.TableAt c P ps) (ho : h.get? a = some o) (hc : o.cls ≠ .none) : a ≠ P := fun e => by
  rw [e, t.2] at ho; cases ho; exact hc rfl

section
variable {prog : Program} {w : World} {A : Around} {E : Value → Shared → Prop} {s : Shared}
/-- type(x) is int, in a generator -/
theorem elt_ints {cenv : Env} {mg mb m : Str → Option Value} {x : Str} {i : Int} {t : Tok} {p1 p2 p3 p4 p5 : Pos} {Q : Value → Shared → Prop}
    (hg : s.heap.Ns cenv.globals mg) (hb : s.heap.Ns cenv.builtins mb) (hmb : ∀ y : Str, y ≠ "__name__" → mb y = bootBuiltins y) (h1 : mg "type" = none) (h2 : mg "int" = none)
    (hn : s.heap.Ns cenv.locals m) (hx : m x = some (.int i t)) (hk : cenv.scope.kind = .function) (k1 : cenv.kindOf "type" = some .globalImplicit) (k2 : cenv.kindOf "int" = some .globalImplicit) (k3 : cenv.kindOf x = some .local) (hd : (x == ("__debug__" : Str)) = false)
    (he : starEach [.Name x p2] cenv = (false, eval (.Name x p2) cenv) :: starEach [] cenv) (hm : behindInMarks .Is (.Name "int" p4) = false)
    (hQ : Q (.bool true) s) : wpAny (model prog w) A (eval (.Compare (.Call (.Name "type" p1) [.Name x p2] [] p3) [.Is] [.Name "int" p4] p5) cenv) Q E s := by
  refine wpAny_Compare1 ?_ hm
  refine Call_ (Calls.Name_function_global hk k1 (Calls.loadGlobal_builtin hg h1 hb ((hmb _ (by decide)).trans bi_type) ?_) (by decide))
  refine PyProof.Rows.callWith_type1 (args_cons (wpAny_Name (wpAny_loadName_local hk k3 hn hx (args_nil ?_)) hd) he) he
  refine call_type_of (Tx := "int") rfl (by decide) ?_
  refine Calls.Name_function_global hk k2 (Calls.loadGlobal_builtin hg h2 hb ((hmb _ (by decide)).trans bi_int) ?_) (by decide)
  exact wpAny_is_plain rfl hQ

/-- all(type(x) is int for x in l) over ints: true; all objects but the code table stay -/
theorem gen_ints {env : Env} {c P : Addr} {mg mb : Str → Option Value} {bm : Addr} {ob : Obj} {x : Str} {px p1 p2 p3 p4 p5 pos : Pos} {iter : Expr} {scope : Scope} {l : Addr} {vs : List Value} {ns : List Int} {Q : Value → Shared → Prop}
    (T : TabHere env c P s.heap) (M : BMod s.heap env.globals mg bm ob) (hb : s.heap.Ns builtinsNs mb) (hmb : ∀ y : Str, y ≠ "__name__" → mb y = bootBuiltins y) (h1 : mg "type" = none) (h2 : mg "int" = none) (hlim : s.heap.NoLimit) (hG : AllBare s.gens) (hh : A.handled = none) (hroom : A.depth < recursionLimit)
    (hco : scope.isCoroutine = false) (hclos : closureFor scope env = pure []) (hcell : ∀ y ∈ scope.names, y.2 ≠ .cell) (h0 : scope.names.lookup (".0" : Str) = some NameKind.local) (hx : scope.names.lookup x = some NameKind.local) (hkind : scope.kind = .function)
    (k1 : scope.names.lookup ("type" : Str) = some NameKind.globalImplicit) (k2 : scope.names.lookup ("int" : Str) = some NameKind.globalImplicit) (hd : (x == ("__debug__" : Str)) = false) (hm : behindInMarks .Is (.Name "int" p4) = false)
    (he : ∀ cenv, starEach [.Name x p2] cenv = (false, eval (.Name x p2) cenv) :: starEach [] cenv) (hs : ∀ x, genFold iter env x = pure x)
    (hit : ∀ (Q : Value → Shared → Prop) (E : Value → Shared → Prop), Q (.ref l) s → wpAny (model prog w) A (eval iter env) Q E s)
    (hl : s.heap.IsList l vs.toArray) (hi : IntsAre vs ns)
    (hQ : ∀ s' c', Heap.ExtBut P s.heap s'.heap → s'.heap.TableAt c P #[rawInt pos.line, rawInt pos.col, .ref c'] → s'.os = s.os → AllBare s'.gens → Q (.bool true) s') :
    wpAny (model prog w) A (eval (.GeneratorExp (.Compare (.Call (.Name "type" p1) [.Name x p2] [] p3) [.Is] [.Name "int" p4] p5) [⟨.Name x px, iter, [], 0⟩] scope pos) env) (fun v s' => wpAny (model prog w) A (call (.builtin "all") [v]) Q E s') E s := by
  have hlt : l < s.heap.objs.size := by obtain ⟨_, e, _⟩ := hl; exact Heap.lt_size e
  have hPlt : P < s.heap.objs.size := Heap.lt_size T.tab.2
  have hclt : c < s.heap.objs.size := by obtain ⟨⟨o, _, e, _⟩, _⟩ := T.tab; exact Heap.lt_size e
  have hglt := M.ns.lt
  have hblt := hb.lt
  have hslt : cStatics < s.heap.objs.size := let ⟨_, hn, _⟩ := hlim; hn.lt
  have hlP : l ≠ P := fun e => by
    obtain ⟨o, ho, hc, _⟩ := hl
    rw [e, T.tab.2] at ho; cases ho; exact absurd hc (by simp)
  refine wpAny_GeneratorExp_walksQ hh hco hclos hcell h0 hx hkind hroom (hit _ _ (wpAny_pyIter_list hl ⟨hlim.push _, ?_⟩)) hs
  generalize hs2 : ({ s with heap := s.heap.push { cls := .type "list_iterator", data := .fields #[.ref l, .int 0 0] } } : Shared) = s₂
  have e2 : s₂.heap = s.heap.push { cls := .type "list_iterator", data := .fields #[.ref l, .int 0 0] } := by rw [← hs2]
  have g2 : s₂.gens = s.gens := by rw [← hs2]
  have o2 : s₂.os = s.os := by rw [← hs2]
  have u2 : Up s.heap s₂.heap := by rw [e2]; exact Up.push _ _
  have z2 : s₂.heap.objs.size = s.heap.objs.size + 1 := by rw [e2, Heap.size_push]
  have I2 : s₂.heap.get? s.heap.objs.size = some { cls := .type "list_iterator", data := .fields #[.ref l, .int 0 0] } := by rw [e2]; exact Heap.get?_push_size _ rfl
  refine wpAny_genexprCodeX T.code (T.is.keeps u2) (T.tab.keeps u2) rfl fun c' h₃ tk₃ hx₃ hge hlt₃ hcode₃ _ htab₃ _ => ?_
  have hsz : s₂.heap.objs.size ≤ h₃.objs.size := Nat.le_trans hge (Nat.le_of_lt hlt₃)
  have z3 : s.heap.objs.size < h₃.objs.size := by omega
  have M₃ : BMod h₃ env.globals mg bm ob := (M.keeps u2).extBut (T.tab.keeps u2) hx₃
  have hcP : cStatics ≠ P := Ne.symm T.ns
  have hl₃ : h₃.NoLimit := (hlim.keeps u2).extBut hx₃ hcP
  have hb₃ : h₃.Ns builtinsNs mb := (hb.keeps u2).extBut hx₃ (table_ne_ns T.tab hb)
  refine wpAny_builtinsFor M₃.ns M₃.name M₃.ne M₃.obj M₃.cls M₃.dict M₃.data ?_
  refine ⟨s.heap.objs.size, [s.heap.objs.size, l], [s.heap.objs.size], vs.toArray.size, _, _, (fun _ => true), (fun _ y => y = .bool true), rfl, (fun A' hA => Walks.list hA _ _ (Nat.ne_of_lt hlt) vs.toArray), ?_, ?_, hl₃, ?_, ?_, ?_⟩
  · refine ⟨⟨_, hx₃ _ _ (Nat.ne_of_gt hPlt) I2, rfl, rfl⟩, ?_⟩
    obtain ⟨o, ho, r⟩ := hl
    exact ⟨o, hx₃ _ _ hlP (u2 _ _ ho), r⟩
  · intro b hb'
    show b < h₃.objs.size
    rcases List.mem_cons.mp hb' with q | hb'
    · exact q ▸ z3
    · rcases List.mem_cons.mp hb' with q | hb'
      · exact q ▸ Nat.lt_trans hlt z3
      · cases hb'
  · intro hm'
    rcases List.mem_cons.mp hm' with e | hm'
    · exact Nat.ne_of_lt hslt e
    · cases hm'
  · intro href hhref
    refine ⟨fun A' E' i v s₆ m₂ _ _ _ _ _ => wpAny_pure ⟨rfl, _, _, rfl, fun _ _ e => e⟩, fun A' E' i v s₆ m₂ _ hP _ hn hm₂ hk => ?_⟩
    have up : ∀ b o, b < s.heap.objs.size → h₃.get? b = some o → s₆.heap.get? b = some o := fun b o hlt' e => hk b (List.mem_range.mpr (Nat.lt_trans hlt' z3)) (fun q => by
      rcases List.mem_cons.mp q with q | q
      · exact Nat.ne_of_lt hlt' q
      · cases q) o (hhref b o e)
    have hv : vs[i]? = some v := by simpa using hP
    have hlt' : i < ns.length := by rw [← hi.length]; exact (List.getElem?_eq_some_iff.mp hv).1
    obtain ⟨t, ht⟩ := hi.get i ns[i] (List.getElem?_eq_getElem hlt')
    rw [hv] at ht
    cases ht
    exact elt_ints (mg := mg) (mb := mb) (M₃.ns.at fun o e => up _ o hglt e) (hb₃.at fun o e => up _ o hblt e) hmb h1 h2 hn hm₂ hkind k1 k2 hx hd (he _) hm ⟨rfl, _, _, rfl, fun _ _ e => e⟩
  · intro a h₅ tk gs hgb hag hsz₅ hk₅ W hat
    have W := W.in4_1
    refine call_all_walkS (W.self 0 _ _ _ hat ⟨a, _, _, _, _, _, _, (fun _ => true), rfl, W, hat, ?_, fun s' hm' => ?_⟩)
    · intro j v s Q E hv hQ
      obtain ⟨i, _, rfl⟩ := hv
      exact wpAny_truthy_bool hQ
    · have up : ∀ b o, b < s.heap.objs.size → h₃.get? b = some o → s'.heap.get? b = some o := fun b o hlt' e => hm'.heap b o (fun q => by
        rcases List.mem_cons.mp q with q | q
        · have q : b = h₃.objs.size := q
          exact Nat.ne_of_lt (Nat.lt_trans hlt' z3) q
        · rcases List.mem_cons.mp q with q | q
          · exact Nat.ne_of_lt hlt' q
          · cases q) (hk₅ b o e)
      rw [List.all_eq_true.mpr fun _ _ => rfl]
      refine hQ s' c' (fun b o hb' e => up b o (Heap.lt_size e) (hx₃ b o hb' (u2 b o e))) ?_ (hm'.os.trans o2) (AllBare.movedS ?_ hm')
      · obtain ⟨⟨o, ws, e, r⟩, t⟩ := htab₃
        exact ⟨⟨o, ws, up c o hclt e, r⟩, up P _ hPlt t⟩
      · show AllBare (s₂.gens.push gs)
        rw [g2]
        exact hG.push hgb
end

section
variable {C : Cx} {k : Nat} {env : Env} {own : List Str} {ρ : DEnv}
/-- the statements end in True; the code table may grow, generators may be left -/
def ExL (C : Cx) (k : Nat) (env : Env) (own : List Str) (ρ : DEnv) (body : List Stmt) : Prop :=
  ∀ A hN ok s₀ Kp W s Q E, Sta C k A hN ok s₀ Kp env own W ρ s → AllBare s₀.gens → (∀ s', OldK hN s'.heap → s'.os = s₀.os → AllBare s'.gens → Q (.ret (.bool true)) s') → wpAny (model C.prog C.w) A (execs body env) Q E s
theorem ExL.split {pre tail : List Stmt} {O : List Str} {Γ : DCtx} (h : Ex C k env own ρ pre (Nx O Γ)) (t : ExL C k env O (mk Γ) tail) : ExL C k env own ρ (pre ++ tail) := fun A hN ok s₀ Kp W s Q E S hG q => by
  rw [execs_append]
  refine wpAny_bind (h A hN ok s₀ Kp W s _ E S { next := fun own' W' ρ' s' p S' => ?_, brk := fun _ _ _ _ q => q.elim, cont := fun _ _ _ _ q => q.elim, ret := fun _ _ _ _ q => q.elim })
  obtain ⟨rfl, a⟩ := p
  exact t A hN ok s₀ Kp W' s' Q E (S'.forget a.sub) hG q

/-- the top with a grown code table -/
def Cx.grown (C : Cx) (c P : Addr) (ps ps' : Array Value) (t : C.base.TableAt c P ps) (hP : P ≠ cStatics) : Cx :=
  have up : Heap.ExtBut P C.base (regrown C.base P ps') := fun b o hb e => (Heap.get?_update_other _ _ (Ne.symm hb)).trans e
  { prog := C.prog, w := C.w, base := regrown C.base P ps', mg := C.mg, mb := C.mb, bi := C.bi, tree := C.tree
    g := C.g.extBut up (table_ne_ns t C.g)
    b := C.b.extBut up (table_ne_ns t C.b)
    lim := C.lim.extBut up (Ne.symm hP)
    seer := ⟨(let ⟨mc, a, b⟩ := C.seer.statics; ⟨mc, a.extBut up (table_ne_ns t a), b⟩), (let ⟨mc, a, b⟩ := C.seer.mods; ⟨mc, a.extBut up (table_ne_ns t a), b⟩), (let ⟨mc, a, b⟩ := C.seer.imp; ⟨mc, a.extBut up (table_ne_ns t a), b⟩),
      (let ⟨mg', bm, ob, a, b, c', d, f⟩ := C.seer.main; ⟨mg', bm, ob, a.extBut up (table_ne_ns t a), b, up _ _ (table_ne_cls t c' (by rw [d]; simp)) c', d, f⟩)⟩ }

theorem Rep.butP {ok : Addr → Prop} {h h' : Heap} {P : Addr} {d : PyData} {v : Value} (y : Rep ok h d v) (hx : Heap.ExtBut P h h') (hl : ∀ vs n, h.get? P ≠ some (lst vs n)) (ht : ∀ vs n, h.get? P ≠ some (tup vs n)) : Rep ok h' d v :=
  y.gen (fun b vs n e o => ⟨hx b _ (fun q => hl vs n (q ▸ e)) e, o⟩) fun b vs n e => hx b _ (fun q => ht vs n (q ▸ e)) e

/-- if not all((type(x) is int for x in got)): return False; then the tail -/
theorem ExL.all_ {c P : Addr} {bm : Addr} {ob : Obj} {x y : Str} {ns : List Int} {px p0 p1 p2 p3 p4 p5 pos cpos npos upos ipos gpos : Pos} {scope : Scope} {rbody tail : List Stmt} {mx : Bool}
    (T : TabHere env c P C.base) (hbm : C.mg "__builtins__" = some (.ref bm) ∧ bm ≠ builtinsNs ∧ C.base.get? bm = some ob ∧ ob.cls = .type "module" ∧ ob.dict = some builtinsNs ∧ ob.data = .plain) (h1 : C.mg "type" = none) (h2 : C.mg "int" = none) (h3 : C.mg "all" = none)
    (hρ : ρ y = some (mx, .list (ns.map .int)))
    (h : ∀ C', Ex C' k env [] ρ tail (fun o => o = .ret false (.bool true)))
    (hka : env.kindOf "all" = some .globalImplicit) (hd : (x == ("__debug__" : Str)) = false) (hdy : (y == ("__debug__" : Str)) = false) (hcy : (y == ("__classdict__" : Str)) = false)
    (hco : scope.isCoroutine = false) (hclos : closureFor scope env = pure []) (hcell : ∀ y ∈ scope.names, y.2 ≠ .cell) (h0 : scope.names.lookup (".0" : Str) = some NameKind.local) (hx : scope.names.lookup x = some NameKind.local) (hkind : scope.kind = .function)
    (k1 : scope.names.lookup ("type" : Str) = some NameKind.globalImplicit) (k2 : scope.names.lookup ("int" : Str) = some NameKind.globalImplicit) (hm : behindInMarks .Is (.Name "int" p4) = false)
    (he : ∀ cenv, starEach [.Name x p2] cenv = (false, eval (.Name x p2) cenv) :: starEach [] cenv) (hs : ∀ z, genFold (.Name y gpos) env z = pure z)
    (hea : starEach [.GeneratorExp (.Compare (.Call (.Name "type" p1) [.Name x p2] [] p3) [.Is] [.Name "int" p4] p5) [⟨.Name x px, .Name y gpos, [], 0⟩] scope pos] env = (false, eval (.GeneratorExp (.Compare (.Call (.Name "type" p1) [.Name x p2] [] p3) [.Is] [.Name "int" p4] p5) [⟨.Name x px, .Name y gpos, [], 0⟩] scope pos) env) :: starEach [] env) :
    ExL C k env [] ρ (.If (.UnaryOp .Not (.Call (.Name "all" npos) [.GeneratorExp (.Compare (.Call (.Name "type" p1) [.Name x p2] [] p3) [.Is] [.Name "int" p4] p5) [⟨.Name x px, .Name y gpos, [], 0⟩] scope pos] [] cpos) upos) rbody [] ipos :: tail) := fun A hN ok s₀ Kp W s Q E S hG q => by
  have cu := S.cur
  have hW : ∀ x, W x = none := fun x => by
    cases e : W x with
    | none => rfl
    | some a => have := (S.own1 x).mp ⟨a, e⟩; cases this
  have up := cu.up
  have Ts := T.up up
  have TN := T.up S.up
  obtain ⟨h₀', tk₀, es⟩ := S.same
  have gs : s.gens = s₀.gens := by rw [es]
  have os : s.os = s₀.os := by rw [es]
  obtain ⟨v, lk, hv⟩ := cu.has y mx _ hρ
  unfold Holds1 at hv
  rw [hW y] at hv
  have hv : Rep (okW ok W mx) s.heap (.list (ns.map .int)) v := hv
  cases hv with
  | list gl okl rl =>
  rename_i l vs n
  have hil : s.heap.IsList l vs.toArray := ⟨_, gl, rfl, _, rfl⟩
  have hi := ints_of rl
  have hgl : env.globals = mainGlobals := cu.eok.glob
  have M : BMod s.heap env.globals C.mg bm ob := by rw [hgl]; exact ⟨C.g.keeps up, hbm.1, hbm.2.1, up _ _ hbm.2.2.1, hbm.2.2.2.1, hbm.2.2.2.2.1, hbm.2.2.2.2.2⟩
  have hload : ∀ (Q : Value → Shared → Prop) (E : Value → Shared → Prop), Q (.ref l) s → wpAny (model C.prog C.w) A (eval (.Name y gpos) env) Q E s := fun Q E hq => wpAny_Name (Look.load cu.eok.kind lk hq hcy) hdy
  have hroom : A.depth < recursionLimit := by have := cu.room.depth; omega
  refine wpAny_execs_cons (wpAny_If (wpAny_isTrue_Not (isTrue_plain ?_ rfl)))
  refine Call_ ((EvK.builtin (k := k) (own := []) (ρ := ρ) h3 bi_all (by decide) hka (by decide)) A ok W s _ E cu fun h₁ tk₁ u₁ => ?_)
  have S1 := S.on u₁ tk₁
  have cu1 := cu.on u₁ tk₁
  refine PyProof.Rows.callWith_builtin1 (args_cons ?_ hea) hea
  have up1 := cu1.up
  have M1 : BMod h₁ env.globals C.mg bm ob := M.keeps u₁
  have hload1 : ∀ (Q : Value → Shared → Prop) (E : Value → Shared → Prop), Q (.ref l) { s with heap := h₁, toks := tk₁ } → wpAny (model C.prog C.w) A (eval (.Name y gpos) env) Q E { s with heap := h₁, toks := tk₁ } := fun Q E hq => wpAny_Name (Look.load cu.eok.kind (lk.up u₁) hq hcy) hdy
  refine wpAny_mono (gen_ints (s := { s with heap := h₁, toks := tk₁ }) (Q := fun v s' => v = .bool true ∧ wpAny (model C.prog C.w) A (execs tail env) Q E s') (Ts.up u₁) M1 (C.b.keeps up1) C.bi h1 h2 (C.lim.keeps up1) (by show AllBare s.gens; rw [gs]; exact hG) cu.room.hh hroom hco hclos hcell h0 hx hkind k1 k2 hd hm he hs hload1 (by obtain ⟨o, ho, r⟩ := hil; exact ⟨o, u₁ _ _ ho, r⟩) hi ?_) (fun v s' hv => args_nil (wpAny_mono hv (fun v' s'' z => by obtain ⟨e, z⟩ := z; subst e; exact wpAny_truthy_bool (wpAny_execs_nil z)) fun _ _ e => e)) fun _ _ e => e
  intro s' c' hx' ht' ho' hg'
  refine ⟨rfl, ?_⟩
  have hPN : hN.get? P = some { cls := .none, data := .fields #[] } := TN.tab.2
  have selfN : (regrown hN P #[rawInt pos.line, rawInt pos.col, .ref c']).get? P = some { cls := .none, data := .fields #[rawInt pos.line, rawInt pos.col, .ref c'] } := Heap.get?_update_self _ hPN rfl
  have othN : ∀ b, b ≠ P → (regrown hN P #[rawInt pos.line, rawInt pos.col, .ref c']).get? b = hN.get? b := fun b hb => Heap.get?_update_other _ _ (Ne.symm hb)
  have keep' : ∀ b o, (regrown hN P #[rawInt pos.line, rawInt pos.col, .ref c']).get? b = some o → s'.heap.get? b = some o := fun b o e => by
    by_cases hb : b = P
    · rw [hb, selfN] at e; cases e; rw [hb]; exact ht'.2
    · rw [othN b hb] at e; exact hx' b o hb (u₁ b o (S.upH b o e))
  have hLP : env.locals ≠ P := fun e => S.newL _ (S.kpN _ _ (e ▸ hPN))
  have hCP : ∀ n c, env.cells.lookup n = some c → c ≠ P := fun n c q e => S.newC n c _ q (S.kpN _ _ (e ▸ hPN))
  have nl : ∀ vs n, h₁.get? P ≠ some (lst vs n) := fun vs n e => by have := (Ts.up u₁).tab.2; rw [e] at this; cases this
  have nt : ∀ vs n, h₁.get? P ≠ some (tup vs n) := fun vs n e => by have := (Ts.up u₁).tab.2; rw [e] at this; cases this
  have S' : Sta (C.grown c P #[] #[rawInt pos.line, rawInt pos.col, .ref c'] T.tab T.ns) k A (regrown hN P #[rawInt pos.line, rawInt pos.col, .ref c']) ok s' (fun b o => (regrown hN P #[rawInt pos.line, rawInt pos.col, .ref c']).get? b = some o) env [] W ρ s' := by
    refine { room := S.room, top := S.top, eok := S.eok, up := ?_, new := ?_, le := S.le, kpN := fun _ _ e => e, same := ⟨s'.heap, s'.toks, rfl⟩, keep := keep', newL := ?_, newC := ?_, apart := S.apart, frm := ?_, own1 := S.own1, own2 := fun x a e => ?_, inj := fun x z a e => ?_ }
    · intro b o e
      have e : (regrown C.base P #[rawInt pos.line, rawInt pos.col, .ref c']).get? b = some o := e
      by_cases hb : b = P
      · have : (regrown C.base P #[rawInt pos.line, rawInt pos.col, .ref c']).get? P = some { cls := .none, data := .fields #[rawInt pos.line, rawInt pos.col, .ref c'] } := Heap.get?_update_self _ T.tab.2 rfl
        rw [hb, this] at e; cases e; rw [hb]; exact selfN
      · have : (regrown C.base P #[rawInt pos.line, rawInt pos.col, .ref c']).get? b = C.base.get? b := Heap.get?_update_other _ _ (Ne.symm hb)
        rw [this] at e
        rw [othN b hb]; exact S.up b o e
    · intro md a e
      by_cases hb : a = P
      · rw [hb, selfN] at e; cases e
      · rw [othN a hb] at e; exact S.new md a e
    · intro o e
      rw [othN _ hLP] at e; exact S.newL o (S.kpN _ _ e)
    · intro n c₀ o q e
      rw [othN _ (hCP n c₀ q)] at e; exact S.newC n c₀ o q (S.kpN _ _ e)
    · obtain ⟨m, cm, n1, n2, n3⟩ := S1.frm
      refine ⟨m, cm, n1.extBut hx' hLP, fun n c₀ q => ?_, fun z md d e => ?_⟩
      · obtain ⟨o, ho, r⟩ := n2 n c₀ q
        exact ⟨o, hx' _ _ (hCP n c₀ q) ho, r⟩
      · obtain ⟨v, a, b⟩ := n3 z md d e
        refine ⟨v, a, ?_⟩
        unfold Holds1 at b ⊢
        rw [hW z] at b ⊢
        exact Rep.butP b hx' nl nt
    · rw [hW x] at e; cases e
    · rw [hW x] at e; cases e
  refine h (C.grown c P #[] #[rawInt pos.line, rawInt pos.col, .ref c'] T.tab T.ns) A _ ok s' _ W s' Q E S' { next := fun _ _ _ _ p => (nomatch p), brk := fun _ _ _ _ p => (nomatch p), cont := fun _ _ _ _ p => (nomatch p), ret := fun md' d' v s'' p sm kp r => ?_ }
  cases p
  cases r
  obtain ⟨h'', tk'', e''⟩ := sm
  have hcP : c ≠ P := by obtain ⟨⟨o, vs, e, hc, _⟩, _⟩ := TN.tab; exact table_ne_cls TN.tab e (by rw [hc]; simp)
  have tabN : (regrown hN P #[rawInt pos.line, rawInt pos.col, .ref c']).TableAt c P (#[] ++ #[rawInt pos.line, rawInt pos.col, .ref c']) := by
    obtain ⟨⟨o, vs, e, r⟩, _⟩ := TN.tab
    exact ⟨⟨o, vs, (othN c hcP).trans e, r⟩, selfN⟩
  refine q s'' (((OldK.refl hN).step_table TN.tab TN.tab tabN (fun b o hb e => (othN b hb).trans e) T.ns).step_keeps kp) ?_ ?_
  · rw [e'']; exact ho'.trans os
  · rw [e'']; exact hg'
/-- a law whose tail holds a generator -/
theorem law_endL {prog : Program} {w : World} {s₁ : Shared} {fa a : Addr} {fd : FuncData} {body : List Stmt} {vs : List Value} {ns : List Int} {c : ClaimW} {cl : Str → Option Addr} {mean : ExcName → Option Value} {args : List WData} {k : Nat} {C : Cx} {n : Nat}
    (e1 : C.prog = prog) (e2 : C.w = w) (e3 : C.base = s₁.heap) (X : FnAt C fa fd ["script"] body) (h : ∀ L, ExL C k (callEnvC fd L fa) [] (entry ["script"] false [.list (ns.map .int)]) body) (hk : k ≤ 39) (ha : s₁.heap.get? a = some (lst vs n)) (hi : IntsAre vs ns) (hg : s₁.gens = #[]) (hr : ∀ cls, c.raises args cls = false) (hp : c.post args (.bool true) args = true)
    {E : Value → Shared → Prop} : wpAny (model prog w) callerA (call (.ref fa) [.ref a]) (fun v s' => GoodWG c cl mean args s₁ (.ok (.ret v)) s') E s₁ := by
  subst e1 e2
  have hr' : Room (k + 1) callerA := by
    refine ⟨rfl, ?_, ?_, ⟨[], rfl⟩⟩
    · show 1 + claimMargin + (k + 1) + 100 < recursionLimit
      have : claimMargin = 300 := rfl
      have : recursionLimit = 1000 := rfl
      omega
    · show 4 + 8 * (k + 1) + 80 < cLine
      have : cLine = 9900 := rfl
      omega
  have hu : Up C.base s₁.heap := e3 ▸ Up.refl _
  have hargs : RepAll (fun _ => True) s₁.heap [.list (ns.map .int)] [.ref a] := .cons (.list ha trivial (repAll_ints hi)) .nil
  obtain ⟨o, ho, hd⟩ := X.at_
  refine wpAny_call ?_
  refine codeAny_call_cells (by have := hr'.depth; omega) (hu _ _ ho) hd (C.lim.keeps hu) (X.code.keeps hu) X.body_ (X.bind [.ref a] rfl) X.clo (fun x hx => ?_) (fun s₂ ic => ?_) X.co X.gen X.kind
  · have hm : x.1 ∈ (["script"] : List Str) := by have := List.mem_map_of_mem (f := (·.1)) hx; simpa using this
    have := List.all_eq_true.mp (X.st s₁.heap.objs.size) x.1 hm
    unfold storable at this
    rcases Bool.or_eq_true_iff.mp this with q | q
    · exact .inl (eq_of_beq q)
    · obtain ⟨q1, q2⟩ := Bool.and_eq_true_iff.mp q
      exact .inr ⟨eq_of_beq q1, q2⟩
  · have hfresh : ∀ a, s₁.heap.objs.size ≤ a → s₁.heap.get? a = none := fun a ha => Heap.get?_none_of_le ha
    have S : Sta C k (callerA.deeper (callEnvC fd s₁.heap.objs.size fa)) s₁.heap (fun _ _ => True) s₁ (fun b o => s₁.heap.get? b = some o) (callEnvC fd s₁.heap.objs.size fa) [] (fun _ => none) (entry ["script"] false [.list (ns.map .int)]) s₂ := by
      refine { room := hr'.deeper _, top := hr'.top X.gen X.co X.bi X.glob, eok := ⟨X.kind, X.glob, X.bi⟩, up := hu, new := fun _ _ _ => trivial, le := fun _ _ => trivial, kpN := fun _ _ e => e, same := ic.toInCall.same, keep := ic.toInCall.keep, newL := fun o q => ?_, newC := fun n c o q q' => ?_, apart := ic.apart, frm := ?_, own1 := fun x => ?_, own2 := fun x a q => (nomatch q), inj := fun x y a q => (nomatch q) }
      · have : s₁.heap.get? s₁.heap.objs.size = some o := q
        rw [hfresh _ (Nat.le_refl _)] at this; cases this
      · have hc := ic.above n c (PySem.mem_of_lookup q)
        have : s₁.heap.get? c = some o := q'
        rw [hfresh _ (Nat.le_of_lt hc)] at this; cases this
      · refine ⟨_, _, ic.toInCall.ns, ic.cell, fun x md' d' e => ?_⟩
        unfold entry at e
        cases hl : ((["script"] : List Str).zip [PyData.list (ns.map .int)]).lookup x with
        | none => rw [hl] at e; cases e
        | some d₀ =>
          rw [hl] at e; cases e
          have hx : x ∈ (["script"] : List Str) := by have := List.mem_map_of_mem (f := (·.1)) (PySem.mem_of_lookup hl); simpa using this
          obtain ⟨v, hv, r⟩ := zip_lookup (R := fun v d => Rep (fun _ => True) s₁.heap d v) ["script"] [.ref a] [PyData.list (ns.map .int)] hargs.length (fun i a b h1 h2 => by
            obtain ⟨d', e', r⟩ := hargs.getV h1
            rw [h2] at e'; cases e'; exact r) hl
          refine ⟨v, bind_val (List.all_eq_true.mp (X.st s₁.heap.objs.size) x hx) _ _ _ X.nd hv, ?_⟩
          unfold Holds1
          exact (r.imp fun a q => ⟨trivial, fun _ z => nomatch z⟩).up ic.toInCall.keep
      · simp
    refine h s₁.heap.objs.size _ _ _ s₁ _ _ s₂ _ _ S (.of_eq hg) fun s' hK hos hgs => ?_
    exact ⟨.inl ⟨_, _, [], rfl, hr, ReadsW.bool true, hp, fun _ => ⟨List.nodup_nil, fun _ hm => (nomatch hm)⟩⟩, hK, hos, hgs⟩
end
end Mine

namespace Mine
open PySem PySem.W PyProof.Rows

theorem map_inv {α : Type} {xs : List α} {g : α → PyData} {inv : PyData → α} (hinv : ∀ a, inv (g a) = a) (p : α → Bool) (f : α → PyData) : ((xs.map g).filter fun d => p (inv d)).map (fun d => f (inv d)) = (xs.filter p).map f := by
  induction xs with
  | nil => rfl
  | cons a l ih =>
    rw [List.map_cons, List.filter_cons, List.filter_cons, hinv]
    cases p a with
    | true => rw [if_pos rfl, if_pos rfl, List.map_cons, List.map_cons, ih, hinv]
    | false => rw [if_neg (by decide), if_neg (by decide), ih]
theorem map_inv1 {α : Type} {xs : List α} {g : α → PyData} {inv : PyData → α} (hinv : ∀ a, inv (g a) = a) (f : α → PyData) : ((xs.map g).filter fun d => true).map (fun d => f (inv d)) = xs.map f := by
  rw [List.filter_eq_self.mpr fun _ _ => rfl, List.map_map]
  exact List.map_congr_left fun a _ => by show f (inv (g a)) = f a; rw [hinv]
theorem szl {n : Nat} (h : n ≤ 1000000) : n ≤ sizeLine := by rw [sizeLine_eq]; omega
def intOf : PyData → Int
  | .int i => i
  | _ => 0
section
variable {C : Cx} {k : Nat} {env : Env} {own : List Str} {ρ : DEnv} {e t elt iter : Expr} {md mdi : Bool} {pos npos cpos tpos spos py : Pos} {x y : Str} {scope : Scope} {cl : List (Str × Addr)} {fv : List Str} {rest : List Stmt} {P : Out → Prop} {ifs : List Expr}
theorem comp_M {α : Type} {xs : List α} {g : α → PyData} {inv : PyData → α} (hinv : ∀ a, inv (g a) = a) {p : α → Bool} {f : α → PyData} (S : CompS env scope cl fv own [x])
    (hstep : ∀ a ∈ xs, ∀ L, Tsts C k (compEnvC scope cl L env) own (compR [(x, g a)] mdi fv ρ) ifs (p a) ∧ Ev C k (compEnvC scope cl L env) own (compR [(x, g a)] mdi fv ρ) elt md (f a)) :
    ∀ d ∈ xs.map g, CompStep C k env own ρ scope cl fv (.Name x tpos) elt ifs mdi md (fun d => p (inv d)) (fun d => f (inv d)) d := fun d hd => by
  obtain ⟨a, ha, e⟩ := List.mem_map.mp hd
  subst e
  refine ⟨_, AsgC.name, ?_, fun L => ?_⟩
  · have := S.xs
    simpa using this
  · dsimp only
    rw [hinv]
    exact ⟨(hstep a ha L).1, fun _ => (hstep a ha L).2⟩
/-- [elt for x in iter] -/
theorem EvF.compL {α : Type} {xs : List α} {g : α → PyData} (inv : PyData → α) (hinv : ∀ a, inv (g a) = a) (f : α → PyData) (hi : EvI C k env own ρ iter mdi (xs.map g)) (hz : xs.length ≤ 1000000)
    (hcl : closureFor scope env = pure cl) (hS : compB env scope cl (freeOf scope) own [x] = true) (hfl : (freeOf scope).map (fun y => cl.lookup y) = (freeOf scope).map (fun y => env.cells.lookup y)) (hs : ∀ y, foldedSetIterable iter env y = pure y)
    (hstep : ∀ a ∈ xs, ∀ L, Ev C k (compEnvC scope cl L env) own (Mine.compR [(x, g a)] mdi (freeOf scope) ρ) elt md (f a)) :
    EvF C k env own ρ (.ListComp elt [⟨.Name x tpos, iter, [], 0⟩] scope pos) md (xs.map f) := by
  have S := compS hS hfl
  have := EvF.comp (md := md) (pos := pos) hi (by rw [List.length_map, sizeLine_eq]; omega) hcl (comp_M (ifs := []) (p := fun _ => true) (f := f) hinv S (fun a ha L => ⟨rfl, hstep a ha L⟩) (tpos := tpos)) S.fv S.cell S.kind S.names hs
  exact (map_inv1 hinv f (xs := xs)) ▸ this
/-- [elt for x in iter if t] -/
theorem EvF.compLF {α : Type} {xs : List α} {g : α → PyData} (inv : PyData → α) (hinv : ∀ a, inv (g a) = a) (p : α → Bool) (f : α → PyData) (hi : EvI C k env own ρ iter mdi (xs.map g)) (hz : xs.length ≤ 1000000)
    (hcl : closureFor scope env = pure cl) (hS : compB env scope cl (freeOf scope) own [x] = true) (hfl : (freeOf scope).map (fun y => cl.lookup y) = (freeOf scope).map (fun y => env.cells.lookup y)) (hs : ∀ y, foldedSetIterable iter env y = pure y)
    (hstep : ∀ a ∈ xs, ∀ L, Tst C k (compEnvC scope cl L env) own (Mine.compR [(x, g a)] mdi (freeOf scope) ρ) t (p a) ∧ Ev C k (compEnvC scope cl L env) own (Mine.compR [(x, g a)] mdi (freeOf scope) ρ) elt md (f a)) :
    EvF C k env own ρ (.ListComp elt [⟨.Name x tpos, iter, [t], 0⟩] scope pos) md ((xs.filter p).map f) := by
  have S := compS hS hfl
  have := EvF.comp (md := md) (pos := pos) hi (by rw [List.length_map, sizeLine_eq]; omega) hcl (comp_M (ifs := [t]) (p := p) (f := f) hinv S (fun a ha L => hstep a ha L) (tpos := tpos)) S.fv S.cell S.kind S.names hs
  rwa [map_inv hinv] at this
/-- y = [elt for x in iter] -/
theorem Ex.asgL {α : Type} {xs : List α} {g : α → PyData} (inv : PyData → α) (hinv : ∀ a, inv (g a) = a) (f : α → PyData) (hi : EvI C k env own ρ iter mdi (xs.map g)) (hz : xs.length ≤ 1000000)
    (hcl : closureFor scope env = pure cl) (hS : compB env scope cl (freeOf scope) own [x] = true) (hfl : (freeOf scope).map (fun y => cl.lookup y) = (freeOf scope).map (fun y => env.cells.lookup y)) (hs : ∀ y, foldedSetIterable iter env y = pure y) (hx : storable env y = true)
    (hsw : swapsWith (.ListComp elt [⟨.Name x tpos, iter, [], 0⟩] scope pos) (some (.Name y py)) spos.line env = pure true)
    (hstep : ∀ a ∈ xs, ∀ L, Ev C k (compEnvC scope cl L env) own (Mine.compR [(x, g a)] mdi (freeOf scope) ρ) elt md (f a))
    (h : Ex C k env (y :: less own y) (upd ρ y md (.list (xs.map f))) rest P) :
    Ex C k env own ρ (.Assign [.Name y py] (.ListComp elt [⟨.Name x tpos, iter, [], 0⟩] scope pos) spos :: rest) P := by
  have S := compS hS hfl
  refine Ex.assignComp hi (by rw [List.length_map, sizeLine_eq]; omega) hcl (comp_M (ifs := []) (p := fun _ => true) (f := f) hinv S (fun a ha L => ⟨rfl, hstep a ha L⟩) (tpos := tpos)) ?_ S.fv S.cell S.kind S.names hx hsw hs
  rwa [map_inv1 hinv]
end
end Mine

namespace Mine
open PySem PyProof.Rows

/-- as Fits; and the own list z stays where it lies -/
structure FitsW (z : Str) (a₀ : Addr) (C : Cx) (k : Nat) (A : Around) (hN : Heap) (ok : Bool → Addr → Prop) (s₀ : Shared) (Kp : Addr → Obj → Prop) (env : Env) (P : Out → Prop) (Q : Flow → Shared → Prop) : Prop where
  next : ∀ own W ρ s, P (.next own ρ) → W z = some a₀ → Sta C k A hN ok s₀ Kp env own W ρ s → Q .next s
  brk : ∀ own W ρ s, P (.brk own ρ) → W z = some a₀ → Sta C k A hN ok s₀ Kp env own W ρ s → Q .brk s
  cont : ∀ own W ρ s, P (.cont own ρ) → W z = some a₀ → Sta C k A hN ok s₀ Kp env own W ρ s → Q .cont s
  ret : ∀ md d v s, P (.ret md d) → (∃ h tk, s = { s₀ with heap := h, toks := tk }) → (∀ b o, Kp b o → s.heap.get? b = some o) → Rep (ok md) s.heap d v → Q (.ret v) s
def ExW (z : Str) (C : Cx) (k : Nat) (env : Env) (own : List Str) (ρ : DEnv) (body : List Stmt) (P : Out → Prop) : Prop :=
  ∀ A hN ok s₀ Kp W s Q E a₀, W z = some a₀ → Sta C k A hN ok s₀ Kp env own W ρ s → FitsW z a₀ C k A hN ok s₀ Kp env P Q → wpAny (model C.prog C.w) A (execs body env) Q E s

section
variable {z : Str} {C : Cx} {k : Nat} {env : Env} {own own' : List Str} {ρ ρ' : DEnv} {st : Stmt} {rest body orelse : List Stmt} {P : Out → Prop} {e iter target : Expr} {x : Str} {md md' mx : Bool} {d : PyData} {ds items : List PyData} {pos pos' cpos apos npos : Pos}

theorem ExW.nil (h : P (.next own ρ)) : ExW z C k env own ρ [] P := fun A hN ok s₀ Kp W s Q E a₀ hw S f => wpAny_execs_nil (f.next own W ρ s h hw S)
theorem ExW.plain (h1 : ∀ A hN ok s₀ Kp W s (Q : Flow → Shared → Prop) E, Sta C k A hN ok s₀ Kp env own W ρ s → (∀ W' s', W' z = W z → Sta C k A hN ok s₀ Kp env own' W' ρ' s' → Q .next s') → wpAny (model C.prog C.w) A (exec st env) Q E s)
    (h2 : ExW z C k env own' ρ' rest P) : ExW z C k env own ρ (st :: rest) P :=
  fun A hN ok s₀ Kp W s Q E a₀ hw S f => wpAny_execs_cons (h1 A hN ok s₀ Kp W s _ E S fun W' s' e S' => h2 A hN ok s₀ Kp W' s' Q E a₀ (e.trans hw) S' f)
theorem ExW.assign (hzx : z ≠ x) (he : Ev C k env own ρ e md d) (h : ExW z C k env (less own x) (upd ρ x md d) rest P) (hx : storable env x = true := by rfl)
    (hs : swapsWith e (some (.Name x pos')) pos.line env = pure false := by rfl) : ExW z C k env own ρ (.Assign [.Name x pos'] e pos :: rest) P :=
  ExW.plain (fun A hN ok s₀ Kp W s Q E S q => wpAny_Assign_Name (he A ok W s _ E S.cur fun v h' tk u y => (S.on u tk).store hx y fun s' S' => q _ s' (by unfold unW; rw [if_neg hzx]) S') hs) h
theorem ExW.forget (h : ∀ x v, ρ' x = some v → ρ x = some v) (e : ExW z C k env own ρ' body P) : ExW z C k env own ρ body P := fun A hN ok s₀ Kp W s Q E a₀ hw S f => e A hN ok s₀ Kp W s Q E a₀ hw (S.forget h) f
theorem ExW.drop (y : Str) (hy : z ≠ y) (h : ExW z C k env (less own y) ρ body P) : ExW z C k env own ρ body P := fun A hN ok s₀ Kp W s Q E a₀ hw S f => h A hN ok s₀ Kp _ s Q E a₀ (by unfold unW; rw [if_neg hy]; exact hw) (S.drop y) f
theorem ExW.ret (he : Ev C k env own ρ e md d) (h : P (.ret md d)) : ExW z C k env own ρ (.Return (some e) pos :: rest) P := fun A hN ok s₀ Kp W s Q E a₀ hw S f =>
  wpAny_execs_cons (wpAny_Return_some (he A ok W s _ E S.cur fun v h' tk u y => f.ret md d v _ h (let ⟨h0, t0, e0⟩ := S.same; ⟨h', tk, by rw [e0]⟩) (fun b o q => u b o (S.keep b o q)) (y.imp fun _ q => q.1)))
theorem ExW.if_ {t : Expr} {b : Bool} (ht : Tst C k env own ρ t b) (h1 : b = true → ExW z C k env own ρ (body ++ rest) P) (h2 : b = false → ExW z C k env own ρ (orelse ++ rest) P) : ExW z C k env own ρ (.If t body orelse pos :: rest) P := by
  intro A hN ok s₀ Kp W s Q E a₀ hw S f Γ p hΓ
  rw [execs_cons, Sem.wp_bind', exec_If, Sem.wp_bind', Sem.wp_cmd_standAt, Sem.wp_bind']
  refine ht A ok W s (fun b s' => ∀ p', Sem.wp (model C.prog C.w) Γ (if b = true then execs body env else execs orelse env) (fun x p'' s'' => Sem.wp (model C.prog C.w) Γ (match x with | .next => execs rest env | f => pure f) (fun a _ s' => Q a s') (fun e _ s' => E e s') p'' s'') (fun e _ s' => E e s') p' s') E S.cur (fun h' tk u p' => ?_) Γ pos hΓ |> fun z => Sem.wp_mono _ Γ _ (fun b' p' s' q => q p') (fun _ _ _ q => q) _ _ z
  cases b with
  | true =>
    have z := h1 rfl A hN ok s₀ Kp W _ Q E a₀ hw (S.on u tk) f Γ p' hΓ
    rw [execs_append, Sem.wp_bind'] at z
    exact z
  | false =>
    have z := h2 rfl A hN ok s₀ Kp W _ Q E a₀ hw (S.on u tk) f Γ p' hΓ
    rw [execs_append, Sem.wp_bind'] at z
    exact z
theorem ExW.append (he : Ev C k env own ρ e md d) (hx : ρ x = some (mx, .list ds)) (ho : own.contains x = true) (hz : ds.length ≤ sizeLine) (h : ExW z C k env own (upd ρ x (mx && md) (.list (ds ++ [d]))) rest P)
    (hd : (x == ("__debug__" : Str)) = false := by decide) (hcd : (x == ("__classdict__" : Str)) = false := by decide)
    (hbase : attributeBase (.Name x npos) "append" env (eval (.Name x npos) env) = eval (.Name x npos) env := by rfl)
    (hfew : ((backTo cpos (starEach [e] env)).all (fun x => !x.1) && (backToKw cpos (keywordEach [] env)).all (fun x => x.1.isSome) && decide (([e] : List Expr).length + ([] : List Keyword).length + (if ([] : List Keyword).isEmpty then 0 else 1) < 30)) = true := by rfl)
    (hline : (apos.endLine == cpos.line) = true := by rfl) (htrees : backTo cpos (starEach [e] env) = [(false, eval e env)] := by rfl) (hi : interactive env = false := by rfl) (hlt : lentName x = false := by rfl) :
    ExW z C k env own ρ (.Expr (.Call (.Attribute (.Name x npos) "append" apos) [e] [] cpos) pos :: rest) P :=
  ExW.plain (fun A hN ok s₀ Kp W s Q E S q => append_raw he hx ho hz S (fun s' S' => q W s' rfl S') hd hcd hbase hfew hline htrees hi hlt) h

theorem ExW.for_ (hzx : z ≠ x) (hi : EvI C k env own ρ iter md items) (Inv : Nat → List Str → DEnv → Prop) (h0 : Inv 0 own ρ)
    (turn : ∀ i d own ρ, items[i]? = some d → Inv i own ρ → z ∈ less own x ∧ ExW z C k env (less own x) (upd ρ x md d) body (fun o => match o with
      | .next own ρ | .cont own ρ => Inv (i + 1) own ρ
      | .brk own ρ => False
      | .ret md d => P (.ret md d)))
    (done : ∀ own ρ, Inv items.length own ρ → ExW z C k env own ρ rest P) (hst : storable env x = true)
    (hs : ∀ x, foldedSetIterable iter env x = pure x) (hnl : ∀ i own ρ, Inv i own ρ → noLent own = true) : ExW z C k env own ρ (.For (.Name x pos') iter body [] pos :: rest) P := by
  intro A hN ok s₀ Kp W s Q E a₀ hw S f
  refine wpAny_execs_cons (wpAny_For (hi A ok W s _ E S.cur fun I fp Pv St F h' tk u fr X F0 st0 => ?_) hs)
  have kI : ∀ o, ¬ Kp I o := fun o q => by have := S.keep _ _ q; rw [fr] at this; cases this
  refine forLoop_rule (fun n s' => ∃ i own W ρ, n = items.length + 1 - i ∧ i ≤ items.length ∧ W z = some a₀ ∧ Inv i own ρ ∧ Sta C k A hN ok s₀ Kp env own W ρ s' ∧ St i s'.heap ∧ F W s'.heap) ?_ (items.length + 1) ⟨0, own, W, ρ, by omega, Nat.zero_le _, hw, h0, S.on u tk, st0, F0⟩
  rintro n s₁ ⟨i, own₁, W₁, ρ₁, rfl, hle, hw₁, inv, S₁, st₁, F₁⟩
  obtain ⟨oI, xs, hoI, hdI, hcI⟩ := X.fld _ _ st₁
  have nl : ∀ vs n, s₁.heap.get? I ≠ some (lst vs n) := fun vs n e => by rw [hoI] at e; cases e; cases hdI
  have nt : ∀ vs n, s₁.heap.get? I ≠ some (tup vs n) := fun vs n e => by rw [hoI] at e; cases e; cases hdI
  by_cases hlt : i < items.length
  · refine X.wk.item i s₁ _ _ hlt st₁ fun v h₂ tk₂ hP st₂ hk₂ => ?_
    have hk₂' : ∀ b o, b ≠ I → s₁.heap.get? b = some o → h₂.get? b = some o := fun b o hb e => hk₂ b o (by simpa using hb) e
    have S₂ := S₁.but hoI hdI kI tk₂ hk₂'
    have F₂ : F W₁ h₂ := X.carry _ _ _ _ F₁ (Carry.but hk₂' nl nt)
    refine X.go (s := { s₁ with heap := h₂, toks := tk₂ }) (i := i + 1) st₂ ?_
    have hd : items[i]? = some items[i] := List.getElem?_eq_getElem hlt
    obtain ⟨hzo, ex⟩ := turn i items[i] own₁ ρ₁ hd inv
    have asg : Asg C k env own₁ ρ₁ (.Name x pos') md items[i] (less own₁ x) (upd ρ₁ x md items[i]) := Asg.name hst
    have nl₁ := hnl _ _ _ inv
    have nl₃ : noLent (less own₁ x) = true := List.all_eq_true.mpr fun x hx => List.all_eq_true.mp nl₁ x (asg.1 x hx)
    refine asg.2 A hN ok s₀ (keepAll env W₁ h₂) W₁ _ v _ _ S₂.moreKp (X.item i v _ W₁ h₂ hP hd F₂) fun W₃ s₃ hW₃ S₃ => ?_
    have hw₃ : W₃ z = some a₀ := (hW₃ z hzo).trans hw₁
    have cy₃ : Carry W₁ h₂ W₃ s₃.heap := S₂.carry nl₁ nl₃ S₃
    have F₃ : F W₃ s₃.heap := X.carry _ _ _ _ F₂ cy₃
    have ownI : ∀ {W : Str → Option Addr} {own : List Str} {ρ : DEnv} {s : Shared} {Kp : Addr → Obj → Prop} {o : Obj} {xs : Array Value}, Sta C k A hN ok s₀ Kp env own W ρ s → s.heap.get? I = some o → o.data = .fields xs → keepAll env W s.heap I o := by
      intro W own ρ s Kp o xs S ho hd
      obtain ⟨m, cm, hn, hc, hv⟩ := S.frm
      refine ⟨ho, fun q => ?_, fun n c q q' => ?_, fun x q => ?_⟩
      · obtain ⟨o2, es, ep, ho2, hd2, _⟩ := hn
        rw [← q, ho] at ho2; cases ho2; rw [hd] at hd2; cases hd2
      · obtain ⟨o2, ho2, hd2⟩ := hc n c q
        rw [← q', ho] at ho2; cases ho2; rw [hd] at hd2; cases hd2
      · obtain ⟨vs, n, g⟩ := (S.own2 x I q).2
        rw [ho] at g; cases g; cases hd
    have stay : ∀ {W W' : Str → Option Addr} {own own' : List Str} {ρ ρ' : DEnv} {s s' : Shared} {Kp : Addr → Obj → Prop} {j : Nat}, noLent own = true → noLent own' = true → Sta C k A hN ok s₀ Kp env own W ρ s → Sta C k A hN ok s₀ (keepAll env W s.heap) env own' W' ρ' s' → F W s.heap → St j s.heap → St j s'.heap := by
      intro W W' own own' ρ ρ' s s' Kp j hl hl' S S' Fh st
      refine X.wk.frame j _ _ st fun b hb o e => ?_
      by_cases hbI : b = I
      · subst hbI
        obtain ⟨o2, xs2, ho2, hd2, _⟩ := X.fld _ _ st
        rw [ho2] at e; cases e
        exact S'.keep _ _ (ownI S ho2 hd2)
      · obtain ⟨vs, n, g, w⟩ := X.oth b hb hbI W _ Fh
        rw [g] at e; cases e
        exact ((S.carry hl hl' S').l _ _ _ _ g w.2).1
    have st₃ : St (i + 1) s₃.heap := stay nl₁ nl₃ S₂ S₃ F₂ st₂
    have back : ∀ b o, Kp b o → keepAll env W₃ s₃.heap b o := fun b o q => S₃.kp_sub b o (S₂.kp_sub b o q)
    refine ex A hN ok s₀ (keepAll env W₃ s₃.heap) W₃ s₃ _ _ a₀ hw₃ S₃.moreKp { next := ?_, brk := fun _ _ _ _ p => p.elim, cont := ?_, ret := ?_ }
    · intro own₄ W₄ ρ₄ s₄ p hw₄ S₄
      exact ⟨items.length + 1 - (i + 1), by omega, i + 1, own₄, W₄, ρ₄, rfl, hlt, hw₄, p, S₄.lessKp back S.kpN, stay nl₃ (hnl _ _ _ p) S₃ S₄ F₃ st₃, X.carry _ _ _ _ F₃ (S₃.carry nl₃ (hnl _ _ _ p) S₄)⟩
    · intro own₄ W₄ ρ₄ s₄ p hw₄ S₄
      exact ⟨items.length + 1 - (i + 1), by omega, i + 1, own₄, W₄, ρ₄, rfl, hlt, hw₄, p, S₄.lessKp back S.kpN, stay nl₃ (hnl _ _ _ p) S₃ S₄ F₃ st₃, X.carry _ _ _ _ F₃ (S₃.carry nl₃ (hnl _ _ _ p) S₄)⟩
    · intro md d v s₄ p sm kp r
      exact f.ret md d v s₄ p sm (fun b o q => kp b o (back b o q)) r
  · have hin : i = items.length := by omega
    subst hin
    refine X.wk.done s₁ _ _ st₁ fun h₂ tk₂ hk₂ => ?_
    have S₂ := S₁.but hoI hdI kI tk₂ fun b o hb e => hk₂ b o (by simpa using hb) e
    exact done own₁ ρ₁ inv A hN ok s₀ Kp W₁ _ Q E a₀ hw₁ S₂ f

/-- for target in z, z the frame's own list that grows meanwhile -/
theorem Ex.forGrow (N : Nat) (Inv : Nat → List Str → DEnv → Prop) (h0 : Inv 0 own ρ) (hN : ∀ i own ρ, Inv i own ρ → i ≤ N)
    (turn : ∀ i own ρ, Inv i own ρ → ∃ mz ds, ρ z = some (mz, .list ds) ∧ z ∈ own ∧ (∀ d, ds[i]? = some d → ∃ own' ρ', z ∈ own' ∧ Asg C k env own ρ target mz d own' ρ' ∧ ExW z C k env own' ρ' body (fun o => match o with
      | .next own ρ | .cont own ρ => Inv (i + 1) own ρ
      | .brk own ρ => False
      | .ret md d => P (.ret md d))) ∧ (ds[i]? = none → Ex C k env own ρ rest P))
    (hdz : (z == ("__debug__" : Str)) = false) (hcz : (z == ("__classdict__" : Str)) = false)
    (hs : ∀ x, foldedSetIterable (.Name z npos) env x = pure x) (hnl : ∀ i own ρ, Inv i own ρ → noLent own = true) : Ex C k env own ρ (.For target (.Name z npos) body [] pos :: rest) P := by
  intro A hN' ok s₀ Kp W s Q E S f
  obtain ⟨mz₀, ds₀, hρ₀, hzo₀, _⟩ := turn 0 own ρ h0
  obtain ⟨a, hw⟩ : ∃ a, W z = some a := (S.own1 z).mpr hzo₀
  obtain ⟨v₀, lk₀, y₀⟩ := S.cur.has z mz₀ (.list ds₀) hρ₀
  unfold Holds1 at y₀
  rw [hw] at y₀
  obtain ⟨e1, ds₁, vs₁, n₁, e2, g₁, r₁⟩ := y₀
  subst e1
  refine wpAny_execs_cons (wpAny_For (wpAny_Name (lk₀.load S.eok.kind (wpAny_pyIter_list (s := s) ⟨_, g₁, rfl, _, rfl⟩ ?_) hcz) hdz) hs)
  have fr : s.heap.get? s.heap.objs.size = none := Heap.get?_none_of_le (Nat.le_refl _)
  have kI : ∀ o, ¬ Kp s.heap.objs.size o := fun o q => by have := S.keep _ _ q; rw [fr] at this; cases this
  generalize hI : s.heap.objs.size = I at *
  have u₀ : Up s.heap (s.heap.push { cls := .type "list_iterator", data := .fields #[.ref a, .int 0 0] }) := Up.push _ _
  have it₀ : (s.heap.push { cls := .type "list_iterator", data := .fields #[.ref a, .int 0 0] }).IsListIter I a 0 := ⟨_, by rw [← hI]; exact Heap.get?_push_size _ rfl, rfl, rfl⟩
  refine forLoop_rule (fun n s' => ∃ i own W ρ, n = N + 1 - i ∧ W z = some a ∧ Inv i own ρ ∧ Sta C k A hN' ok s₀ Kp env own W ρ s' ∧ s'.heap.IsListIter I a i) ?_ (N + 1) ⟨0, own, W, ρ, by omega, hw, h0, S.on u₀ s.toks, it₀⟩
  rintro n s₁ ⟨i, own₁, W₁, ρ₁, rfl, hw₁, inv, S₁, it₁⟩
  have hiN := hN i own₁ ρ₁ inv
  obtain ⟨oI, hoI, hcI, hdI⟩ := id it₁
  obtain ⟨mz, ds, hρ, hzo, hturn, hdone⟩ := turn i own₁ ρ₁ inv
  obtain ⟨v, lk, y⟩ := S₁.cur.has z mz (.list ds) hρ
  unfold Holds1 at y
  rw [hw₁] at y
  obtain ⟨e3, ds₂, vs, nv, e4, g, r⟩ := y
  cases e4
  have hil : s₁.heap.IsList a vs.toArray := ⟨_, g, rfl, _, rfl⟩
  cases hdi : ds[i]? with
  | none =>
    have hvn : vs.toArray[i]? = none := by
      rw [List.getElem?_eq_none_iff] at hdi
      rw [Array.getElem?_eq_none_iff, List.size_toArray, r.length]; exact hdi
    refine wpAny_pyNext_list_end S₁.room.hh it₁ hil hvn fun h₂ hx₂ => ?_
    have S₂ := S₁.but hoI hdI kI s₁.toks fun b o hb e => hx₂ b o hb e
    exact hdone hdi A hN' ok s₀ Kp W₁ _ Q E S₂ f
  | some d =>
    obtain ⟨v', hv', rv⟩ := r.get hdi
    refine wpAny_pyNext_list_item it₁ hil (x := v') (by simpa using hv') fun h₂ it₂ hs₂ => ?_
    have S₂ := S₁.but hoI hdI kI s₁.toks fun b o hb e => hs₂.extBut b o hb e
    obtain ⟨own', ρ', hzo', asg, ex⟩ := hturn d hdi
    obtain ⟨oI₂, hoI₂, hcI₂, hdI₂⟩ := id it₂
    have go : ∀ {Q : Unit → Shared → Prop} {E : Value → Shared → Prop}, Q () { s₁ with heap := h₂ } → wpAny (model C.prog C.w) A (letOwnedTupleGo target (.ref I) v') Q E { s₁ with heap := h₂ } := by
      intro Q E q
      have main : wpAny (model C.prog C.w) A (match v' with
          | .ref a => (do
            let o ← load I
            match o.cls, o.data with
            | .type n, .fields vs =>
              if ["enumerate", "zip", "dict_itemiterator", "dict_reverseitemiterator", "odict_iterator", "itertools.zip_longest", "itertools.pairwise"].contains n && vs[0]? == some (rawInt a) then
                rule "for.unpacks-the-owned-tuple"
                updateField I 0 .none
            | _, _ => pure ())
          | _ => pure ()) Q E { s₁ with heap := h₂ } := by
        cases v' with
        | ref a =>
          refine wpAny_bind (wpAny_load (s := { s₁ with heap := h₂ }) hoI₂ ?_)
          rw [hdI₂, hcI₂]
          dsimp only
          rw [if_neg (by rw [show (["enumerate", "zip", "dict_itemiterator", "dict_reverseitemiterator", "odict_iterator", "itertools.zip_longest", "itertools.pairwise"].contains "list_iterator") = false from by decide, Bool.false_and]; exact Bool.false_ne_true)]
          exact wpAny_pure q
        | _ => exact wpAny_pure q
      unfold letOwnedTupleGo
      split
      · cases v' <;> exact main
      · cases v' <;> exact main
      · exact wpAny_pure q
    refine go ?_
    have nl₁ := hnl _ _ _ inv
    have nl₃ : noLent own' = true := List.all_eq_true.mpr fun x hx => List.all_eq_true.mp nl₁ x (asg.1 x hx)
    have hkI : ∀ {W : Str → Option Addr} {own : List Str} {ρ : DEnv} {s : Shared} {Kp : Addr → Obj → Prop} {o : Obj} {xs : Array Value}, Sta C k A hN' ok s₀ Kp env own W ρ s → s.heap.get? I = some o → o.data = .fields xs → keepAll env W s.heap I o := by
      intro W own ρ s Kp o xs S ho hd
      obtain ⟨m, cm, hn, hc, hv⟩ := S.frm
      refine ⟨ho, fun q => ?_, fun n c q q' => ?_, fun x q => ?_⟩
      · obtain ⟨o2, es, ep, ho2, hd2, _⟩ := hn
        rw [← q, ho] at ho2; cases ho2; rw [hd] at hd2; cases hd2
      · obtain ⟨o2, ho2, hd2⟩ := hc n c q
        rw [← q', ho] at ho2; cases ho2; rw [hd] at hd2; cases hd2
      · obtain ⟨vs, n, g⟩ := (S.own2 x I q).2
        rw [ho] at g; cases g; cases hd
    have rv₂ : Rep (okW ok W₁ mz) h₂ d v' := rv.gen (fun b vs n e o => ⟨hs₂.extBut b _ (fun q => by rw [q, hoI] at e; cases e; cases hdI) e, o⟩) fun b vs n e => hs₂.extBut b _ (fun q => by rw [q, hoI] at e; cases e; cases hdI) e
    refine asg.2 A hN' ok s₀ (keepAll env W₁ h₂) W₁ _ v' _ _ S₂.moreKp rv₂ fun W₃ s₃ hW₃ S₃ => ?_
    have hw₃ : W₃ z = some a := (hW₃ z hzo').trans hw₁
    have g₃ : s₃.heap.get? I = some oI₂ := S₃.keep _ _ (hkI S₂ hoI₂ hdI₂)
    have back : ∀ b o, Kp b o → keepAll env W₃ s₃.heap b o := fun b o q => S₃.kp_sub b o (S₂.kp_sub b o q)
    refine ex A hN' ok s₀ (keepAll env W₃ s₃.heap) W₃ s₃ _ _ a hw₃ S₃.moreKp { next := ?_, brk := fun _ _ _ _ p => p.elim, cont := ?_, ret := ?_ }
    · intro own₄ W₄ ρ₄ s₄ p hw₄ S₄
      have := hN _ _ _ p
      exact ⟨N + 1 - (i + 1), by omega, i + 1, own₄, W₄, ρ₄, rfl, hw₄, p, S₄.lessKp back S.kpN, ⟨oI₂, S₄.keep _ _ (hkI S₃ g₃ hdI₂), hcI₂, hdI₂⟩⟩
    · intro own₄ W₄ ρ₄ s₄ p hw₄ S₄
      have := hN _ _ _ p
      exact ⟨N + 1 - (i + 1), by omega, i + 1, own₄, W₄, ρ₄, rfl, hw₄, p, S₄.lessKp back S.kpN, ⟨oI₂, S₄.keep _ _ (hkI S₃ g₃ hdI₂), hcI₂, hdI₂⟩⟩
    · intro md d v s₄ p sm kp r
      exact f.ret md d v s₄ p sm (fun b o q => kp b o (back b o q)) r
end
end Mine

namespace Mine
open PySem PyProof.Rows
section
variable {C : Cx} {k : Nat} {env : Env} {own : List Str} {ρ : DEnv} {rest : List Stmt} {P : Out → Prop} {value : Expr} {x1 x2 x3 x4 x5 : Str} {p1 p2 p3 p4 p5 tpos pos : Pos} {md : Bool} {d1 d2 d3 d4 d5 : PyData} {n : Nat}
theorem Ex.unpack2 (he : Ev C k env own ρ value md (.tuple [d1, d2])) (h : Ex C k env (less (less own x1) x2) (upd (upd ρ x1 md d1) x2 md d2) rest P)
    (h1 : storable env x1 = true := by rfl) (h2 : storable env x2 = true := by rfl)
    (hs : swapsWithSole [.Tuple [.Name x1 p1, .Name x2 p2] n tpos] value pos.line env = pure false := by rfl) (hw : swappedStores [.Tuple [.Name x1 p1, .Name x2 p2] n tpos] value env = pure none := by rfl) (hnl : noLent own = true := by rfl) :
    Ex C k env own ρ (.Assign [.Tuple [.Name x1 p1, .Name x2 p2] n tpos] value pos :: rest) P :=
  Ex.unpack (ns := [(x1, p1), (x2, p2)]) he rfl h (by simp [h1, h2]) hs hw hnl
theorem Ex.unpack3 (he : Ev C k env own ρ value md (.tuple [d1, d2, d3])) (h : Ex C k env (less (less (less own x1) x2) x3) (upd (upd (upd ρ x1 md d1) x2 md d2) x3 md d3) rest P)
    (h1 : storable env x1 = true := by rfl) (h2 : storable env x2 = true := by rfl) (h3 : storable env x3 = true := by rfl)
    (hs : swapsWithSole [.Tuple [.Name x1 p1, .Name x2 p2, .Name x3 p3] n tpos] value pos.line env = pure false := by rfl) (hw : swappedStores [.Tuple [.Name x1 p1, .Name x2 p2, .Name x3 p3] n tpos] value env = pure none := by rfl) (hnl : noLent own = true := by rfl) :
    Ex C k env own ρ (.Assign [.Tuple [.Name x1 p1, .Name x2 p2, .Name x3 p3] n tpos] value pos :: rest) P :=
  Ex.unpack (ns := [(x1, p1), (x2, p2), (x3, p3)]) he rfl h (by simp [h1, h2, h3]) hs hw hnl
theorem Ex.unpack5 (he : Ev C k env own ρ value md (.tuple [d1, d2, d3, d4, d5])) (h : Ex C k env (less (less (less (less (less own x1) x2) x3) x4) x5) (upd (upd (upd (upd (upd ρ x1 md d1) x2 md d2) x3 md d3) x4 md d4) x5 md d5) rest P)
    (h1 : storable env x1 = true := by rfl) (h2 : storable env x2 = true := by rfl) (h3 : storable env x3 = true := by rfl) (h4 : storable env x4 = true := by rfl) (h5 : storable env x5 = true := by rfl)
    (hs : swapsWithSole [.Tuple [.Name x1 p1, .Name x2 p2, .Name x3 p3, .Name x4 p4, .Name x5 p5] n tpos] value pos.line env = pure false := by rfl) (hw : swappedStores [.Tuple [.Name x1 p1, .Name x2 p2, .Name x3 p3, .Name x4 p4, .Name x5 p5] n tpos] value env = pure none := by rfl) (hnl : noLent own = true := by rfl) :
    Ex C k env own ρ (.Assign [.Tuple [.Name x1 p1, .Name x2 p2, .Name x3 p3, .Name x4 p4, .Name x5 p5] n tpos] value pos :: rest) P :=
  Ex.unpack (ns := [(x1, p1), (x2, p2), (x3, p3), (x4, p4), (x5, p5)]) he rfl h (by simp [h1, h2, h3, h4, h5]) hs hw hnl
theorem Asg.tuple2 (h1 : storable env x1 = true := by rfl) (h2 : storable env x2 = true := by rfl) (hnl : noLent own = true := by rfl) : Asg C k env own ρ (.Tuple [.Name x1 p1, .Name x2 p2] n pos) md (.tuple [d1, d2]) (less (less own x1) x2) (upd (upd ρ x1 md d1) x2 md d2) :=
  Asg.tuple (ns := [(x1, p1), (x2, p2)]) rfl (by simp [h1, h2]) hnl
theorem Asg.tuple3 (h1 : storable env x1 = true := by rfl) (h2 : storable env x2 = true := by rfl) (h3 : storable env x3 = true := by rfl) (hnl : noLent own = true := by rfl) : Asg C k env own ρ (.Tuple [.Name x1 p1, .Name x2 p2, .Name x3 p3] n pos) md (.tuple [d1, d2, d3]) (less (less (less own x1) x2) x3) (upd (upd (upd ρ x1 md d1) x2 md d2) x3 md d3) :=
  Asg.tuple (ns := [(x1, p1), (x2, p2), (x3, p3)]) rfl (by simp [h1, h2, h3]) hnl
end
end Mine

namespace Mine
open PySem PyProof.Rows
section
variable {C : Cx} {k : Nat} {env : Env} {own : List Str} {ρ : DEnv} {rest body : List Stmt} {P : Out → Prop} {iter : Expr} {pos tpos : Pos} {x : Str} {md : Bool}
/-- for x in a list of things, with break -/
theorem Ex.forSB {α β : Type} {xs : List β} {g : β → PyData} (hi : EvI C k env own ρ iter md (xs.map g)) (O : List Str) (Γ : α → DCtx) (Iv : Nat → α → Prop) (Bv : α → Prop) (a₀ : α) (h0 : own = O) (h0' : All ρ (Γ a₀)) (hI : Iv 0 a₀) (hx : storable env x = true) (ho : less O x = O)
    (turn : ∀ (i : Nat) (h : i < xs.length) (a : α), Iv i a → Ex C k env O (upd (mk (Γ a)) x md (g xs[i])) body (fun o => match o with
      | .next own ρ | .cont own ρ => own = O ∧ ∃ a', Iv (i + 1) a' ∧ All ρ (Γ a')
      | .brk own ρ => own = O ∧ ∃ a', Bv a' ∧ All ρ (Γ a')
      | .ret md d => P (.ret md d)))
    (done : ∀ a, Iv xs.length a → Ex C k env O (mk (Γ a)) rest P) (brk : ∀ a, Bv a → Ex C k env O (mk (Γ a)) rest P) (hs : ∀ x, foldedSetIterable iter env x = pure x) (hnl : noLent O = true := by rfl) : Ex C k env own ρ (.For (.Name x tpos) iter body [] pos :: rest) P := by
  refine Ex.for_ hi (fun i own ρ => own = O ∧ ∃ a, Iv i a ∧ All ρ (Γ a)) (fun _ own ρ => own = O ∧ ∃ a, Bv a ∧ All ρ (Γ a)) ⟨h0, a₀, hI, h0'⟩ (fun i d own ρ hd hI => ?_) (fun own ρ hI => ?_) (fun i own ρ hI => ?_) hs (fun i own ρ hI => by rw [hI.1]; exact hnl)
  · obtain ⟨e, a, hIa, ha⟩ := hI
    subst e
    have hlt : i < xs.length := by
      rcases Nat.lt_or_ge i xs.length with h | h
      · exact h
      · rw [List.getElem?_eq_none (by rw [List.length_map]; exact h)] at hd; cases hd
    rw [List.getElem?_map, List.getElem?_eq_getElem hlt] at hd
    cases hd
    have asg : Asg C k env own (mk (Γ a)) (.Name x tpos) md (g xs[i]) (less own x) (upd (mk (Γ a)) x md (g xs[i])) := Asg.name hx
    refine ⟨less own x, _, ⟨asg.1, fun A hN ok s₀ Kp W s v Q E S y q => asg.2 A hN ok s₀ Kp W s v Q E (S.forget ha.sub) y q⟩, ?_⟩
    rw [ho]
    refine (turn i hlt a hIa).mono fun o ho => ?_
    cases o <;> exact ho
  · obtain ⟨e, a, hIa, ha⟩ := hI
    subst e
    rw [List.length_map] at hIa
    exact Ex.forget ha.sub (done a hIa)
  · obtain ⟨e, a, hIa, ha⟩ := hI
    subst e
    exact Ex.forget ha.sub (brk a hIa)
end

section
variable {z : Str} {C : Cx} {k : Nat} {env : Env} {own : List Str} {ρ : DEnv} {rest body : List Stmt} {P : Out → Prop} {iter e t elt : Expr} {pos tpos npos cpos spos py : Pos} {x y : Str} {md : Bool} {scope : Scope} {cl : List (Str × Addr)}
theorem ExW.ctx (Γ : DCtx) (h : All ρ Γ) (e : ExW z C k env own (mk Γ) body P) : ExW z C k env own ρ body P := ExW.forget h.sub e
/-- for x in a list of things; the own list z stays where it lies -/
theorem ExW.forS {α β : Type} {xs : List β} {g : β → PyData} (hzx : z ≠ x) (hi : EvI C k env own ρ iter md (xs.map g)) (O : List Str) (hzO : z ∈ O) (Γ : α → DCtx) (Iv : Nat → α → Prop) (a₀ : α) (h0 : own = O) (h0' : All ρ (Γ a₀)) (hI : Iv 0 a₀) (hx : storable env x = true) (ho : less O x = O)
    (turn : ∀ (i : Nat) (h : i < xs.length) (a : α), Iv i a → ExW z C k env O (upd (mk (Γ a)) x md (g xs[i])) body (fun o => match o with
      | .next own ρ | .cont own ρ => own = O ∧ ∃ a', Iv (i + 1) a' ∧ All ρ (Γ a')
      | .brk _ _ => False
      | .ret md d => P (.ret md d)))
    (done : ∀ a, Iv xs.length a → ExW z C k env O (mk (Γ a)) rest P) (hs : ∀ x, foldedSetIterable iter env x = pure x) (hnl : noLent O = true := by rfl) : ExW z C k env own ρ (.For (.Name x tpos) iter body [] pos :: rest) P := by
  refine ExW.for_ hzx hi (fun i own ρ => own = O ∧ ∃ a, Iv i a ∧ All ρ (Γ a)) ⟨h0, a₀, hI, h0'⟩ (fun i d own ρ hd hI => ?_) (fun own ρ hI => ?_) hx hs (fun i own ρ hI => by rw [hI.1]; exact hnl)
  · obtain ⟨e, a, hIa, ha⟩ := hI
    subst e
    have hlt : i < xs.length := by
      rcases Nat.lt_or_ge i xs.length with h | h
      · exact h
      · rw [List.getElem?_eq_none (by rw [List.length_map]; exact h)] at hd; cases hd
    rw [List.getElem?_map, List.getElem?_eq_getElem hlt] at hd
    cases hd
    refine ⟨by rw [ho]; exact hzO, ?_⟩
    rw [ho]
    have tt := turn i hlt a hIa
    refine ExW.forget (ρ' := upd (mk (Γ a)) x md (g xs[i])) (fun y v e => ?_) (fun A hN ok s₀ Kp W s Q E a₀ hw S f => tt A hN ok s₀ Kp W s Q E a₀ hw S { next := fun own W ρ s p => f.next own W ρ s p, brk := fun own W ρ s p => f.brk own W ρ s p, cont := fun own W ρ s p => f.cont own W ρ s p, ret := fun md d v s p => f.ret md d v s p })
    unfold upd at e ⊢
    split at e
    · rename_i h; rw [if_pos h]; exact e
    · rename_i h; rw [if_neg h]; exact ha.sub y v e
  · obtain ⟨e, a, hIa, ha⟩ := hI
    subst e
    rw [List.length_map] at hIa
    exact ExW.forget ha.sub (done a hIa)
/-- y = [elt for x in range(e) if t] -/
theorem ExW.asgRF {n : Int} (hzy : z ≠ y) (p : Nat → Bool) (g : Nat → PyData) (B : Bis C) (hr : EvB C k env own ρ e false (.int n)) (hn : n ≤ 1000000) (hlo : -1000000 ≤ n) (hk : env.kindOf "range" = some .globalImplicit) (he : starEach [e] env = (false, eval e env) :: starEach [] env)
    (hcl : closureFor scope env = pure cl) (hS : compB env scope cl (freeOf scope) own [x] = true) (hfl : (freeOf scope).map (fun y => cl.lookup y) = (freeOf scope).map (fun y => env.cells.lookup y)) (hs : ∀ y, foldedSetIterable (.Call (.Name "range" npos) [e] [] cpos) env y = pure y) (hx : storable env y = true)
    (hsw : swapsWith (.ListComp elt [⟨.Name x tpos, .Call (.Name "range" npos) [e] [] cpos, [t], 0⟩] scope pos) (some (.Name y py)) spos.line env = pure true)
    (hstep : ∀ i : Nat, (i : Int) < n → ∀ L, Tst C k (compEnvC scope cl L env) own (compR [(x, .int (i : Int))] false (freeOf scope) ρ) t (p i) ∧ Ev C k (compEnvC scope cl L env) own (compR [(x, .int (i : Int))] false (freeOf scope) ρ) elt md (g i))
    (h : ExW z C k env (y :: less own y) (upd ρ y md (.list (((List.range n.toNat).filter p).map g))) rest P) :
    ExW z C k env own ρ (.Assign [.Name y py] (.ListComp elt [⟨.Name x tpos, .Call (.Name "range" npos) [e] [] cpos, [t], 0⟩] scope pos) spos :: rest) P := by
  have Sc := compS hS hfl
  refine ExW.plain (fun A hN ok s₀ Kp W s Q E S q => ?_) h
  rw [exec_Assign_Name_used _ _ _ _ hsw]
  refine wpAny_bind (wpAny_standAt (wpAny_bind ?_))
  show wpAny _ A (do let _ ← comprehension (.ListComp elt [⟨.Name x tpos, .Call (.Name "range" npos) [e] [] cpos, [t], 0⟩] scope pos) scope env _ (newList []) false (eval (.Call (.Name "range" npos) [e] [] cpos) env) (some (PySem.assign (.Name y py) env))) _ _ s
  refine wpAny_bind (wpAny_mono (wpAny_comprehension_free (use := some (PySem.assign (.Name y py) env)) (Q := fun _ s' => Q .next s') rfl hs hcl Sc.kind Sc.names (EvI.rangeB (md := false) B hr hn hk he hlo (npos := npos) (pos := cpos) A ok W s _ E S.cur fun I fp Pv St F h' tk u fr X F0 st0 => ?_)) (fun _ s' hq => wpAny_pure (wpAny_pure hq)) fun _ _ e => e)
  refine comp_core (RR := fun acc L => compPost (model C.prog C.w) A E (some (PySem.assign (.Name y py) env)) (fun _ s' => Q .next s') acc L) S.cur u fr X F0 st0 (by rw [rangeD_length, sizeLine_eq]; omega) (comp_rangeF Sc hstep (tpos := tpos)) Sc.fv Sc.cell Sc.kind fun D L vs n h₂ tk₂ m' frD frL hDL hn hk hD hr => ?_
  rw [rangeD_filter] at hr
  exact use_store S hx (fun W' s' hW S' => q W' s' (hW z hzy) S') u fr frD frL hDL hn hk hD hr
end
end Mine

namespace Mine
open PySem PyProof.Rows

/-- a comprehension's frame with one cell -/
theorem newEnv_cell {M : Model} {A : Around} {E : Value → Shared → Prop} {s : Shared} {scope : Scope} {cl : List (Str × Addr)} {x : Str} {env : Env} {Q : Env → Shared → Prop} (hcf : ∀ n, cellsFrom n scope.names cl = (x, n) :: cl)
    (hpc : ∀ h : Heap, pushCells h scope.names = h.push { cls := .type "cell", data := .cell none })
    (hQ : Q (newEnv scope s.heap.objs.size env.globals ((x, s.heap.objs.size + 1) :: cl) env.qual none .none (some env) builtinsNs) { s with heap := (s.heap.push { cls := .type "dict", data := .dict #[] }).push { cls := .type "cell", data := .cell none } }) :
    wpAny M A (newFunctionEnv scope env.globals cl [] env.qual none .none (some env)) Q E s := by
  simp only [newFunctionEnv, Option.isSome_some, if_true]
  refine wpAny_bind (wpAny_alloc ?_)
  refine wpAny_bind (wpAny_layCells _ (fun name kind cells => by cases hkc : kind == NameKind.cell <;> simp [hkc]) _ _ _ _ ?_)
  rw [hcf, hpc]
  rw [List.forIn_nil]
  refine wpAny_bind (wpAny_pure (wpAny_pure ?_))
  have e : ({ s with heap := s.heap.push { cls := .type "dict", data := .dict #[] } } : Shared).heap.objs.size = s.heap.objs.size + 1 := Heap.size_push ..
  rw [e]
  exact hQ

section
variable {C : Cx} {k : Nat} {env : Env} {own : List Str} {ρ : DEnv} {elt iter : Expr} {scope : Scope} {pos px : Pos} {md mdi : Bool} {items : List PyData} {cl : List (Str × Addr)} {fv : List Str} {x : Str}
theorem comp_coreC {A ok W} {s : Shared} {hp : Heap} {tkp : Nat} {E : Value → Shared → Prop} {I : Addr} {fp : List Addr} {Pv : Nat → Value → Prop} {St : Nat → Heap → Prop} {F : (Str → Option Addr) → Heap → Prop} {f : PyData → PyData}
    (c : Cur C k A ok W own env ρ s) (u : Up s.heap hp) (frI : s.heap.get? I = none) (X : Source C A ok mdi items I fp Pv St F) (F0 : F W hp) (st0 : St 0 hp) (hsz : items.length ≤ sizeLine)
    (hcf : ∀ n, cellsFrom n scope.names cl = (x, n) :: cl) (hpc : ∀ h : Heap, pushCells h scope.names = h.push { cls := .type "cell", data := .cell none })
    (hxk : (relabel scope env).names.lookup x = some .cell) (hxo : own.contains x = false) (hxf : x ∉ fv)
    (hstep : ∀ d ∈ items, ∀ L, Ev C k (compEnvC scope ((x, L + 1) :: cl) L env) own (compR [(x, d)] mdi fv ρ) elt md (f d)) (hfv : FvOk env scope cl fv) (hkind : scope.kind = .function) {RR : Value → Addr → Result → Shared → Prop}
    (hRR : ∀ D L vs n h' tk m', hp.get? D = none → hp.get? L = none → D ≠ L → h'.Ns L m' → (∀ b o, b ≠ I → hp.get? b = some o → h'.get? b = some o) → h'.get? D = some (lst vs n) →
      RepAll (fun b => okW ok W md b ∧ b ≠ D) h' (items.map f) vs → RR (.ref D) L (.ok .next) { s with heap := h', toks := tk }) :
    wpAny (model C.prog C.w) A (newList []) (fun acc s₃ => wpAny (model C.prog C.w) A (newFunctionEnv scope env.globals cl [] env.qual none .none (some env)) (fun cenv s₄ =>
      codeAny (model C.prog C.w) A (.compStart (.ListComp elt [⟨.Name x px, iter, [], 0⟩] scope pos) 0 (.ref I) acc { cenv with scope := relabel scope env }) (RR acc cenv.locals) s₄) E s₃) E { s with heap := hp, toks := tkp } := by
  refine wpAny_newObj_type (newEnv_cell hcf hpc ?_)
  dsimp only
  generalize hH2 : hp.push { cls := .type "list", dict := none, data := .seq ([] : List Value).toArray } = H2
  generalize hDe : hp.objs.size = D at *
  generalize hLe : H2.objs.size = L at *
  have hL : L = D + 1 := by rw [← hLe, ← hH2, Heap.size_push, hDe]
  have hDL : D ≠ L := by omega
  generalize hh1 : (H2.push { cls := .type "dict", data := .dict #[] }).push { cls := .type "cell", data := .cell none } = h₁
  have hzL : (H2.push { cls := .type "dict", data := .dict #[] }).objs.size = L + 1 := by rw [Heap.size_push, hLe]
  have frD : hp.get? D = none := Heap.get?_none_of_le (by omega)
  have frL : hp.get? L = none := Heap.get?_none_of_le (by omega)
  have frC : hp.get? (L + 1) = none := Heap.get?_none_of_le (by omega)
  have belowD : ∀ b o, hp.get? b = some o → b ≠ D := fun b o e q => by rw [q, frD] at e; cases e
  have belowL : ∀ b o, hp.get? b = some o → b ≠ L := fun b o e q => by rw [q, frL] at e; cases e
  have belowC : ∀ b o, hp.get? b = some o → b ≠ L + 1 := fun b o e q => by rw [q, frC] at e; cases e
  have up2 : ∀ b o, H2.get? b = some o → h₁.get? b = some o := fun b o e => hh1 ▸ Heap.get?_push_of_some _ (Heap.get?_push_of_some _ e)
  have old : ∀ b o, hp.get? b = some o → h₁.get? b = some o := fun b o e => up2 b o (hH2 ▸ Heap.get?_push_of_some _ e)
  have hacc : h₁.get? D = some (lst [] 0) := up2 _ _ (hH2 ▸ hDe ▸ Heap.get?_push_size _ rfl)
  have hns₁ : h₁.Ns L (fun _ => none) := by
    rw [← hh1, ← hLe]
    exact (Heap.Ns.new H2 (.type "dict")).keeps fun b o e => Heap.get?_push_of_some _ e
  have hcell₁ : h₁.IsCell (L + 1) none := by
    refine ⟨{ cls := .type "cell", data := .cell none }, ?_, rfl⟩
    rw [← hh1, ← hzL]
    exact Heap.get?_push_size _ rfl
  obtain ⟨oI, xsI, hoI, hdI, _⟩ := X.fld _ _ st0
  have hID : I ≠ D := belowD I _ hoI
  have hIL : I ≠ L := belowL I _ hoI
  have hIC : I ≠ L + 1 := belowC I _ hoI
  have hDC : D ≠ L + 1 := by omega
  have hLC : L ≠ L + 1 := by omega
  have nlI : ∀ vs n, hp.get? I ≠ some (lst vs n) := fun vs n e => by rw [hoI] at e; cases e; cases hdI
  have ntI : ∀ vs n, hp.get? I ≠ some (tup vs n) := fun vs n e => by rw [hoI] at e; cases e; cases hdI
  have upS : ∀ h', (∀ b o, b ≠ I → hp.get? b = some o → h'.get? b = some o) → Up s.heap h' := fun h' hk b o e => hk b o (fun q => by rw [q, frI] at e; cases e) (u b o e)
  have loop : ∀ s₃ : Shared, s₃ = { s with heap := h₁, toks := tkp } →
      codeAny (model C.prog C.w) A (.compLoop (.ListComp elt [⟨.Name x px, iter, [], 0⟩] scope pos) 0 (.ref I) (.ref D) (compEnvC scope ((x, L + 1) :: cl) L env)) (RR (.ref D) L) s₃ := by
    rintro s₃ rfl
    refine compLoop_rule (fun n s' => ∃ i h' tk m' vs c' cv, n = items.length + 1 - i ∧ i ≤ items.length ∧ s' = { s with heap := h', toks := tk } ∧ h'.Ns L m' ∧ h'.IsCell (L + 1) cv ∧ (∀ b o, b ≠ I → hp.get? b = some o → h'.get? b = some o) ∧ St i h' ∧ h'.get? D = some (lst vs c') ∧
      RepAll (fun b => okW ok W md b ∧ b ≠ D) h' ((items.take i).map f) vs) ?_ (items.length + 1)
      ⟨0, h₁, _, _, [], 0, _, by omega, Nat.zero_le _, rfl, hns₁, hcell₁, fun b o _ e => old b o e, X.wk.frame 0 _ _ st0 fun b hb o e => old _ _ e, hacc, by simpa using RepAll.nil⟩
    rintro n s' ⟨i, h', tk, m', vs, c', cv, rfl, hle, rfl, hn, hcv, hk, st, hD, hr⟩
    obtain ⟨oI', xsI', hoI', hdI', _⟩ := X.fld _ _ st
    have nlI' : ∀ vs n, h'.get? I ≠ some (lst vs n) := fun vs n e => by rw [hoI'] at e; cases e; cases hdI'
    have ntI' : ∀ vs n, h'.get? I ≠ some (tup vs n) := fun vs n e => by rw [hoI'] at e; cases e; cases hdI'
    by_cases hlt : i < items.length
    · refine X.wk.item i _ _ _ hlt st fun v h₂ tk₂ hP st₂ hk₂ => ?_
      have hk₂' : ∀ b o, b ≠ I → h'.get? b = some o → h₂.get? b = some o := fun b o hb e => hk₂ b o (by simpa using hb) e
      have hd : items[i]? = some items[i] := List.getElem?_eq_getElem hlt
      refine X.go (s := { s with heap := h₂, toks := tk₂ }) (i := i + 1) st₂ ?_
      have hel := hstep items[i] (List.getElem_mem hlt) L
      have hkA : ∀ b o, b ≠ I → hp.get? b = some o → h₂.get? b = some o := fun b o hb e => hk₂' b o hb (hk b o hb e)
      have hn₂ : h₂.Ns L m' := hn.at' fun o e => hk₂' L o (Ne.symm hIL) e
      have hcv₂ : h₂.IsCell (L + 1) cv := by obtain ⟨o, e, r⟩ := hcv; exact ⟨o, hk₂' _ o (Ne.symm hIC) e, r⟩
      have ri : Rep (fun b => okW ok W mdi b ∧ b ≠ D) h₂ items[i] v := by
        have r0 := (X.item i v _ W hp hP hd F0).there
        refine Rep.gen (fun b vs n e o => ⟨hkA b _ (fun q => nlI vs n (q ▸ e)) e, o.1, fun q => o.2 (q ▸ frD)⟩) (fun b vs n e => hkA b _ (fun q => ntI vs n (q ▸ e)) e) r0
      refine wpAny_assign_Name (wpAny_storeName_cell (s := { s with heap := h₂, toks := tk₂ }) (c := L + 1) hkind hxk (by show List.lookup x ((x, L + 1) :: cl) = _; rw [List.lookup_cons, beq_self_eq_true]) hcv₂ fun h₃ hcv₃ hs₃ => ?_)
      have nlC := cell_no_lst hcv₂
      have hk₃' : ∀ b o, b ≠ L + 1 → h₂.get? b = some o → h₃.get? b = some o := fun b o hb e => hs₃.extBut b o hb e
      have hn₃ : h₃.Ns L m' := hn₂.at' fun o e => hk₃' L o hLC e
      have hkB : ∀ b o, b ≠ I → hp.get? b = some o → h₃.get? b = some o := fun b o hb e => hk₃' b o (belowC b o e) (hkA b o hb e)
      have uS := upS h₃ hkB
      have hD₃ : h₃.get? D = some (lst vs c') := hk₃' D _ hDC (hk₂' D _ (Ne.symm hID) hD)
      have cur₃ : Cur C k A (fun m a => ok m a ∧ a ≠ D) W own (compEnvC scope ((x, L + 1) :: cl) L env) (compR [(x, items[i])] mdi fv ρ) { s with heap := h₃, toks := tk₂ } := by
        refine { room := c.room, top := c.top, eok := ⟨hkind, c.eok.glob, c.eok.bi⟩, up := c.up.trans uS, new := fun m a e => ⟨c.new m a (uS.none e), fun q => ?_⟩, le := fun a z => ⟨c.le a z.1, z.2⟩, inj := c.inj, own := fun x a e => ⟨(c.own x a e).1, fun q => (c.own x a e).2.1 (uS.none q), (c.own x a e).2.2, fun q => (c.own x a e).2.1 (q ▸ u.none frD)⟩, has := fun y my dy e => ?_ }
        · have e : h₃.get? a = none := e
          rw [q, hD₃] at e; cases e
        · unfold compR at e
          cases hl : ([(x, items[i])] : List (Str × PyData)).lookup y with
          | some d' =>
            rw [hl] at e; cases e
            simp only [List.lookup_cons, List.lookup_nil] at hl
            cases hb : y == x with
            | false => rw [hb] at hl; cases hl
            | true =>
              rw [hb] at hl; cases hl
              have : y = x := by simpa using hb
              subst this
              refine ⟨v, .inr ⟨.inl hxk, L + 1, by show List.lookup y ((y, L + 1) :: cl) = _; rw [List.lookup_cons, beq_self_eq_true], hcv₃⟩, ?_⟩
              have hW : W y = none := by
                cases hw : W y with
                | none => rfl
                | some a =>
                  have := (c.own y a hw).1
                  rw [← List.contains_iff_mem, hxo] at this
                  cases this
              unfold Holds1
              rw [hW]
              exact Rep.gen (fun b vs n e o => ⟨hk₃' b _ (fun q => nlC.1 vs n (q ▸ e)) e, ⟨o.1.1, o.2⟩, o.1.2⟩) (fun b vs n e => hk₃' b _ (fun q => nlC.2 vs n (q ▸ e)) e) ri
          | none =>
            rw [hl] at e
            dsimp only at e
            split at e
            · rename_i hc
              have hyf : y ∈ fv := by simpa using hc
              have hyx : y ≠ x := fun q => hxf (q ▸ hyf)
              obtain ⟨q1, q2, q3⟩ := hfv.mem hyf
              obtain ⟨v', lk, z⟩ := c.has y my dy e
              refine ⟨v', ?_, ?_⟩
              · rcases lk with ⟨kl, _⟩ | ⟨kc, cc, ec, ic⟩
                · rw [kl] at q2; cases q2
                · refine .inr ⟨?_, cc, by show List.lookup y ((x, L + 1) :: cl) = _; rw [List.lookup_cons, beq_false_of_ne hyx, q3]; exact ec, ic.keeps uS⟩
                  rcases Bool.or_eq_true_iff.mp q1 with q | q
                  · exact .inl (eq_of_beq q)
                  · exact .inr (eq_of_beq q)
              · have av : ∀ {m : Bool} {b : Addr}, okW ok W m b ∧ s.heap.get? b ≠ none → okW (fun m a => ok m a ∧ a ≠ D) W m b := fun z => ⟨⟨z.1.1, fun q => z.2 (u.none (q ▸ frD))⟩, z.1.2⟩
                unfold Holds1 at z ⊢
                split at z
                · exact (z.there.imp fun b z => av z).up uS
                · obtain ⟨e1, ds', vs', n', e2, g, r⟩ := z
                  exact ⟨e1, ds', vs', n', e2, uS _ _ g, (r.there.imp fun b z => av z).up uS⟩
            · cases e
      have stay : ∀ h, (∀ b o, b ≠ L + 1 → b ≠ D → h₂.get? b = some o → h.get? b = some o) → St (i + 1) h := fun h hh => X.wk.frame _ _ _ st₂ fun b hb o e => by
        by_cases hbI : b = I
        · subst hbI; exact hh _ _ hIC hID e
        · obtain ⟨vs', n', g, _⟩ := X.oth b hb hbI W _ F0
          exact hh _ _ (belowC _ _ g) (belowD _ _ g) e
      have hr₃ : RepAll (fun b => okW ok W md b ∧ b ≠ D) h₃ ((items.take i).map f) vs := by
        refine RepAll.gen (fun b vs n e o => ⟨?_, o⟩) (fun b vs n e => ?_) hr
        · have e2 := hk₂' b _ (fun q => nlI' vs n (q ▸ e)) e
          exact hk₃' b _ (fun q => nlC.1 vs n (q ▸ e2)) e2
        · have e2 := hk₂' b _ (fun q => ntI' vs n (q ▸ e)) e
          exact hk₃' b _ (fun q => nlC.2 vs n (q ▸ e2)) e2
      have etake : items.take (i + 1) = items.take i ++ [items[i]] := by rw [List.take_add_one, hd]; rfl
      refine wpAny_tests_nil ?_
      rw [if_pos rfl]
      refine hel A _ W _ _ _ cur₃ fun y h₅ tk₅ u₅ ry => ?_
      have hlen : vs.length ≤ i := by
        rw [hr.length, List.length_map, List.length_take]; omega
      refine wpAny_list_append_plain (s := { s with heap := h₅, toks := tk₅ }) ⟨c', u₅ _ _ hD₃⟩ (fun h₆ pl hs => ?_) (by rw [List.size_toArray]; omega)
      obtain ⟨c'', g''⟩ := pl
      have g'' : h₆.get? D = some (lst (vs ++ [y]) c'') := by rw [g'']; simp
      have k6 : ∀ b o, b ≠ D → h₃.get? b = some o → h₆.get? b = some o := fun b o hb e => hs.extBut b o hb (u₅ _ _ e)
      refine ⟨items.length + 1 - (i + 1), by omega, i + 1, h₆, tk₅, m', vs ++ [y], c'', some v, rfl, hlt, rfl, (hn₃.keeps u₅).sameBut hs (Ne.symm hDL), by obtain ⟨o, e, r⟩ := hcv₃; exact ⟨o, k6 _ o (Ne.symm hDC) e, r⟩, fun b o hb e => k6 b o (belowD b o e) (hkB b o hb e), stay h₆ fun b o h1 h2 e => k6 b o h2 (hk₃' b o h1 e), g'', ?_⟩
      rw [etake, List.map_append]
      have mv : ∀ {d : PyData} {v : Value}, Rep (fun b => okW ok W md b ∧ b ≠ D) h₅ d v → Rep (fun b => okW ok W md b ∧ b ≠ D) h₆ d v := fun z => Rep.gen (fun b vs n e o => ⟨hs.extBut b _ o.2 e, o⟩) (fun b vs' n' e => hs.extBut b _ (fun q => by
        rw [q, u₅ _ _ hD₃] at e
        exact absurd (show Value.type "list" = Value.type "tuple" from congrArg Obj.cls (Option.some.inj e)) (by decide)) e) z
      have mvA : ∀ {ds : List PyData} {vs : List Value}, RepAll (fun b => okW ok W md b ∧ b ≠ D) h₅ ds vs → RepAll (fun b => okW ok W md b ∧ b ≠ D) h₆ ds vs := fun z => RepAll.gen (fun b vs n e o => ⟨hs.extBut b _ o.2 e, o⟩) (fun b vs' n' e => hs.extBut b _ (fun q => by
        rw [q, u₅ _ _ hD₃] at e
        exact absurd (show Value.type "list" = Value.type "tuple" from congrArg Obj.cls (Option.some.inj e)) (by decide)) e) z
      exact (mvA (hr₃.up u₅)).append (.one (mv (ry.imp fun b z => ⟨⟨z.1.1, z.2⟩, z.1.2⟩)))
    · have hin : i = items.length := by omega
      subst hin
      refine X.wk.done _ _ _ st fun h₂ tk₂ hk₂ => ?_
      have hk₂' : ∀ b o, b ≠ I → h'.get? b = some o → h₂.get? b = some o := fun b o hb e => hk₂ b o (by simpa using hb) e
      rw [List.take_length] at hr
      exact hRR D L vs c' h₂ tk₂ m' frD frL hDL (hn.at' fun o e => hk₂' L o (Ne.symm hIL) e) (fun b o hb e => hk₂' b o hb (hk b o hb e)) (hk₂' D _ (Ne.symm hID) hD) (RepAll.gen (fun b vs n e o => ⟨hk₂' b _ (fun q => nlI' vs n (q ▸ e)) e, o⟩) (fun b vs n e => hk₂' b _ (fun q => ntI' vs n (q ▸ e)) e) hr)
  exact codeAny_compStart_list (loop _ rfl) (X.wk.self 0 _ _ _ (X.wk.frame 0 _ _ st0 fun b hb o e => old _ _ e) (loop _ rfl))
end

section
variable {C : Cx} {k : Nat} {env : Env} {own : List Str} {ρ : DEnv} {e elt : Expr} {md : Bool} {pos npos cpos tpos spos py : Pos} {x y : Str} {scope : Scope} {cl : List (Str × Addr)} {rest : List Stmt} {P : Out → Prop}
/-- y = [elt for x in range(e)], x a cell of the comprehension -/
theorem Ex.asgRC {n : Int} (g : Nat → PyData) (B : Bis C) (hr : EvB C k env own ρ e false (.int n)) (hn : n ≤ 1000000) (hlo : -1000000 ≤ n) (hk : env.kindOf "range" = some .globalImplicit) (he : starEach [e] env = (false, eval e env) :: starEach [] env)
    (hcl : closureFor scope env = pure cl) (hcf : ∀ n, cellsFrom n scope.names cl = (x, n) :: cl) (hpc : ∀ h : Heap, pushCells h scope.names = h.push { cls := .type "cell", data := .cell none })
    (hxk : (relabel scope env).names.lookup x = some .cell) (hxo : own.contains x = false) (hxf : (freeOf scope).contains x = false)
    (hS : ((freeOf scope).all fun y => ((relabel scope env).names.lookup y == some .cell || (relabel scope env).names.lookup y == some .free) && !(env.kindOf y == some .local)) = true)
    (hfl : (freeOf scope).map (fun y => cl.lookup y) = (freeOf scope).map (fun y => env.cells.lookup y)) (hkind : scope.kind = .function) (hnames : ∀ y ∈ scope.names, y.2 = .local → scope.names.lookup y.1 = some .local)
    (hs : ∀ y, foldedSetIterable (.Call (.Name "range" npos) [e] [] cpos) env y = pure y) (hx : storable env y = true)
    (hsw : swapsWith (.ListComp elt [⟨.Name x tpos, .Call (.Name "range" npos) [e] [] cpos, [], 0⟩] scope pos) (some (.Name y py)) spos.line env = pure true)
    (hstep : ∀ i : Nat, (i : Int) < n → ∀ L, Ev C k (compEnvC scope ((x, L + 1) :: cl) L env) own (compR [(x, .int (i : Int))] false (freeOf scope) ρ) elt md (g i))
    (h : Ex C k env (y :: less own y) (upd ρ y md (.list ((List.range n.toNat).map g))) rest P) :
    Ex C k env own ρ (.Assign [.Name y py] (.ListComp elt [⟨.Name x tpos, .Call (.Name "range" npos) [e] [] cpos, [], 0⟩] scope pos) spos :: rest) P := by
  have hfv : FvOk env scope cl (freeOf scope) := by
    generalize freeOf scope = fv at *
    clear hxf h hstep
    induction fv with
    | nil => trivial
    | cons y r ih =>
      rw [List.all_cons, Bool.and_eq_true] at hS
      obtain ⟨a, b⟩ := hS
      rw [Bool.and_eq_true] at a
      rw [List.map_cons, List.map_cons] at hfl
      exact ⟨⟨a.1, by simpa using a.2, List.head_eq_of_cons_eq hfl⟩, ih b (List.tail_eq_of_cons_eq hfl)⟩
  refine Ex.plain (fun A hN ok s₀ Kp W s Q E S q => ?_) h
  rw [exec_Assign_Name_used _ _ _ _ hsw]
  refine wpAny_bind (wpAny_standAt (wpAny_bind ?_))
  show wpAny _ A (do let _ ← comprehension (.ListComp elt [⟨.Name x tpos, .Call (.Name "range" npos) [e] [] cpos, [], 0⟩] scope pos) scope env _ (newList []) false (eval (.Call (.Name "range" npos) [e] [] cpos) env) (some (PySem.assign (.Name y py) env))) _ _ s
  refine wpAny_bind (wpAny_mono (wpAny_comprehension_free (use := some (PySem.assign (.Name y py) env)) (Q := fun _ s' => Q .next s') rfl hs hcl hkind hnames (EvI.rangeB (md := false) B hr hn hk he hlo (npos := npos) (pos := cpos) A ok W s _ E S.cur fun I fp Pv St F h' tk u fr X F0 st0 => ?_)) (fun _ s' hq => wpAny_pure (wpAny_pure hq)) fun _ _ e => e)
  refine comp_coreC (md := md) (f := natD g) (RR := fun acc L => compPost (model C.prog C.w) A E (some (PySem.assign (.Name y py) env)) (fun _ s' => Q .next s') acc L) S.cur u fr X F0 st0 (by rw [rangeD_length, sizeLine_eq]; omega) hcf hpc hxk hxo (by simpa using hxf) (fun d hd L => ?_) hfv hkind fun D L vs n h₂ tk₂ m' frD frL hDL hn hk hD hr => ?_
  · obtain ⟨i, hi, e⟩ := mem_rangeD hd
    subst e
    exact hstep i hi L
  · have e : ∀ N : Int, (rangeD N).map (natD g) = (List.range N.toNat).map g := fun N => by unfold rangeD; rw [List.map_map]; rfl
    rw [e] at hr
    exact use_store S hx (fun W' s' _ S' => q W' s' S') u fr frD frL hDL hn hk hD hr
end
end Mine

namespace Mine
open PySem PySem.W PyProof.Rows

/-- a list or a tuple of a written heap -/
def isSeqK (T : String) (o : Obj) : Option (List Value × Nat) := match o.cls, o.dict, o.data, o.slots.toList with
  | .type n, none, .seq vs c, [] => if n == T then some (vs.toList, c) else none
  | _, _, _, _ => none
theorem isSeqK_eq {T : String} {o : Obj} {vs : List Value} {c : Nat} (h : isSeqK T o = some (vs, c)) : o = { cls := .type T, dict := none, data := .seq vs.toArray c, slots := #[] } := by
  obtain ⟨cls, dict, data, slots⟩ := o
  unfold isSeqK at h
  dsimp only at h
  split at h
  · rename_i n vs' c' hs
    split at h
    · rename_i hn
      cases h
      have : n = T := by simpa using hn
      subst this
      have hs : slots = #[] := by simpa using hs
      subst hs
      simp
    · cases h
  · cases h
/-- the datum lies at the value in the written heap -/
def readK (K : Frag) : Nat → PyData → Value → Bool
  | 0, _, _ => false
  | _ + 1, .int i, .int j _ => i == j
  | _ + 1, .str x, .str y _ => x == y
  | f + 1, .list ds, .ref a => match (K.lookup a).bind (isSeqK "list") with
    | some (vs, _) => ds.length == vs.length && (ds.zip vs).all fun p => readK K f p.1 p.2
    | none => false
  | f + 1, .tuple ds, .ref a => match (K.lookup a).bind (isSeqK "tuple") with
    | some (vs, _) => ds.length == vs.length && (ds.zip vs).all fun p => readK K f p.1 p.2
    | none => false
  | _ + 1, _, _ => false
theorem repAll_zip {ok : Addr → Prop} {h : Heap} : ∀ {ds : List PyData} {vs : List Value}, ds.length = vs.length → (∀ p ∈ ds.zip vs, Rep ok h p.1 p.2) → RepAll ok h ds vs
  | [], [], _, _ => .nil
  | [], _ :: _, h, _ => by cases h
  | _ :: _, [], h, _ => by cases h
  | d :: ds, v :: vs, h, r => .cons (r (d, v) (List.mem_cons_self ..)) (repAll_zip (by simpa using h) fun p hp => r p (List.mem_cons_of_mem _ hp))
theorem readK_ok {K : Frag} {h : Heap} (X : K.In h) : ∀ (f : Nat) (d : PyData) (v : Value), readK K f d v = true → Rep (fun _ => True) h d v := by
  intro f
  induction f with
  | zero => intro d v e; cases e
  | succ f ih =>
    intro d v e
    unfold readK at e
    split at e
    · cases ‹_›
    · obtain rfl := eq_of_beq e; exact .int _ _
    · obtain rfl := eq_of_beq e; exact .str _ _
    · rename_i g ds a hg
      cases hg
      split at e
      · rename_i vs c hb
        obtain ⟨o, ho, hs⟩ := Option.bind_eq_some_iff.mp hb
        have := X _ _ ho
        rw [isSeqK_eq hs] at this
        rw [Bool.and_eq_true] at e
        exact .list this trivial (repAll_zip (by simpa using e.1) fun p hp => ih _ _ (List.all_eq_true.mp e.2 p hp))
      · cases e
    · rename_i g ds a hg
      cases hg
      split at e
      · rename_i vs c hb
        obtain ⟨o, ho, hs⟩ := Option.bind_eq_some_iff.mp hb
        have := X _ _ ho
        rw [isSeqK_eq hs] at this
        rw [Bool.and_eq_true] at e
        exact .tuple this (repAll_zip (by simpa using e.1) fun p hp => ih _ _ (List.all_eq_true.mp e.2 p hp))
      · cases e
    · cases e
/-- a name of the module in the written heap -/
def globK (K : Frag) (x : Str) : Option Value := match K.lookup mainGlobals with
  | some ⟨_, _, .dict es _, _⟩ => nsFind es x
  | _ => none
theorem globK_eq {K : Frag} {h : Heap} {mg : Str → Option Value} (X : K.In h) (hn : h.Ns mainGlobals mg) {x : Str} {v : Value} (e : globK K x = some v) : mg x = some v := by
  unfold globK at e
  split at e
  · rename_i o cls dict es ep sl hl
    obtain ⟨o', es', ep', ho, hd, _, hf⟩ := hn
    rw [X _ _ hl] at ho
    cases ho
    cases hd
    rw [← hf]; exact e
  · cases e
/-- data that the module keeps under a name -/
structure TabR (C : Cx) (x : Str) (d : PyData) : Prop where
  ex : ∃ v, C.mg x = some v ∧ Rep (fun _ => True) C.base d v
theorem tabR_of {K : Frag} {C : Cx} (X : K.In C.base) {x : Str} {d : PyData} (f : Nat) (h : ((globK K x).elim false fun v => readK K f d v) = true) : TabR C x d := by
  cases e : globK K x with
  | none => rw [e] at h; cases h
  | some v => rw [e] at h; exact ⟨v, globK_eq X C.g e, readK_ok X f d v h⟩
section
variable {C : Cx} {k : Nat} {env : Env} {own : List Str} {ρ : DEnv} {md : Bool} {pos npos : Pos} {i : Int} {x : Str} {slice : Expr}
/-- a row of a table of rows -/
theorem EvB.tabRow {α : Type} {xs : List (List α)} {g : α → PyData} (T : TabR C x (.list (xs.map fun ts => .list (ts.map g)))) (hg : ∀ (a : α) (ok ok' : Addr → Prop) (h : Heap) (v : Value), Rep ok h (g a) v → Rep ok' h (g a) v)
    (hi : EvB C k env own ρ slice false (.int i)) (h0 : 0 ≤ i ∧ i < xs.length) (hz : xs.length ≤ 1000) (hk : env.kindOf x = some .globalImplicit) (hd : (x == ("__debug__" : Str)) = false) (hs : ∀ o i, ∃ vs, subscripted slice false o i = operate vs (getItem o i)) :
    EvB C k env own ρ (.Subscript (.Name x npos) slice pos) md (.list ((xs.getD i.toNat []).map g)) := fun A ok W s Q E c q => by
  obtain ⟨v, hv, r⟩ := T.ex
  refine PyProof.Rows.Subscript_ ((EvK.glob (pos := npos) hv hk hd) A ok W s _ E c fun h₁ tk₁ u₁ => hi A ok W _ _ E (c.on u₁ tk₁) fun v' h' tk u y' => ?_)
  obtain ⟨t, rfl⟩ := y'.int_inv
  have r' := r.up (c.up.trans (u₁.trans u))
  cases r' with
  | @list a vs n _ gl _ rl =>
    have hil : Heap.IsList h' a vs.toArray := ⟨_, gl, rfl, _, rfl⟩
    have hlt : i.toNat < xs.length := by omega
    obtain ⟨w, hw, rw'⟩ := rl.get (k := i.toNat) (d := .list ((xs.getD i.toNat []).map g)) (by rw [List.getElem?_map, List.getD, List.getElem?_eq_getElem hlt]; rfl)
    refine seqTail (s := { s with heap := h', toks := tk }) hil.typeIs slot_list_getitem.lookup (wpAny_getItem_list hil h0.1 (by omega) (by simpa using hw) (q w h' tk (u₁.trans u) ?_)) (hs _ _)
    cases rw' with
    | @list b ws m _ gw _ rw2 =>
      refine ⟨b, ws, m, rfl, gw, ?_⟩
      generalize xs.getD i.toNat [] = ts at rw2
      clear gw hw
      induction ts generalizing ws with
      | nil => cases rw2; exact .nil
      | cons t ts ih =>
        cases rw2 with
        | cons r1 r2 => exact .cons (hg _ _ _ _ _ r1) (ih r2)
/-- l[i:j] -/
theorem EvF.mid {ds : List PyData} {l e1 e2 : Expr} {p : Pos} {i j : Int} (hl : EvB C k env own ρ l md (.list ds)) (h1 : EvB C k env own ρ e1 false (.int i)) (h2 : EvB C k env own ρ e2 false (.int j)) (h0 : 0 ≤ i) (hij : i ≤ j) (hj : j ≤ ds.length) (hz : Sz ds.length) :
    EvF C k env own ρ (.Subscript l (.Slice (some e1) (some e2) none p) pos) md ((ds.drop i.toNat).take (j - i).toNat) := by
  have := EvF.slice (p := p) (pos := pos) (lower := some e1) (upper := some e2) (lo := some i) (hi := some j) hl h1 h2 hz.out
  have q : slD ds (some i) (some j) = (ds.drop i.toNat).take (j - i).toNat := by
    have a1 : slA ds.length (some i) = i.toNat := by simp only [slA, if_neg (show ¬ i < 0 by omega)]; omega
    have a2 : slB ds.length (some j) = j.toNat := by simp only [slB, if_neg (show ¬ j < 0 by omega)]; omega
    unfold slD
    rw [a1, a2, show j.toNat - i.toNat = (j - i).toNat from by omega]
  rwa [q] at this
end
end Mine

namespace Mine
open PySem PySem.W PyProof.Rows
local macro_rules | `(tactic| walk_at "comp") => `(tactic| fail)
local macro_rules | `(tactic| walk_at "gd") => `(tactic| first
  | assumption
  | exact Gd.int
  | exact Gd.bool
  | exact Gd.none
  | exact Gd.str (by decide)
  | exact Gd.str (by kernel_rfl)
  | exact Gds.nil
  | exact Gds.ints
  | (refine' Gd.list ?_) <;> walk_at "gd"
  | (refine' Gd.tuple ?_) <;> walk_at "gd"
  | (refine' Gds.cons ?_ ?_) <;> walk_at "gd"
  | (refine' Gds.append ?_ ?_) <;> walk_at "gd"
  | (refine' Gds.map (fun _ => ?_)) <;> walk_at "gd")
local macro_rules | `(tactic| walk_at "call") => `(tactic| fail)
local macro_rules | `(tactic| walk_at "now") => `(tactic| first
  | (guard_target = PyData)
  | (guard_target = Int)
  | (guard_target = List PyData)
  | (guard_target = List Int)
  | (guard_target = Nat)
  | (guard_target = Bool)
  | (guard_target = Value)
  | (guard_target = List (Str × Addr))
  | ((with_reducible refine Side.mk ?_); first | assumption | omega | exact IntMulOk.of_left (by decide) | exact IntMulOk.of_right (by decide) | decide | (simp only [List.length_cons, List.length_nil, List.length_map, List.length_append, List.length_range]; omega) | skip)
  | ((with_reducible refine Sz.of ?_); first | assumption | omega | decide | (simp only [List.length_map, List.length_range, List.length_cons, List.length_nil, List.length_append, List.length_take, List.length_drop]; omega) | skip)
  | exact Now.mk rfl
  | exact Now.mk (by decide)
  | exact Now.mk (fun _ => rfl)
  | exact Now.mk (fun _ _ => ⟨_, rfl⟩)
  | exact Now.mk (by with_unfolding_all rfl))
local macro_rules | `(tactic| walk_at "ev") => `(tactic| first
  | walk_at "now"
  | (with_reducible refine' EvB.name (Now.out ?_) (Now.out ?_) (Now.out ?_) (Now.out ?_)) <;> walk_at "now"
  | (with_reducible refine' Ev.name (Now.out ?_) (Now.out ?_) (Now.out ?_) (Now.out ?_) (Now.out ?_)) <;> walk_at "now"
  | with_reducible exact Ev.int
  | with_reducible exact Ev.str
  | with_reducible exact Ev.bool
  | with_reducible exact Ev.none
  | with_reducible exact Evs.nil
  | (with_reducible refine' Evs.cons ?_ ?_ (Now.out ?_)) <;> walk_at "ev"
  | (with_reducible refine' Ev.add ?_ ?_) <;> walk_at "ev"
  | (with_reducible refine' Ev.sub ?_ ?_) <;> walk_at "ev"
  | (with_reducible refine' Ev.neg ?_) <;> walk_at "ev"
  | (with_reducible refine' Ev.mul ?_ ?_ (Side.out ?_)) <;> walk_at "ev"
  | (with_reducible refine' Ev.mod ?_ ?_ (Side.out ?_)) <;> walk_at "ev"
  | (with_reducible refine' Ev.fdiv ?_ ?_ (Side.out ?_)) <;> walk_at "ev"
  | (with_reducible refine' Ev.pow ?_ ?_ (Side.out ?_) (Side.out ?_)) <;> walk_at "ev"
  | (with_reducible refine' Ev.itemT ?_ ?_ (Side.out ?_) (Side.out ?_) (Now.out ?_) (Now.out ?_) (Now.out ?_)) <;> walk_at "ev"
  | (with_reducible refine' Ev.itemI ?_ ?_ (Side.out ?_) ?_ (Now.out ?_)) <;> walk_at "ev"
  | (with_reducible refine' Ev.itemD ?_ ?_ (Side.out ?_) ?_ (Now.out ?_)) <;> walk_at "ev"
  | (with_reducible refine' Ev.lenI (by assumption) ?_ ?_ (Now.out ?_) (Now.out ?_)) <;> walk_at "ev"
  | (with_reducible refine' Ev.lenB (by assumption) ?_ ?_ (Now.out ?_) (Now.out ?_)) <;> walk_at "ev"
  | (with_reducible refine' Ev.absB (by assumption) ?_ (Now.out ?_) (Now.out ?_)) <;> walk_at "ev"
  | (with_reducible refine' Ev.minB (by assumption) ?_ ?_ (Now.out ?_) (Now.out ?_) (Now.out ?_) (Now.out ?_)) <;> walk_at "ev"
  | (with_reducible refine' Ev.maxB (by assumption) ?_ ?_ (Now.out ?_) (Now.out ?_) (Now.out ?_) (Now.out ?_)) <;> walk_at "ev"
  | (with_reducible refine' Ev.ifexpI ?_ ?_ ?_) <;> walk_at "ev"
  | (with_reducible refine' EvF.uptoI ?_ ?_ (Side.out ?_) ?_) <;> walk_at "ev"
  | (with_reducible refine' EvF.frmI ?_ ?_ (Side.out ?_) ?_) <;> walk_at "ev"
  | (with_reducible refine' EvF.upto ?_ ?_ (Side.out ?_) ?_) <;> walk_at "ev"
  | (with_reducible refine' EvF.frm ?_ ?_ (Side.out ?_) ?_) <;> walk_at "ev"
  | (with_reducible refine' Ev.isIntB (by assumption) ?_ (Now.out ?_) (Now.out ?_) (Now.out ?_) (Now.out ?_) (Now.out ?_)) <;> walk_at "ev"
  | (with_reducible refine' Ev.toBoolB (by assumption) ?_ (Now.out ?_) (Now.out ?_)) <;> walk_at "ev"
  | (with_reducible refine' Ev.tuple ?_ (Sz.out ?_)) <;> walk_at "ev"
  | (with_reducible refine' EvF.list ?_ (Sz.out ?_)) <;> walk_at "ev"
  | (with_reducible refine' EvF.add ?_ ?_ (Sz.out ?_)) <;> walk_at "ev"
  | (with_reducible refine' EvF.copyI (by assumption) ?_ ?_ (Now.out ?_) (Now.out ?_)) <;> walk_at "ev"
  | (with_reducible refine' EvF.copyB (by assumption) ?_ ?_ (Now.out ?_) (Now.out ?_)) <;> walk_at "ev"
  | (with_reducible refine' EvI.rangeB (by assumption) ?_ (Side.out ?_) (Now.out ?_) (Now.out ?_) (Side.out ?_)) <;> walk_at "ev"
  | (with_reducible refine' EvI.list ?_) <;> walk_at "ev"
  | (with_reducible refine' EvK.typeB (by assumption) ?_ (Now.out ?_) (Now.out ?_)) <;> walk_at "ev"
  | (with_reducible refine' EvK.intB (by assumption) (Now.out ?_)) <;> walk_at "ev"
  | (with_reducible refine' EvK.listB (by assumption) (Now.out ?_)) <;> walk_at "ev"
  | (with_reducible refine' EvK.boolB (by assumption) (Now.out ?_)) <;> walk_at "ev"
  | (with_reducible refine' Tst.cmp ?_ (Now.out ?_)) <;> walk_at "ev"
  | (with_reducible refine' Tst.not_ ?_) <;> walk_at "ev"
  | (with_reducible refine' Tst.and2 ?_ ?_) <;> walk_at "ev"
  | (with_reducible refine' Tst.or2 ?_ ?_) <;> walk_at "ev"
  | (with_reducible refine' Tst.or3 ?_ ?_ ?_) <;> walk_at "ev"
  | (with_reducible refine' Cmp.eq ?_ ?_) <;> walk_at "ev"
  | (with_reducible refine' Cmp.ne ?_ ?_) <;> walk_at "ev"
  | (with_reducible refine' Cmp.lt ?_ ?_) <;> walk_at "ev"
  | (with_reducible refine' Cmp.le ?_ ?_) <;> walk_at "ev"
  | (with_reducible refine' Cmp.gt ?_ ?_) <;> walk_at "ev"
  | (with_reducible refine' Cmp.ge ?_ ?_) <;> walk_at "ev"
  | (with_reducible refine' Cmp.eqS ?_ ?_) <;> walk_at "ev"
  | (with_reducible refine' Cmp.eqG ?_ ?_ ?_ ?_) <;> walk_at "ev"
  | (with_reducible refine' Cmp.neG ?_ ?_ ?_ ?_) <;> walk_at "ev"
  | walk_at "gd"
  | (with_reducible refine' Ev.cmp ?_ (Now.out ?_)) <;> walk_at "ev"
  | (with_reducible refine' Cmp.isK ?_ ?_ (Now.out ?_)) <;> walk_at "ev"
  | (with_reducible refine' Cmp.isNotK ?_ ?_ (Now.out ?_)) <;> walk_at "ev"
  | (with_reducible refine' Cmp.isNone ?_) <;> walk_at "ev"
  | (with_reducible refine' St3.mk (fun _ _ _ => ?_)) <;> walk_at "ev"
  | walk_at "call"
  | walk_at "comp"
  | (with_reducible refine' EvF.v ?_) <;> walk_at "ev"
  | (with_reducible refine' Ev.b ?_) <;> walk_at "ev")
local macro_rules | `(tactic| walk_at "asg") => `(tactic| (refine' Ex.assign (md := false) ?_ ?_; rotate_left; walk_at "ev"))
local macro_rules | `(tactic| walk_at "ret") => `(tactic| (refine' Ex.ret (md := false) ?_ ?_; rotate_left; walk_at "ev"))
local macro_rules | `(tactic| walk_at "all") => `(tactic| repeat' (first | exact All.nil | with_reducible rfl | refine' All.put (by rfl) ?_ ?_))
local macro_rules | `(tactic| walk_at "end") => `(tactic| (refine Ex.nil ?_; refine And.intro rfl ?_; walk_at "all"))
local macro_rules | `(tactic| walk_at "own") => `(tactic| (refine' Ex.assignOwn (md := false) ?_ ?_; rotate_left; walk_at "ev"))
local macro_rules | `(tactic| walk_at "skip") => `(tactic| (refine' Ex.ifSkip ?_ ?_ ?_; rotate_left; walk_at "ev"))
local macro_rules | `(tactic| walk_at "app") => `(tactic| (refine' Ex.append (md := false) ?_ rfl rfl (Sz.out ?_) ?_; rotate_left; rotate_left; walk_at "now"; rotate_left; rotate_left; walk_at "ev"))
abbrev P32 : Program := PySem.Challenge.pw_k4_0032
abbrev dApply : DefRec := recAt P32 1
abbrev dValue : DefRec := recAt P32 2

def applyV (op : Str) (a b : Int) : Int :=
  if (op == "+") = true then a + b else if (op == "-") = true then a - b else if (op == "*") = true then a * b
  else if (op == "==") = true then (if (a == b) = true then 1 else 0) else if (op == "!=") = true then (if (a != b) = true then 1 else 0) else if (op == "<") = true then (if decide (a < b) = true then 1 else 0)
  else if (op == "and") = true then (if (a != 0 && b != 0) = true then 1 else 0) else if (op == "or") = true then (if (a != 0 || b != 0) = true then 1 else 0) else 0
inductive ApplyR : List PyData → Bool → PyData → Prop
  | mk {op : Str} {a b : Int} {md : Bool} (hm : IntMulOk a b) : ApplyR [.str op, .int a, .int b] md (.int (applyV op a b))

theorem apply_ok {C : Cx} {f : Addr} {pm code doc dV kV : Value} (X : FnAt C f (fdOf dApply pm code doc dV kV) ["op", "a", "b"] dApply.body) : ∀ args md d, ApplyR args md d → Fn C 1 f false args md d := by
  rintro _ _ _ (@⟨op, a, b, md, hm⟩)
  refine Fn.atom (md' := false) ?_ rfl
  refine Fn.of X rfl fun L => ?_
  unfold applyV
  refine Ex.if_ (b := op == "+") (by walk_at "ev") (fun h => ?_) (fun h => ?_)
  · walk_at "ret"
    rw [if_pos h]
  rw [if_neg (by rw [h]; decide)]
  refine Ex.if_ (b := op == "-") (by walk_at "ev") (fun h => ?_) (fun h => ?_)
  · walk_at "ret"
    rw [if_pos h]
  rw [if_neg (by rw [h]; decide)]
  refine Ex.if_ (b := op == "*") (by walk_at "ev") (fun h => ?_) (fun h => ?_)
  · walk_at "ret"
    rw [if_pos h]
  rw [if_neg (by rw [h]; decide)]
  refine Ex.if_ (b := op == "==") (by walk_at "ev") (fun h => ?_) (fun h => ?_)
  · walk_at "ret"
    rw [if_pos h]
  rw [if_neg (by rw [h]; decide)]
  refine Ex.if_ (b := op == "!=") (by walk_at "ev") (fun h => ?_) (fun h => ?_)
  · walk_at "ret"
    rw [if_pos h]
  rw [if_neg (by rw [h]; decide)]
  refine Ex.if_ (b := op == "<") (by walk_at "ev") (fun h => ?_) (fun h => ?_)
  · walk_at "ret"
    rw [if_pos h]
  rw [if_neg (by rw [h]; decide)]
  refine Ex.if_ (b := op == "and") (by walk_at "ev") (fun h => ?_) (fun h => ?_)
  · walk_at "ret"
    rw [if_pos h]
  rw [if_neg (by rw [h]; decide)]
  refine Ex.if_ (b := op == "or") (by walk_at "ev") (fun h => ?_) (fun h => ?_)
  · walk_at "ret"
    rw [if_pos h]
  rw [if_neg (by rw [h]; decide)]
  walk_at "ret"
  rfl

abbrev Tk := Str × Int
abbrev tokD (t : Tk) : PyData := .tuple [.str t.1, .int t.2]
def topA (s : List Int) (j : Int) : Int := s.getD ((s.length : Int) - j).toNat 0
def stepV (st s : List Int) (t : Tk) : List Int :=
  if (t.1 == "num") = true then s ++ [t.2] else if (t.1 == "var") = true then s ++ [st.getD t.2.toNat 0]
  else if (t.1 == "not") = true then s.take ((s.length : Int) - 1).toNat ++ [if (topA s 1 == 0) = true then 1 else 0]
  else s.take ((s.length : Int) - 2).toNat ++ [applyV t.1 (topA s 2) (topA s 1)]
def StepOk (st s : List Int) (t : Tk) : Prop :=
  if (t.1 == "num") = true then True else if (t.1 == "var") = true then 0 ≤ t.2 ∧ t.2 < st.length
  else if (t.1 == "not") = true then 1 ≤ s.length else 2 ≤ s.length ∧ IntMulOk (topA s 2) (topA s 1)
inductive Run (st : List Int) : List Int → List Tk → List Int → Prop
  | nil {s : List Int} : Run st s [] s
  | cons {s s' : List Int} {t : Tk} {ts : List Tk} (h : StepOk st s t) (r : Run st (stepV st s t) ts s') : Run st s (t :: ts) s'
def runV (st s : List Int) (ts : List Tk) : List Int := ts.foldl (stepV st) s
theorem Run.out {st s s' : List Int} {ts : List Tk} (r : Run st s ts s') : runV st s ts = s' := by
  induction r with
  | nil => rfl
  | cons _ _ ih => exact ih
theorem Run.ok {st s s' : List Int} {ts : List Tk} (r : Run st s ts s') : ∀ (i : Nat) (h : i < ts.length), StepOk st (runV st s (ts.take i)) ts[i] := by
  induction r with
  | nil => intro i h; cases h
  | cons h _ ih =>
    intro i hi
    cases i with
    | zero => exact h
    | succ i => exact ih i (by simpa using hi)
theorem stepV_length (st s : List Int) (t : Tk) : (stepV st s t).length ≤ s.length + 1 := by
  unfold stepV
  split
  · simp
  · split
    · simp
    · split <;> (rw [List.length_append, List.length_take, List.length_singleton]; omega)
theorem runV_length (st : List Int) : ∀ (ts : List Tk) (s : List Int), (runV st s ts).length ≤ s.length + ts.length
  | [], s => Nat.le_refl _
  | t :: ts, s => by
    have h1 := runV_length st ts (stepV st s t)
    have h2 := stepV_length st s t
    show (runV st (stepV st s t) ts).length ≤ _
    rw [List.length_cons]; omega
theorem runV_succ {st s : List Int} {ts : List Tk} {i : Nat} (h : i < ts.length) : runV st s (ts.take (i + 1)) = stepV st (runV st s (ts.take i)) ts[i] := by
  rw [runV, List.take_succ_eq_append_getElem h, List.foldl_append]
  rfl
inductive ValueR : List PyData → Bool → PyData → Prop
  | mk {ts : List Tk} {st : List Int} {v : Int} {md : Bool} (hr : Run st [] ts [v]) (h1 : ts.length ≤ 1000) (h2 : st.length ≤ 1000) : ValueR [.list (ts.map tokD), .list (st.map .int)] md (.int v)

local macro_rules | `(tactic| walk_at "call") => `(tactic| first
  | (with_reducible refine' Ev.callK (R := ApplyR) (by assumption) ?_ (ApplyR.mk (Side.out ?_)) (Now.out ?_) (Now.out ?_) (Now.out ?_) (Now.out ?_)) <;> walk_at "ev")

set_option maxHeartbeats 0 in
theorem value_ok {C : Cx} {f : Addr} {pm code doc dV kV : Value} (B : Bis C) (X : FnAt C f (fdOf dValue pm code doc dV kV) ["expr", "state"] dValue.body) (K : Def C "apply_op" 1 ApplyR) : ∀ args md d, ValueR args md d → Fn C 2 f false args md d := by
  rintro _ _ _ (@⟨ts, st, v, md, hr, h1, h2⟩)
  refine Fn.atom (md' := false) ?_ rfl
  refine Fn.of X rfl fun L => ?_
  walk_at "own"
  refine Ex.forM (xs := ts) (g := tokD) (mdi := false) ?_ ["stack"] (fun i => [("state", false, .list (st.map .int)), ("stack", false, .list ((runV st [] (ts.take i)).map .int))]) rfl ?_ rfl rfl (fun i hi => ?_) ?_ (fun _ => rfl)
  · walk_at "ev"
  · walk_at "all"
    rfl
  · have ok := hr.ok i hi
    have hlen := runV_length st (ts.take i) []
    rw [List.length_take, Nat.min_eq_left (by omega), List.length_nil, Nat.zero_add] at hlen
    rw [runV_succ hi]
    generalize ts[i] = t at *
    generalize runV st [] (ts.take i) = s at *
    obtain ⟨op, arg⟩ := t
    unfold StepOk at ok
    unfold stepV
    walk_at "asg"
    walk_at "asg"
    dsimp only at ok ⊢
    refine Ex.if_ (b := op == "num") (by walk_at "ev") (fun h => ?_) (fun h => ?_)
    · rw [if_pos h]
      walk_at "app"
      walk_at "end"
      rw [List.map_append]; rfl
    rw [if_neg (by rw [h]; decide)] at ok ⊢
    refine Ex.if_ (b := op == "var") (by walk_at "ev") (fun h => ?_) (fun h => ?_)
    · rw [if_pos h] at ok ⊢
      walk_at "app"
      walk_at "end"
      rw [List.map_append]; rfl
    rw [if_neg (by rw [h]; decide)] at ok ⊢
    refine Ex.if_ (b := op == "not") (by walk_at "ev") (fun h => ?_) (fun h => ?_)
    · rw [if_pos h] at ok ⊢
      walk_at "asg"
      walk_at "own"
      walk_at "end"
      rw [List.map_append]; rfl
    rw [if_neg (by rw [h]; decide)] at ok ⊢
    obtain ⟨ok1, ok2⟩ := ok
    have ok2 : IntMulOk (s.getD ((s.length : Int) - 2).toNat 0) (s.getD ((s.length : Int) - 1).toNat 0) := ok2
    walk_at "asg"
    walk_at "asg"
    walk_at "own"
    walk_at "end"
    rw [List.map_append]; rfl
  · rw [List.take_length, hr.out]
    walk_at "ret"
    rfl
abbrev dFired : DefRec := recAt P32 3
abbrev dCell : DefRec := recAt P32 6
abbrev dWorth : DefRec := recAt P32 7
abbrev dFacts : DefRec := recAt P32 8
abbrev dRules : DefRec := recAt P32 9
abbrev dLaw : DefRec := recAt P32 10
abbrev listD (s : List Int) : PyData := .list (s.map .int)
-- a model: its base, the start, the rules (guard, moves)
abbrev Mv := Int × List Tk
abbrev Rl := List Tk × List Mv
abbrev moveD (m : Mv) : PyData := .tuple [.int m.1, .list (m.2.map tokD)]
abbrev ruleD (r : Rl) : PyData := .tuple [.list (r.1.map tokD), .list (r.2.map moveD)]
local macro_rules | `(tactic| walk_at "call") => `(tactic| first
  | (with_reducible refine' Ev.callK (R := ValueR) (by assumption) ?_ (ValueR.mk (Side.out ?_) (Side.out ?_) (Side.out ?_)) (Now.out ?_) (Now.out ?_) (Now.out ?_) (Now.out ?_)) <;> walk_at "ev")
local macro_rules | `(tactic| walk_at "comp") => `(tactic| first
  | (with_reducible refine' Ev.itemM (g := ruleD) (([], []) : Rl) ?_ ?_ (Side.out ?_) ?_ (Now.out ?_)) <;> walk_at "ev")

/-- the moves of a rule: where, what -/
inductive Sets (st : List Int) : List Mv → List (Int × Int) → Prop
  | nil : Sets st [] []
  | cons {i v : Int} {ts : List Tk} {ms : List Mv} {vs : List (Int × Int)} (hi : 0 ≤ i ∧ i < st.length) (hr : Run st [] ts [v]) (hl : ts.length ≤ 1000) (t : Sets st ms vs) : Sets st ((i, ts) :: ms) ((i, v) :: vs)
def setsV (base : Int) (vs : List (Int × Int)) (st : List Int) : List Int := vs.foldl (fun s p => s.set p.1.toNat (p.2.fmod base)) st
theorem Sets.length {st : List Int} {ms : List Mv} {vs : List (Int × Int)} (h : Sets st ms vs) : vs.length = ms.length := by
  induction h with
  | nil => rfl
  | cons _ _ _ _ ih => rw [List.length_cons, List.length_cons, ih]
theorem Sets.at {st : List Int} {ms : List Mv} {vs : List (Int × Int)} (h : Sets st ms vs) : ∀ (i : Nat) (hi : i < ms.length) (hi' : i < vs.length), ms[i].1 = vs[i].1 ∧ (0 ≤ vs[i].1 ∧ vs[i].1 < st.length) ∧ Run st [] ms[i].2 [vs[i].2] ∧ ms[i].2.length ≤ 1000 := by
  induction h with
  | nil => intro i hi; cases hi
  | cons hi hr hl _ ih =>
    intro j hj hj'
    cases j with
    | zero => exact ⟨rfl, hi, hr, hl⟩
    | succ j => exact ih j (by simpa using hj) (by simpa using hj')
theorem setsV_length (base : Int) : ∀ (vs : List (Int × Int)) (st : List Int), (setsV base vs st).length = st.length
  | [], st => rfl
  | v :: vs, st => by
    show (setsV base vs (st.set v.1.toNat (v.2.fmod base))).length = _
    rw [setsV_length base vs, List.length_set]
theorem setsV_succ {base : Int} {vs : List (Int × Int)} {st : List Int} {i : Nat} (h : i < vs.length) : setsV base (vs.take (i + 1)) st = (setsV base (vs.take i) st).set vs[i].1.toNat (vs[i].2.fmod base) := by
  rw [setsV, List.take_succ_eq_append_getElem h, List.foldl_append]
  rfl
inductive FiredR : List PyData → Bool → PyData → Prop
  | mk {base k : Int} {a : PyData} {rs : List Rl} {st : List Int} {vs : List (Int × Int)} {md : Bool} (hb : base ≠ 0) (hk : 0 ≤ k ∧ k < rs.length) (hs : Sets st (rs.getD k.toNat ([], [])).2 vs) (h1 : rs.length ≤ 1000) (h2 : st.length ≤ 1000) :
    FiredR [.tuple [.int base, a, .list (rs.map ruleD)], .list (st.map .int), .int k] md (.list ((setsV base vs st).map .int))
set_option maxHeartbeats 0 in
theorem fired_ok {C : Cx} {f : Addr} {pm code doc dV kV : Value} (B : Bis C) (X : FnAt C f (fdOf dFired pm code doc dV kV) ["model", "state", "k"] dFired.body) (K : Def C "value_of" 2 ValueR) : ∀ args md d, FiredR args md d → Fn C 3 f false args md d := by
  rintro _ _ _ (@⟨base, k, a, rs, st, vs, md, hb, hk, hs, h1, h2⟩)
  refine Fn.anyMd ?_
  refine Fn.of X rfl fun L => ?_
  walk_at "asg"
  refine' Ex.assignOwn (md := true) ?_ ?_
  rotate_left
  walk_at "ev"
  have hl := hs.length
  refine Ex.forM (xs := (rs.getD k.toNat ([], [])).2) (g := moveD) (mdi := false) ?_ ["new"] (fun i => [("base", false, .int base), ("state", false, .list (st.map .int)), ("new", true, .list ((setsV base (vs.take i) st).map .int))]) rfl ?_ rfl rfl (fun i hi => ?_) ?_ (fun _ => rfl)
  · walk_at "ev"
  · walk_at "all"
    rfl
  · obtain ⟨e1, e2, e3, e4⟩ := hs.at i hi (by omega)
    rw [setsV_succ (by omega)]
    have hsl := setsV_length base (vs.take i) st
    generalize (rs.getD k.toNat ([], [])).2[i] = mv at *
    generalize setsV base (vs.take i) st = cur at *
    obtain ⟨j, ts⟩ := mv
    dsimp only at e1 e3 e4
    subst e1
    refine Ex.setItem (md := true) (d := .int (vs[i].2.fmod base)) (i := vs[i].1) ?_ rfl rfl ?_ ?_ ?_ ?_ (by decide) (by decide) rfl
    · walk_at "ev"
    · walk_at "ev"
    · rw [List.length_map]; omega
    · rw [List.length_map, sizeLine_eq]; omega
    · walk_at "end"
      rw [List.map_set]
  · rw [← hl, List.take_length]
    refine Ex.drop "new" ?_
    refine Ex.ret (md := true) (Ev.name rfl rfl) rfl

inductive EnabledR : List PyData → Bool → PyData → Prop
  | mk {b a : PyData} {rs : List Rl} {st : List Int} {v : Nat → Int} {md : Bool} (hv : ∀ (i : Nat), i < rs.length → Run st [] (rs.getD i ([], [])).1 [v i] ∧ (rs.getD i ([], [])).1.length ≤ 1000) (h1 : rs.length ≤ 1000) (h2 : st.length ≤ 1000) :
    EnabledR [.tuple [b, a, .list (rs.map ruleD)], .list (st.map .int)] md (.list (((List.range rs.length).filter fun i => v i != 0).map fun i : Nat => .int (i : Int)))
-- what token lists mean
theorem var_num : (("var" : Str) == "num") = false := by decide
theorem not_num : (("not" : Str) == "num") = false := by decide
theorem not_var : (("not" : Str) == "var") = false := by decide
abbrev notT : Tk := ("not", 0)
def Means (st : List Int) (ts : List Tk) (v : Int) : Prop := ∀ s, Run st s ts (s ++ [v])
theorem Run.append {st s s' s'' : List Int} {ts us : List Tk} (r : Run st s ts s') (q : Run st s' us s'') : Run st s (ts ++ us) s'' := by
  induction r with
  | nil => exact q
  | cons h _ ih => exact .cons h (ih q)
theorem topA_1 (s : List Int) (a : Int) : topA (s ++ [a]) 1 = a := by
  unfold topA
  rw [List.length_append, List.length_singleton, show ((↑(s.length + 1) : Int) - 1).toNat = s.length from by omega, List.getD, List.getElem?_append_right (Nat.le_refl _), Nat.sub_self]
  rfl
theorem topA_2 (s : List Int) (a b : Int) : topA (s ++ [a] ++ [b]) 2 = a := by
  unfold topA
  rw [List.length_append, List.length_append, List.length_singleton, List.length_singleton, show ((↑(s.length + 1 + 1) : Int) - 2).toNat = s.length from by omega, List.getD, List.append_assoc, List.getElem?_append_right (Nat.le_refl _), Nat.sub_self]
  rfl
theorem Means.run {st : List Int} {ts : List Tk} {v : Int} (h : Means st ts v) : Run st [] ts [v] := h []
theorem Means.num {st : List Int} (n : Int) : Means st [("num", n)] n := fun s => .cons (by unfold StepOk; rw [if_pos (by rfl)]; trivial) (by
  have : stepV st s ("num", n) = s ++ [n] := by unfold stepV; rw [if_pos (by rfl)]
  rw [this]; exact .nil)
theorem Means.var {st : List Int} {n : Int} (h : 0 ≤ n ∧ n < st.length) : Means st [("var", n)] (st.getD n.toNat 0) := fun s => .cons (by unfold StepOk; dsimp only; rw [var_num, if_neg (by decide), if_pos (by rfl)]; exact h) (by
  have : stepV st s ("var", n) = s ++ [st.getD n.toNat 0] := by unfold stepV; dsimp only; rw [var_num, if_neg (by decide), if_pos (by rfl)]
  rw [this]; exact .nil)
theorem Means.not {st : List Int} {ts : List Tk} {w : Int} (h : Means st ts w) : Means st (ts ++ [notT]) (if (w == 0) = true then 1 else 0) := fun s => (h s).append (.cons (by
    unfold StepOk; dsimp only [notT]; rw [not_num, not_var, if_neg (by decide), if_neg (by decide), if_pos (by rfl), List.length_append]; exact Nat.le_add_left _ _) (by
  have : stepV st (s ++ [w]) notT = s ++ [if (w == 0) = true then 1 else 0] := by
    unfold stepV
    dsimp only [notT]
    rw [not_num, not_var, if_neg (by decide), if_neg (by decide), if_pos (by rfl), topA_1, List.length_append, List.length_singleton, show ((↑(s.length + 1) : Int) - 1).toNat = s.length from by omega, List.take_left' rfl]
  rw [this]; exact .nil))
def plainOp (op : Str) : Bool := !(op == "num") && !(op == "var") && !(op == "not")
theorem Means.op {st : List Int} {ts us : List Tk} {a b : Int} (op : Str) (j : Int) (hp : plainOp op = true) (h1 : Means st ts a) (h2 : Means st us b) (hm : IntMulOk a b) : Means st (ts ++ us ++ [(op, j)]) (applyV op a b) := fun s => by
  obtain ⟨p1, p2, p3⟩ : (op == "num") = false ∧ (op == "var") = false ∧ (op == "not") = false := by
    unfold plainOp at hp
    simp only [Bool.and_eq_true, Bool.not_eq_true'] at hp
    exact ⟨hp.1.1, hp.1.2, hp.2⟩
  refine ((h1 s).append (h2 (s ++ [a]))).append (.cons ?_ ?_)
  · unfold StepOk
    dsimp only
    rw [p1, p2, p3, if_neg (by decide), if_neg (by decide), if_neg (by decide), topA_1, topA_2]
    exact ⟨by simp, hm⟩
  · have : stepV st (s ++ [a] ++ [b]) (op, j) = s ++ [applyV op a b] := by
      unfold stepV
      dsimp only
      rw [p1, p2, p3, if_neg (by decide), if_neg (by decide), if_neg (by decide), topA_1, topA_2]
      congr 1
      rw [List.length_append, List.length_append, List.length_singleton, List.length_singleton, show ((↑(s.length + 1 + 1) : Int) - 2).toNat = s.length from by omega, List.append_assoc, List.take_left' rfl]
    rw [this]; exact .nil
def cellV (ns : List Int) (i : Int) : Int := if i < ns.length then ns.getD i.toNat 0 else i
inductive CellR : List PyData → Bool → PyData → Prop
  | mk {ns : List Int} {i : Int} {md : Bool} (h0 : 0 ≤ i) (hn : ns.length ≤ 63) : CellR [.list (ns.map .int), .int i] md (.int (cellV ns i))
theorem cell_ok {C : Cx} {f : Addr} {pm code doc dV kV : Value} (B : Bis C) (X : FnAt C f (fdOf dCell pm code doc dV kV) ["script", "at"] dCell.body) : ∀ args md d, CellR args md d → Fn C 1 f false args md d := by
  rintro _ _ _ (@⟨ns, i, md, h0, hn⟩)
  refine Fn.atom (md' := false) ?_ rfl
  refine Fn.of X rfl fun L => ?_
  refine Ex.if_ (b := decide (i < ns.length)) ?_ (fun h => ?_) (fun h => ?_)
  · walk_at "ev"
  · have h := of_decide_eq_true h
    walk_at "ret"
    rw [cellV, if_pos h]
  · have h := of_decide_eq_false h
    walk_at "ret"
    rw [cellV, if_neg h]
theorem cell_bits {ns : List Int} {i : Int} (hb : ∀ n ∈ ns, Builtin.Int.intBits n ≤ 1048576) (h0 : 0 ≤ i) (h1 : i < 63) : Builtin.Int.intBits (cellV ns i) ≤ 1048576 := by
  unfold cellV
  split
  · rw [List.getD, List.getElem?_eq_getElem (by omega)]
    exact hb _ (List.getElem_mem _)
  · exact Nat.le_trans (intBits_le_of_natAbs (y := 63) (m := 8) (by omega) (by decide)) (by decide)
def worthL (a b : Int) : List Int := [a + b, a - b, a * b, if (a == b) = true then 1 else 0, if (a != b) = true then 1 else 0, if decide (a < b) = true then 1 else 0, if decide (min a b > 0) = true then 1 else 0, if (max a b == 0) = true then 1 else 0]
inductive WorthR : List PyData → Bool → PyData → Prop
  | mk {form a b : Int} {md : Bool} (h0 : 0 ≤ form ∧ form < 8) (hm : IntMulOk a b) : WorthR [.int form, .int a, .int b] md (.int ((worthL a b).getD form.toNat 0))
set_option maxHeartbeats 0 in
theorem worth_ok {C : Cx} {f : Addr} {pm code doc dV kV : Value} (B : Bis C) (X : FnAt C f (fdOf dWorth pm code doc dV kV) ["form", "a", "b"] dWorth.body) : ∀ args md d, WorthR args md d → Fn C 1 f false args md d := by
  rintro _ _ _ (@⟨form, a, b, md, h0, hm⟩)
  refine Fn.atom (md' := false) ?_ rfl
  refine Fn.of X rfl fun L => ?_
  refine Ex.ret (md := false) (d := .int ((worthL a b).getD form.toNat 0)) ?_ rfl
  refine Ev.itemI (ns := worthL a b) (i := form) (Ev.b (EvF.v ?_)) ?_ (by show (0 : Int) ≤ form ∧ form < 8; omega) ⟨szl (by show 8 ≤ _; decide)⟩ (fun _ _ => ⟨_, rfl⟩)
  · show EvF _ _ _ _ _ _ false [.int (a + b), .int (a - b), .int (a * b), .int (if (a == b) = true then 1 else 0), .int (if (a != b) = true then 1 else 0), .int (if decide (a < b) = true then 1 else 0), .int (if decide (min a b > 0) = true then 1 else 0), .int (if (max a b == 0) = true then 1 else 0)]
    walk_at "ev"
  · walk_at "ev"
-- a fact: where, the side's tokens, its worth
abbrev Fact := Int × List Tk × Int
abbrev factD (f : Fact) : PyData := .tuple [.int f.1, .list (f.2.1.map tokD), .int f.2.2]
abbrev fsD (fs : List Fact) : PyData := .list (fs.map factD)
def tkOf : PyData → Tk
  | .tuple [.str s, .int i] => (s, i)
  | _ => ("", 0)
def factOf : PyData → Fact
  | .tuple [.int a, .list ts, .int c] => (a, ts.map tkOf, c)
  | _ => (0, [], 0)
def fsOf : PyData → List Fact
  | .list ds => ds.map factOf
  | _ => []
theorem tk_map (ts : List Tk) : (ts.map tokD).map tkOf = ts := by
  rw [List.map_map]; exact (List.map_congr_left fun a _ => rfl).trans (List.map_id ts)
theorem fact_inv (f : Fact) : factOf (factD f) = f := by
  obtain ⟨a, ts, c⟩ := f
  show (a, (ts.map tokD).map tkOf, c) = _
  rw [tk_map]
theorem fs_inv (fs : List Fact) : fsOf (fsD fs) = fs := by
  show (fs.map factD).map factOf = fs
  rw [List.map_map]; exact (List.map_congr_left fun a _ => fact_inv a).trans (List.map_id fs)
abbrev tailsL : List (List Tk) := [[("+", 0)], [("-", 0)], [("*", 0)], [("==", 0)], [("!=", 0)], [("<", 0)], [("and", 0)], [("or", 0), ("not", 0)]]
theorem tk_any (a : Tk) (ok ok' : Addr → Prop) (h : Heap) (v : Value) (r : Rep ok h (tokD a) v) : Rep ok' h (tokD a) v := by
  cases r with
  | tuple g r => exact .tuple g (r.atoms rfl)
def cnt (cs : List Int) (r : Int) (st : List Int) : Int := if decide ((st.length : Int) > 0) = true then ((cs.getD 3 0).fdiv 3 + r).fmod 4 else 0
abbrev iV (cs st : List Int) (t : Nat) : Int := (cs.getD (8 + (t : Int)).toNat 0).fmod st.length
abbrev jV (cs st : List Int) (t : Nat) : Int := (cs.getD (9 + (t : Int)).toNat 0).fmod st.length
abbrev nV (cs : List Int) (t : Nat) : Int := ((cs.getD (7 + (t : Int)).toNat 0).natAbs : Int)
abbrev fmV (cs : List Int) (r : Int) (t : Nat) : Int := (cs.getD (10 + (t : Int)).toNat 0 + r).fmod 8
abbrev wV (cs : List Int) (r : Int) (st : List Int) (t : Nat) : Int := (worthL (st.getD (iV cs st t).toNat 0) (st.getD (jV cs st t).toNat 0)).getD (fmV cs r t).toNat 0
def sideV (cs : List Int) (r : Int) (st : List Int) (t : Nat) : List Tk := ([("var", iV cs st t), ("var", jV cs st t)] : List Tk) ++ tailsL.getD (fmV cs r t).toNat [] ++ ([("num", nV cs t), ("-", 0)] : List Tk)
def factV (cs : List Int) (r : Int) (st : List Int) (t : Nat) : Fact := ((cs.getD (7 + (t : Int)).toNat 0 + r).fmod st.length, sideV cs r st t, wV cs r st t - nV cs t)
def factsV (cs : List Int) (r : Int) (st : List Int) (n : Nat) : List Fact := (List.range n).map (factV cs r st)
theorem cnt_le (cs : List Int) (r : Int) (st : List Int) : 0 ≤ cnt cs r st ∧ cnt cs r st ≤ 3 := by
  have h0 := fmod_nonneg ((cs.getD 3 0).fdiv 3 + r) (b := 4) (by decide)
  have h1 := fmod_lt ((cs.getD 3 0).fdiv 3 + r) (b := 4) (by decide)
  unfold cnt; split <;> omega
inductive FactsR : List PyData → Bool → PyData → Prop
  | mk {cs st : List Int} {r : Int} (hc : cs.length = 13) (hs : st.length ≤ 1000) (hm : ∀ i j, IntMulOk (st.getD i 0) (st.getD j 0)) : FactsR [listD cs, .int r, listD st] false (fsD (factsV cs r st (cnt cs r st).toNat))
local macro_rules | `(tactic| walk_at "call") => `(tactic| first
  | (with_reducible refine' Ev.callK (R := CellR) (by assumption) ?_ (CellR.mk (Side.out ?_) (Side.out ?_)) (Now.out ?_) (Now.out ?_) (Now.out ?_) (Now.out ?_)) <;> walk_at "ev"
  | (with_reducible refine' Ev.callK (R := WorthR) (by assumption) ?_ (WorthR.mk (Side.out ?_) (Side.out ?_)) (Now.out ?_) (Now.out ?_) (Now.out ?_) (Now.out ?_)) <;> walk_at "ev"
  | (with_reducible refine' Ev.callK (R := FactsR) (by assumption) ?_ (FactsR.mk (Side.out ?_) (Side.out ?_) (Side.out ?_)) (Now.out ?_) (Now.out ?_) (Now.out ?_) (Now.out ?_)) <;> walk_at "ev")
theorem side_len (cs : List Int) (r : Int) (st : List Int) (t : Nat) : (sideV cs r st t).length ≤ 6 := by
  have h : ∀ i, (tailsL.getD i []).length ≤ 2 := by
    intro i
    match i with
    | 0 => decide
    | 1 => decide
    | 2 => decide
    | 3 => decide
    | 4 => decide
    | 5 => decide
    | 6 => decide
    | 7 => decide
    | i + 8 => exact Nat.zero_le _
  have := h (fmV cs r t).toNat
  unfold sideV
  rw [List.length_append, List.length_append]
  show 2 + _ + 2 ≤ 6
  omega
set_option maxHeartbeats 0 in
theorem facts_ok {C : Cx} {f : Addr} {pm code doc dV kV : Value} (B : Bis C) (X : FnAt C f (fdOf dFacts pm code doc dV kV) ["cells", "r", "state"] dFacts.body) (K : Def C "_law_worth" 1 WorthR) (TT : TabR C "_law_tails" (.list (tailsL.map fun ts => .list (ts.map tokD)))) : ∀ args md d, FactsR args md d → Fn C 2 f false args md d := by
  rintro _ _ _ (@⟨cs, st, r, hc, hs, hm⟩)
  refine Fn.of X rfl fun L => ?_
  have hcn := cnt_le cs r st
  walk_at "asg"
  refine' Ex.assign (md := false) (d := .int (cnt cs r st)) ?_ ?_
  · refine Ev.ifexpI ?_ ?_ ?_
    · walk_at "ev"
    · show Ev _ _ _ _ _ _ false (.int (((cs.getD (3 : Int).toNat 0).fdiv 3 + r).fmod 4))
      walk_at "ev"
    · walk_at "ev"
  walk_at "own"
  refine Ex.forN (n := cnt cs r st) ?_ ["facts"] (fun t => [("cells", false, listD cs), ("r", false, .int r), ("state", false, listD st), ("size", false, .int (st.length : Int)), ("facts", false, fsD (factsV cs r st t))]) rfl ?_ rfl rfl (fun t ht => ?_) ?_ (fun _ => rfl)
  · walk_at "ev"
  · walk_at "all"
    rfl
  · have hst : 0 < (st.length : Int) := by
      unfold cnt at ht
      split at ht
      · rename_i q; exact of_decide_eq_true q
      · omega
    have hst0 : (st.length : Int) ≠ 0 := by omega
    have ht3 : t < 3 := by omega
    have i0 := fmod_nonneg (cs.getD (8 + (t : Int)).toNat 0) hst
    have i1 := fmod_lt (cs.getD (8 + (t : Int)).toNat 0) hst
    have j0 := fmod_nonneg (cs.getD (9 + (t : Int)).toNat 0) hst
    have j1 := fmod_lt (cs.getD (9 + (t : Int)).toNat 0) hst
    have f0 := fmod_nonneg (cs.getD (10 + (t : Int)).toNat 0 + r) (b := 8) (by decide)
    have f1 := fmod_lt (cs.getD (10 + (t : Int)).toNat 0 + r) (b := 8) (by decide)
    have hmm := hm (iV cs st t).toNat (jV cs st t).toNat
    have hsl := side_len cs r st t
    have e1 : factsV cs r st (t + 1) = factsV cs r st t ++ [factV cs r st t] := by unfold factsV; rw [List.range_succ, List.map_append]; rfl
    have hfl : (factsV cs r st t).length ≤ 3 := by unfold factsV; rw [List.length_map, List.length_range]; omega
    rw [e1]
    generalize factsV cs r st t = fs at *
    refine' Ex.assign (md := false) (d := .int (nV cs t)) (by walk_at "ev") ?_
    refine' Ex.assign (md := false) (d := .int (iV cs st t)) (by walk_at "ev") ?_
    refine' Ex.assign (md := false) (d := .int (jV cs st t)) (by walk_at "ev") ?_
    refine' Ex.assign (md := false) (d := .int (fmV cs r t)) (by walk_at "ev") ?_
    have htl : (tailsL.getD (fmV cs r t).toNat []).length ≤ 2 := by
      unfold sideV at hsl
      rw [List.length_append, List.length_append] at hsl
      have : 2 + (tailsL.getD (fmV cs r t).toNat []).length + 2 ≤ 6 := hsl
      omega
    refine' Ex.assign (md := false) (d := .list ((sideV cs r st t).map tokD)) ?_ ?_
    · unfold sideV
      rw [List.map_append, List.map_append]
      refine EvF.v (EvF.add (Ev.b (EvF.v (EvF.add ?_ (EvB.tabRow (xs := tailsL) (g := tokD) (i := fmV cs r t) TT tk_any (by walk_at "ev") ⟨f0, f1⟩ (by decide) rfl (by decide) (fun _ _ => ⟨_, rfl⟩)) ?_))) ?_ ?_)
      · show EvB _ _ _ _ _ _ false (.list [.tuple [.str "var", .int (iV cs st t)], .tuple [.str "var", .int (jV cs st t)]])
        walk_at "ev"
      · exact szl (by rw [List.length_map, List.length_map]; show 2 + _ ≤ _; omega)
      · show EvB _ _ _ _ _ _ false (.list [.tuple [.str "num", .int (nV cs t)], .tuple [.str "-", .int 0]])
        walk_at "ev"
      · exact szl (by rw [List.length_append, List.length_map, List.length_map, List.length_map]; show 2 + _ + 2 ≤ _; omega)
    refine' Ex.append (md := false) (d := factD (factV cs r st t)) ?_ rfl rfl (szl (by rw [List.length_map]; omega)) ?_
    · show Ev _ _ _ _ _ _ false (.tuple [.int ((cs.getD (7 + (t : Int)).toNat 0 + r).fmod st.length), .list ((sideV cs r st t).map tokD), .int (wV cs r st t - nV cs t)])
      generalize sideV cs r st t = sd at *
      have hij : 0 ≤ fmV cs r t ∧ fmV cs r t < 8 := ⟨f0, f1⟩
      have hi' : 0 ≤ iV cs st t ∧ iV cs st t < st.length := ⟨i0, i1⟩
      have hj' : 0 ≤ jV cs st t ∧ jV cs st t < st.length := ⟨j0, j1⟩
      walk_at "ev"
    walk_at "end"
    simp only [fsD, List.map_append, List.map_cons, List.map_nil]
  · refine Ex.free ?_
    walk_at "ret"
    rfl
def ruleF (fs : List Fact) : Rl := ([("num", (fs.length : Int).fmod 2)], fs.map fun f => (f.1, f.2.1))
inductive RulesR : List PyData → Bool → PyData → Prop
  | mk {fss : List (List Fact)} (h1 : fss.length ≤ 1000) (h2 : ∀ fs ∈ fss, fs.length ≤ 1000) (h3 : ∀ fs ∈ fss, ∀ f ∈ fs, f.2.1.length ≤ 1000) : RulesR [.list (fss.map fsD)] false (.list ((fss.map ruleF).map ruleD))
set_option maxHeartbeats 0 in
theorem rules_ok {C : Cx} {f : Addr} {pm code doc dV kV : Value} (B : Bis C) (X : FnAt C f (fdOf dRules pm code doc dV kV) ["facts"] dRules.body) : ∀ args md d, RulesR args md d → Fn C 1 f false args md d := by
  rintro _ _ _ (@⟨fss, h1, h2, h3⟩)
  refine Fn.of X rfl fun L => ?_
  refine Ex.ret (md := false) (d := .list (fss.map fun fs => ruleD (ruleF fs))) ?_ (by rw [List.map_map]; rfl)
  refine EvF.v (EvF.compL (xs := fss) (g := fsD) (mdi := false) fsOf fs_inv (fun fs => ruleD (ruleF fs)) ?_ (by omega) rfl rfl rfl (fun _ => rfl) (fun fs hfs L => ?_))
  · walk_at "ev"
  have hl := h2 fs hfs
  have h3' := h3 fs hfs
  have e : (ruleF fs).2.map moveD = fs.map fun f => moveD (f.1, f.2.1) := by unfold ruleF; rw [List.map_map]; rfl
  show Ev _ _ _ _ _ _ false (.tuple [.list [.tuple [.str "num", .int ((fs.length : Int).fmod 2)]], .list ((ruleF fs).2.map moveD)])
  rw [e]
  refine Ev.tuple (Evs.cons ?_ (Evs.cons ?_ Evs.nil rfl) rfl) (szl (by simp))
  · have e2 : (fs.length : Int) = ((fs.map factD).length : Int) := by rw [List.length_map]
    rw [e2]
    walk_at "ev"
  refine EvF.v (EvF.compL (xs := fs) (g := factD) (mdi := false) factOf fact_inv (fun f => moveD (f.1, f.2.1)) ?_ (by omega) rfl rfl rfl (fun _ => rfl) (fun f hf L' => ?_))
  · walk_at "ev"
  have hf3 := h3' f hf
  show Ev _ _ _ _ _ _ false (.tuple [.int f.1, .list (f.2.1.map tokD)])
  walk_at "ev"
theorem tails_mean {st : List Int} {i j : Int} (hi : 0 ≤ i ∧ i < st.length) (hj : 0 ≤ j ∧ j < st.length) (ha : 0 ≤ st.getD i.toNat 0) (hb : 0 ≤ st.getD j.toNat 0) (hm : IntMulOk (st.getD i.toNat 0) (st.getD j.toNat 0)) :
    ∀ k, k < 8 → Means st (([("var", i), ("var", j)] : List Tk) ++ tailsL.getD k []) ((worthL (st.getD i.toNat 0) (st.getD j.toNat 0)).getD k 0) := by
  have A := Means.var hi
  have Bm := Means.var hj
  generalize st.getD i.toNat 0 = a at *
  generalize st.getD j.toNat 0 = b at *
  have O (op : Str) (hp : plainOp op = true) : Means st (([("var", i), ("var", j)] : List Tk) ++ [(op, 0)]) (applyV op a b) := Means.op op 0 hp A Bm hm
  intro k hk
  match k, hk with
  | 0, _ => exact O "+" (by decide)
  | 1, _ => exact O "-" (by decide)
  | 2, _ => exact O "*" (by decide)
  | 3, _ => exact O "==" (by decide)
  | 4, _ => exact O "!=" (by decide)
  | 5, _ => exact O "<" (by decide)
  | 6, _ =>
    have e : (worthL a b).getD 6 0 = applyV "and" a b := by
      show (if decide (min a b > 0) = true then (1 : Int) else 0) = (if (a != 0 && b != 0) = true then 1 else 0)
      have : decide (min a b > 0) = (a != 0 && b != 0) := by
        rcases Int.lt_or_eq_of_le ha with h | h
        · rcases Int.lt_or_eq_of_le hb with h' | h'
          · rw [decide_eq_true (by omega)]; have : a ≠ 0 := by omega
            have : b ≠ 0 := by omega
            simp [*]
          · rw [decide_eq_false (by omega), ← h']; simp
        · rw [decide_eq_false (by omega), ← h]; simp
      rw [this]
    rw [e]
    exact O "and" (by decide)
  | 7, _ =>
    have e : (worthL a b).getD 7 0 = (if (applyV "or" a b == 0) = true then 1 else 0) := by
      show (if (max a b == 0) = true then (1 : Int) else 0) = (if ((if (a != 0 || b != 0) = true then (1 : Int) else 0) == 0) = true then 1 else 0)
      have : (max a b == 0) = !(a != 0 || b != 0) := by
        rcases Int.lt_or_eq_of_le ha with h | h
        · have h1 : (a != 0) = true := by simp; omega
          have h2 : (max a b == 0) = false := by rw [beq_eq_false_iff_ne]; omega
          rw [h1, h2]; rfl
        · rcases Int.lt_or_eq_of_le hb with h' | h'
          · have h1 : (b != 0) = true := by simp; omega
            have h2 : (max a b == 0) = false := by rw [beq_eq_false_iff_ne]; omega
            rw [h1, h2, Bool.or_true]; rfl
          · rw [← h, ← h']; rfl
      rw [this]
      cases (a != 0 || b != 0) <;> rfl
    rw [e]
    exact (O "or" (by decide)).not
theorem worth_bits {a b : Int} {m : Nat} (ha : Builtin.Int.intBits a ≤ m) (hb : Builtin.Int.intBits b ≤ m) (hm : 1 ≤ m) (k : Nat) : Builtin.Int.intBits ((worthL a b).getD k 0) ≤ 2 * m := by
  have h01 : ∀ c : Bool, Builtin.Int.intBits (if c = true then (1 : Int) else 0) ≤ 1 := by intro c; cases c <;> decide
  match k with
  | 0 => exact Nat.le_trans (intBits_add_le ha hb) (by rw [Nat.max_self]; omega)
  | 1 => exact Nat.le_trans (intBits_sub_le ha hb) (by rw [Nat.max_self]; omega)
  | 2 => exact Nat.le_trans (intBits_mul_le ha hb) (by omega)
  | 3 => exact Nat.le_trans (h01 _) (by omega)
  | 4 => exact Nat.le_trans (h01 _) (by omega)
  | 5 => exact Nat.le_trans (h01 _) (by omega)
  | 6 => exact Nat.le_trans (h01 _) (by omega)
  | 7 => exact Nat.le_trans (h01 _) (by omega)
  | k + 8 => exact Nat.zero_le _
theorem getD_pos {st : List Int} (h : ∀ v ∈ st, 0 ≤ v) (i : Nat) : 0 ≤ st.getD i 0 := by
  rw [List.getD]
  cases e : st[i]? with
  | none => exact Int.le_refl _
  | some v => exact h v (List.mem_of_getElem? e)
theorem bits_getD {st : List Int} {m i : Nat} (h : ∀ v ∈ st, Builtin.Int.intBits v ≤ m) : Builtin.Int.intBits (st.getD i 0) ≤ m := by
  rw [List.getD]
  cases e : st[i]? with
  | none => exact Nat.zero_le _
  | some v => exact h v (List.mem_of_getElem? e)
theorem fact_mean {cs st : List Int} {r : Int} {t : Nat} (hst : 0 < (st.length : Int)) (hp : ∀ v ∈ st, 0 ≤ v) (hsb : ∀ v ∈ st, Builtin.Int.intBits v ≤ 1048577) (hcb : ∀ v ∈ cs, Builtin.Int.intBits v ≤ 1048576) :
    (0 ≤ (factV cs r st t).1 ∧ (factV cs r st t).1 < st.length) ∧ Means st (factV cs r st t).2.1 (factV cs r st t).2.2 := by
  refine ⟨⟨fmod_nonneg _ hst, fmod_lt _ hst⟩, ?_⟩
  have i0 := fmod_nonneg (cs.getD (8 + (t : Int)).toNat 0) hst
  have i1 := fmod_lt (cs.getD (8 + (t : Int)).toNat 0) hst
  have j0 := fmod_nonneg (cs.getD (9 + (t : Int)).toNat 0) hst
  have j1 := fmod_lt (cs.getD (9 + (t : Int)).toNat 0) hst
  have f0 : 0 ≤ fmV cs r t := fmod_nonneg (cs.getD (10 + (t : Int)).toNat 0 + r) (b := 8) (by decide)
  have f1 : fmV cs r t < 8 := fmod_lt (cs.getD (10 + (t : Int)).toNat 0 + r) (b := 8) (by decide)
  have M := tails_mean (st := st) (i := iV cs st t) (j := jV cs st t) ⟨i0, i1⟩ ⟨j0, j1⟩ (getD_pos hp _) (getD_pos hp _) (IntMulOk.of_le (bits_getD hsb) (bits_getD hsb) (by decide)) (fmV cs r t).toNat (by omega)
  have wb := worth_bits (bits_getD hsb (i := (iV cs st t).toNat)) (bits_getD hsb (i := (jV cs st t).toNat)) (by decide) (fmV cs r t).toNat
  have nb : Builtin.Int.intBits (nV cs t) ≤ 1048576 := intBits_natAbs_le (bits_getD hcb)
  have := Means.op "-" 0 (by decide) M (Means.num (nV cs t)) (IntMulOk.of_le wb nb (by decide))
  have e : (factV cs r st t).2.1 = ([("var", iV cs st t), ("var", jV cs st t)] : List Tk) ++ tailsL.getD (fmV cs r t).toNat [] ++ ([("num", nV cs t)] : List Tk) ++ ([("-", 0)] : List Tk) := by
    show sideV cs r st t = _
    unfold sideV
    rw [List.append_assoc _ ([("num", nV cs t)] : List Tk) ([("-", 0)] : List Tk)]; rfl
  rw [e]
  exact this
theorem facts_sets {base : Int} {st : List Int} : ∀ {fs : List Fact}, (∀ f ∈ fs, (0 ≤ f.1 ∧ f.1 < st.length) ∧ Means st f.2.1 f.2.2 ∧ f.2.1.length ≤ 1000) → Sets st (ruleF fs).2 (fs.map fun f => (f.1, f.2.2))
  | [], _ => .nil
  | f :: fs, h => .cons (h f (List.mem_cons_self ..)).1 (h f (List.mem_cons_self ..)).2.1.run (h f (List.mem_cons_self ..)).2.2 (facts_sets (base := base) fun g hg => h g (List.mem_cons_of_mem _ hg))
abbrev hits (vs : List (Int × Int)) (base : Int) (v : Nat) : List Int := (vs.filter fun p => p.1 == (v : Int)).map fun p => p.2.fmod base
theorem setsV_last {base : Int} : ∀ (vs : List (Int × Int)) (st : List Int) (v : Nat), (∀ p ∈ vs, 0 ≤ p.1) → v < st.length → (setsV base vs st).getD v 0 = (st.getD v 0 :: hits vs base v).getD (hits vs base v).length 0
  | [], st, v, _, _ => rfl
  | p :: vs, st, v, hp, hv => by
    have ih := setsV_last (base := base) vs (st.set p.1.toNat (p.2.fmod base)) v (fun q hq => hp q (List.mem_cons_of_mem _ hq)) (by rw [List.length_set]; exact hv)
    have h0 := hp p (List.mem_cons_self ..)
    show (setsV base vs (st.set p.1.toNat (p.2.fmod base))).getD v 0 = _
    rw [ih]
    by_cases h : p.1 = (v : Int)
    · have e1 : (st.set p.1.toNat (p.2.fmod base)).getD v 0 = p.2.fmod base := by
        rw [List.getD, h, Int.toNat_natCast, List.getElem?_set_self hv]; rfl
      have e2 : hits (p :: vs) base v = p.2.fmod base :: hits vs base v := by
        unfold hits; rw [List.filter_cons, if_pos (by simpa using h)]; rfl
      rw [e1, e2]; rfl
    · have e1 : (st.set p.1.toNat (p.2.fmod base)).getD v 0 = st.getD v 0 := by
        rw [List.getD, List.getElem?_set_ne (by omega), List.getD]
      have e2 : hits (p :: vs) base v = hits vs base v := by
        unfold hits; rw [List.filter_cons, if_neg (by simpa using h)]
      rw [e1, e2]
theorem range_getD' (l : List Int) : (List.range l.length).map (fun v => l.getD v 0) = l := by
  apply List.ext_getElem
  · simp
  · intro i h₁ h₂
    simp [List.getD_eq_getElem?_getD, h₂]
abbrev wantV (st : List Int) (fs : List Fact) (base : Int) (v : Nat) : Int := (st.getD v 0 :: (fs.filter fun f => f.1 == (v : Int)).map fun f => f.2.2.fmod base).getD ((fs.filter fun f => f.1 == (v : Int)).map fun f => f.2.2.fmod base).length 0
theorem want_sets {base : Int} {st : List Int} {fs : List Fact} (h : ∀ f ∈ fs, 0 ≤ f.1) : (List.range st.length).map (wantV st fs base) = setsV base (fs.map fun f => (f.1, f.2.2)) st := by
  rw [← range_getD' (setsV base (fs.map fun f => (f.1, f.2.2)) st), setsV_length]
  refine List.map_congr_left fun v hv => ?_
  have hv := List.mem_range.mp hv
  rw [setsV_last _ _ _ (fun p hp => by obtain ⟨f, hf, rfl⟩ := List.mem_map.mp hp; exact h f hf) hv]
  have e : hits (fs.map fun f => (f.1, f.2.2)) base v = (fs.filter fun f => f.1 == (v : Int)).map fun f => f.2.2.fmod base := by
    unfold hits
    rw [List.filter_map, List.map_map]; rfl
  rw [e]
theorem ok_num : PyData.strOk "num" = true := by decide +kernel
theorem ok_var : PyData.strOk "var" = true := by decide +kernel
theorem ok_sub : PyData.strOk "-" = true := by decide +kernel
theorem tails_ok : ∀ ts ∈ tailsL, ∀ t ∈ ts, PyData.strOk t.1 = true := by decide +kernel
theorem gd_tok {n : Nat} {t : Tk} (h : PyData.strOk t.1 = true) : Gd (n + 1) (tokD t) := Gd.tuple (Gds.cons (Gd.str h) (Gds.cons Gd.int Gds.nil))
theorem side_ok (cs : List Int) (r : Int) (st : List Int) (t : Nat) : ∀ x ∈ sideV cs r st t, PyData.strOk x.1 = true := by
  intro x hx
  unfold sideV at hx
  rcases List.mem_append.mp hx with h | h
  · rcases List.mem_append.mp h with h | h
    · simp only [List.mem_cons, List.not_mem_nil, or_false] at h
      rcases h with h | h <;> rw [h] <;> exact ok_var
    · have hlt : (fmV cs r t).toNat < tailsL.length := by
        have f0 : 0 ≤ fmV cs r t := fmod_nonneg (cs.getD (10 + (t : Int)).toNat 0 + r) (b := 8) (by decide)
        have f1 : fmV cs r t < 8 := fmod_lt (cs.getD (10 + (t : Int)).toNat 0 + r) (b := 8) (by decide)
        show _ < 8
        omega
      rw [List.getD, List.getElem?_eq_getElem hlt] at h
      exact tails_ok _ (List.getElem_mem hlt) x h
  · simp only [List.mem_cons, List.not_mem_nil, or_false] at h
    rcases h with h | h <;> rw [h]
    · exact ok_num
    · exact ok_sub
theorem gd_ruleF {fs : List Fact} (h : ∀ f ∈ fs, ∀ x ∈ f.2.1, PyData.strOk x.1 = true) : Gd 15 (ruleD (ruleF fs)) := by
  refine Gd.tuple (Gds.cons (Gd.list (Gds.cons (gd_tok ok_num) Gds.nil)) (Gds.cons (Gd.list ⟨fun e he => ?_⟩) Gds.nil))
  obtain ⟨m, hm, rfl⟩ := List.mem_map.mp he
  obtain ⟨f, hf, rfl⟩ := List.mem_map.mp hm
  refine Gd.tuple (Gds.cons Gd.int (Gds.cons (Gd.list ⟨fun e he => ?_⟩) Gds.nil))
  obtain ⟨x, hx, rfl⟩ := List.mem_map.mp he
  exact gd_tok (h f hf x hx)
abbrev baseV (ns : List Int) : Int := if ((cellV ns 2).fmod 4 == 0) = true then 1 + ((cellV ns 0).natAbs : Int) else 1 + (cellV ns 0).fmod 5
abbrev csV (ns : List Int) : List Int := (List.range 13).map fun i : Nat => cellV ns (i : Int)
theorem cs_len (ns : List Int) : (csV ns).length = 13 := by simp
theorem cs_at (ns : List Int) {i : Int} (h : 0 ≤ i ∧ i < 13) : (csV ns).getD i.toNat 0 = cellV ns i := by
  unfold csV
  rw [List.getD, List.getElem?_map, List.getElem?_range (by omega)]
  show cellV ns ((i.toNat : Nat) : Int) = _
  rw [Int.toNat_of_nonneg h.1]
abbrev startF (base : Int) (st : List Int) : List Int := st.map fun v => (v + 1).fmod base
local macro_rules | `(tactic| walk_at "call") => `(tactic| first
  | (with_reducible refine' Ev.callK (R := CellR) (by assumption) ?_ (CellR.mk (Side.out ?_) (Side.out ?_)) (Now.out ?_) (Now.out ?_) (Now.out ?_) (Now.out ?_)) <;> walk_at "ev"
  | (with_reducible refine' Ev.callK (R := FactsR) (by assumption) ?_ (FactsR.mk (Side.out ?_) (Side.out ?_) (Side.out ?_)) (Now.out ?_) (Now.out ?_) (Now.out ?_) (Now.out ?_)) <;> walk_at "ev"
  | (with_reducible refine' Ev.callK (R := RulesR) (by assumption) ?_ (RulesR.mk (Side.out ?_) (Side.out ?_) (Side.out ?_)) (Now.out ?_) (Now.out ?_) (Now.out ?_) (Now.out ?_)) <;> walk_at "ev")
set_option maxHeartbeats 0 in
theorem law_ok {C : Cx} {f c P bm : Addr} {ob : Obj} {pm code doc dV kV : Value} (B : Bis C) (X : FnAt C f (fdOf dLaw pm code doc dV kV) ["script"] dLaw.body) (K1 : Def C "_law_cell" 1 CellR) (K2 : Def C "_law_facts" 2 FactsR) (K3 : Def C "_law_rules" 1 RulesR) (K4 : Def C "fired" 3 FiredR)
    (hcode : code = .ref c) (hT : C.base.IsCode c P #[] ∧ C.base.TableAt c P #[] ∧ P ≠ cStatics) (hbm : C.mg "__builtins__" = some (.ref bm) ∧ bm ≠ builtinsNs ∧ C.base.get? bm = some ob ∧ ob.cls = .type "module" ∧ ob.dict = some builtinsNs ∧ ob.data = .plain)
    (ns : List Int) (hn : ns.length ≤ 63) (hb : ∀ n ∈ ns, Builtin.Int.intBits n ≤ 1048576) : ∀ L, ExL C 4 (callEnvC (fdOf dLaw pm code doc dV kV) L f) [] (entry ["script"] false [.list (ns.map .int)]) dLaw.body := by
  intro L
  have hcl := cs_len ns
  have hcb : ∀ v ∈ csV ns, Builtin.Int.intBits v ≤ 1048576 := fun v hv => by
    obtain ⟨i, hi, rfl⟩ := List.mem_map.mp hv
    have := List.mem_range.mp hi
    exact cell_bits hb (by omega) (by omega)
  have a0 := cs_at ns (i := 0) (by decide)
  have a1 := cs_at ns (i := 1) (by decide)
  have a2 := cs_at ns (i := 2) (by decide)
  have a3 := cs_at ns (i := 3) (by decide)
  obtain ⟨cs, hcs⟩ : ∃ cs, cs = csV ns := ⟨_, rfl⟩
  rw [← hcs] at hcl hcb a0 a1 a2 a3
  -- the base
  obtain ⟨base, hbase⟩ : ∃ b, b = baseV ns := ⟨_, rfl⟩
  have hb1 : 1 ≤ base := by
    rw [hbase]; have := fmod_nonneg (cellV ns 0) (b := 5) (by decide)
    unfold baseV; split <;> omega
  have hb0 : base ≠ 0 := by omega
  have hbb : Builtin.Int.intBits base ≤ 1048577 := by
    have h0 := cell_bits hb (i := 0) (by decide) (by decide)
    have h1 : Builtin.Int.intBits (1 : Int) ≤ 1 := by decide
    have h5 : Builtin.Int.intBits (5 : Int) ≤ 3 := by decide
    rw [hbase]
    unfold baseV
    split
    · exact intBits_add_le h1 (intBits_natAbs_le h0)
    · exact intBits_add_le h1 (intBits_fmod_le h0 h5)
  have m0 := fmod_nonneg (cellV ns 1) (b := 4) (by decide)
  have m1 := fmod_lt (cellV ns 1) (b := 4) (by decide)
  obtain ⟨st, hst⟩ : ∃ st : List Int, st = ((cs.drop 4).take ((cellV ns 1).fmod 4).toNat).map fun c => c.fmod base := ⟨_, rfl⟩
  have hsl : st.length ≤ 3 := by rw [hst, List.length_map, List.length_take]; omega
  have hsv : ∀ v ∈ st, 0 ≤ v ∧ v < base := fun v hv => by
    rw [hst] at hv
    obtain ⟨c, _, rfl⟩ := List.mem_map.mp hv
    exact ⟨fmod_nonneg _ (by omega), fmod_lt _ (by omega)⟩
  have hsb : ∀ v ∈ st, Builtin.Int.intBits v ≤ 1048577 := fun v hv => intBits_le_of_natAbs (y := base) (by have := hsv v hv; omega) hbb
  have hmm : ∀ i j, IntMulOk (st.getD i 0) (st.getD j 0) := fun i j => IntMulOk.of_le (bits_getD hsb) (bits_getD hsb) (by decide)
  have n0 := fmod_nonneg (cellV ns 2) (b := 3) (by decide)
  have n1 := fmod_lt (cellV ns 2) (b := 3) (by decide)
  obtain ⟨fss, hfss⟩ : ∃ fss : List (List Fact), fss = (List.range (1 + (cellV ns 2).fmod 3).toNat).map fun r : Nat => factsV cs (r : Int) st (cnt cs (r : Int) st).toNat := ⟨_, rfl⟩
  have hfl : fss.length = (1 + (cellV ns 2).fmod 3).toNat := by rw [hfss, List.length_map, List.length_range]
  have hfs : ∀ fs ∈ fss, ∃ r : Int, fs = factsV cs r st (cnt cs r st).toNat := fun fs h => by
    rw [hfss] at h
    obtain ⟨r, _, rfl⟩ := List.mem_map.mp h
    exact ⟨_, rfl⟩
  have hf2 : ∀ fs ∈ fss, fs.length ≤ 1000 := fun fs h => by
    obtain ⟨r, rfl⟩ := hfs fs h
    have := cnt_le cs r st
    unfold factsV; rw [List.length_map, List.length_range]; omega
  have hfm : ∀ fs ∈ fss, ∀ g ∈ fs, ∃ r t, g = factV cs r st t ∧ 0 < (st.length : Int) := fun fs h g hg => by
    obtain ⟨r, rfl⟩ := hfs fs h
    unfold factsV at hg
    obtain ⟨t, ht, rfl⟩ := List.mem_map.mp hg
    have ht := List.mem_range.mp ht
    refine ⟨r, t, rfl, ?_⟩
    unfold cnt at ht
    split at ht
    · rename_i q; exact of_decide_eq_true q
    · exact absurd ht (Nat.not_lt_zero _)
  have hf3 : ∀ fs ∈ fss, ∀ g ∈ fs, g.2.1.length ≤ 1000 := fun fs h g hg => by
    obtain ⟨r, t, rfl, _⟩ := hfm fs h g hg
    exact Nat.le_trans (side_len cs r st t) (by decide)
  obtain ⟨kk, hkk⟩ : ∃ kk : Int, kk = (cellV ns 3).fmod ((fss.length : Int)) := ⟨_, rfl⟩
  have hk0 : 0 ≤ kk ∧ kk < fss.length := by rw [hkk]; exact ⟨fmod_nonneg _ (by omega), fmod_lt _ (by omega)⟩
  have hkn : (fss.length : Int) ≠ 0 := by omega
  obtain ⟨fs, hfk⟩ : ∃ fs, fs = fss.getD kk.toNat [] := ⟨_, rfl⟩
  have hfm' : fs ∈ fss := by rw [hfk, List.getD, List.getElem?_eq_getElem (by omega)]; exact List.getElem_mem _
  have hfg : ∀ g ∈ fs, (0 ≤ g.1 ∧ g.1 < st.length) ∧ Means st g.2.1 g.2.2 ∧ g.2.1.length ≤ 1000 := fun g hg => by
    have h3 := hf3 fs hfm' g hg
    obtain ⟨r, t, rfl, hp⟩ := hfm fs hfm' g hg
    have := fact_mean (cs := cs) (st := st) (r := r) (t := t) hp (fun v hv => (hsv v hv).1) hsb hcb
    exact ⟨this.1, this.2, h3⟩
  have hset := facts_sets (base := base) hfg
  have hfl0 := hf2 fs hfm'
  have hrk : ((fss.map ruleF).getD kk.toNat ([], [])).2 = (ruleF fs).2 := by
    rw [hfk, List.getD, List.getElem?_map, List.getElem?_eq_getElem (by omega), List.getD, List.getElem?_eq_getElem (by omega)]; rfl
  have hrl : (fss.map ruleF).length ≤ 1000 := by rw [List.length_map]; omega
  have hgm : Gd 20 (.tuple [.int base, listD (startF base st), .list ((fss.map ruleF).map ruleD)]) := by
    refine Gd.tuple (Gds.cons Gd.int (Gds.cons (Gd.list Gds.ints) (Gds.cons (Gd.list (n := 18) ⟨fun e he => ?_⟩) Gds.nil)))
    rw [List.map_map] at he
    obtain ⟨fs', hfs', rfl⟩ := List.mem_map.mp he
    refine (gd_ruleF (fs := fs') fun g hg x hx => ?_).mono (by decide)
    obtain ⟨r, t, rfl, _⟩ := hfm fs' hfs' g hg
    exact side_ok cs r st t x hx
  have hwant := want_sets (base := base) (st := st) (fs := fs) fun g hg => (hfg g hg).1.1
  rw [← List.take_append_drop 15 dLaw.body]
  refine ExL.split (O := []) (Γ := [("got", true, listD (setsV base (fs.map fun f => (f.1, f.2.2)) st))]) ?_ ?_
  · show Ex _ _ _ _ _ [_, _, _, _, _, _, _, _, _, _, _, _, _, _, _] _
    refine' Ex.assignOwn (md := false) (ds := (csV ns).map .int) ?_ ?_
    · refine EvF.compRI (n := 13) (fun i => cellV ns (i : Int)) B ?_ (by decide) (by decide) rfl rfl rfl rfl rfl (fun _ => rfl) (fun i hi L => ?_)
      · walk_at "ev"
      · walk_at "ev"
    refine Ex.free ?_
    refine Ex.ctx [("cells", false, listD cs)] (by walk_at "all"; rw [hcs]) ?_
    refine' Ex.assign (md := false) (d := .int (1 + (cellV ns 0).fmod 5)) ?_ ?_
    · rw [← a0]
      walk_at "ev"
    refine Ex.ifJ (b := (cellV ns 2).fmod 4 == 0) ?_ [] [("cells", false, listD cs), ("base", false, .int base)] (fun h => ?_) (fun h => ?_) ?_
    · rw [← a2]
      walk_at "ev"
    · refine' Ex.assign (md := false) (d := .int (1 + ((cellV ns 0).natAbs : Int))) ?_ ?_
      · rw [← a0]
        walk_at "ev"
      walk_at "end"
      rw [hbase]; unfold baseV; rw [if_pos h]
    · walk_at "end"
      rw [hbase]; unfold baseV; rw [if_neg (by rw [h]; decide)]
    refine' Ex.asgL (md := false) (mdi := false) (xs := (cs.drop 4).take ((cellV ns 1).fmod 4).toNat) (g := .int) intOf (fun _ => rfl) (fun c => .int (c.fmod base)) ?_ (by rw [List.length_take]; omega) rfl rfl rfl (fun _ => rfl) rfl rfl (fun a ha L => ?_) ?_
    · refine EvI.list (EvF.v ?_)
      have e : ((cs.drop 4).take ((cellV ns 1).fmod 4).toNat).map PyData.int = ((cs.map PyData.int).drop (4 : Int).toNat).take ((4 + (cellV ns 1).fmod 4) - 4).toNat := by
        rw [List.map_take, List.map_drop, show ((4 + (cellV ns 1).fmod 4) - 4) = (cellV ns 1).fmod 4 from by omega]; rfl
      rw [e]
      refine EvF.mid (ds := cs.map .int) (i := 4) (j := 4 + (cellV ns 1).fmod 4) (by walk_at "ev") (by walk_at "ev") ?_ (by decide) (by omega) (by rw [List.length_map, hcl]; omega) ⟨szl (by rw [List.length_map]; omega)⟩
      rw [← a1]
      walk_at "ev"
    · walk_at "ev"
    have es : ((cs.drop 4).take ((cellV ns 1).fmod 4).toNat).map (fun c => PyData.int (c.fmod base)) = st.map .int := by rw [hst, List.map_map]; rfl
    rw [es]
    refine' Ex.assignOwn (md := false) (ds := st.map .int) ?_ ?_
    · walk_at "ev"
    refine Ex.drop "kept" ?_
    refine' Ex.asgL (md := false) (mdi := false) (xs := st) (g := .int) intOf (fun _ => rfl) (fun v => .int ((v + 1).fmod base)) ?_ (by omega) rfl rfl rfl (fun _ => rfl) rfl rfl (fun a ha L => ?_) ?_
    · walk_at "ev"
    · walk_at "ev"
    refine Ex.drop "start" ?_
    refine' Ex.assignOwn (md := false) (ds := (List.range (1 + (cellV ns 2).fmod 3).toNat).map (fun r : Nat => fsD (factsV cs (r : Int) st (cnt cs (r : Int) st).toNat))) ?_ ?_
    · refine EvF.compR (n := 1 + (cellV ns 2).fmod 3) (fun r => fsD (factsV cs (r : Int) st (cnt cs (r : Int) st).toNat)) B ?_ (by omega) (by omega) rfl rfl rfl rfl rfl (fun _ => rfl) (fun i hi L => ?_)
      · rw [← a2]
        walk_at "ev"
      · walk_at "ev"
    refine Ex.drop "facts" ?_
    have ef : (List.range (1 + (cellV ns 2).fmod 3).toNat).map (fun r : Nat => fsD (factsV cs (r : Int) st (cnt cs (r : Int) st).toNat)) = fss.map fsD := by rw [hfss, List.map_map]; rfl
    rw [ef]
    refine Ex.ctx [("cells", false, listD cs), ("base", false, .int base), ("state", false, listD st), ("kept", false, listD st), ("start", false, listD (startF base st)), ("facts", false, .list (fss.map fsD))] (by walk_at "all"; exact congrArg PyData.list (List.map_map ..).symm) ?_
    show Ex _ _ _ ["state"] _ _ _
    refine' Ex.assign (md := false) (d := .int kk) ?_ ?_
    · have e : kk = (cs.getD (3 : Int).toNat 0).fmod ((fss.map fsD).length : Int) := by rw [hkk, a3, List.length_map]
      have hkn' : ((fss.map fsD).length : Int) ≠ 0 := by rw [List.length_map]; exact hkn
      rw [e]
      walk_at "ev"
    have hf1 : fss.length ≤ 1000 := by omega
    refine' Ex.assign (md := false) (d := .tuple [.int base, listD (startF base st), .list ((fss.map ruleF).map ruleD)]) ?_ ?_
    · walk_at "ev"
    refine' Ex.asgRC (md := true) (n := (st.length : Int)) (fun v => .int (wantV st fs base v)) B ?_ (by omega) (by omega) rfl rfl rfl (fun _ => rfl) (fun _ => rfl) rfl rfl rfl rfl rfl rfl (by decide) (fun _ => rfl) rfl rfl (fun v hv L => ?_) ?_
    · walk_at "ev"
    · generalize hh : ((fs.filter fun f => f.1 == (v : Int)).map fun f => f.2.2.fmod base) = hits
      have hhl : hits.length ≤ 1000 := by rw [← hh, List.length_map]; exact Nat.le_trans (List.length_filter_le _ _) hfl0
      refine Ev.itemNeg (md := true) (ds := [.int (st.getD v 0)] ++ hits.map .int) (i := -1) (Ev.b (EvF.v (EvF.add ?_ (Ev.b (EvF.v ?_)) ?_))) (by walk_at "ev") (by decide) ?_ ?_ ?_ (fun _ _ => ⟨_, rfl⟩)
      · show EvB _ _ _ _ _ _ true (.list [.int (st.getD ((v : Nat) : Int).toNat 0)])
        walk_at "ev"
      · have eh : hits.map PyData.int = (fs.filter fun f => f.1 == (v : Int)).map fun f => PyData.int (f.2.2.fmod base) := by rw [← hh, List.map_map]; rfl
        rw [eh]
        refine EvF.compLF (xs := fs) (g := factD) (mdi := false) factOf fact_inv (fun f => f.1 == (v : Int)) (fun f => .int (f.2.2.fmod base)) ?_ (by omega) rfl rfl rfl (fun _ => rfl) (fun g hg L' => ?_)
        · rw [hfk]
          exact EvI.list (Ev.itemM (g := fsD) (xs := fss) (i := kk) [] (by walk_at "ev") (by walk_at "ev") hk0 ⟨szl (by omega)⟩ (fun _ _ => ⟨_, rfl⟩))
        · refine ⟨?_, ?_⟩
          · walk_at "ev"
          · walk_at "ev"
      · exact szl (by rw [List.length_map]; show 1 + _ ≤ _; omega)
      · rw [List.length_append, List.length_map]; show -((1 + hits.length : Nat) : Int) ≤ -1; omega
      · rw [List.length_append, List.length_map]
        show ((st.getD v 0 :: hits).map PyData.int)[(-1 + ((1 + hits.length : Nat) : Int)).toNat]? = some (.int (wantV st fs base v))
        rw [show (-1 + ((1 + hits.length : Nat) : Int)).toNat = hits.length from by omega, List.getElem?_map]
        have hlt : hits.length < (st.getD v 0 :: hits).length := by rw [List.length_cons]; omega
        rw [List.getElem?_eq_getElem hlt]
        show some (PyData.int _) = _
        congr 2
        unfold wantV
        rw [hh]
        have hg : ∀ (l : List Int) (h : hits.length < l.length), l.getD hits.length 0 = l[hits.length] := fun l h => by rw [List.getD, List.getElem?_eq_getElem h]; rfl
        exact (hg _ hlt).symm
      · exact szl (by rw [List.length_append, List.length_map]; show 1 + _ ≤ _; omega)
    refine Ex.drop "want" ?_
    have ew : (List.range ((st.length : Int)).toNat).map (fun v => PyData.int (wantV st fs base v)) = (setsV base (fs.map fun f => (f.1, f.2.2)) st).map .int := by
      rw [← hwant, List.map_map, Int.toNat_natCast]; rfl
    rw [ew]
    generalize hnew : setsV base (fs.map fun f => (f.1, f.2.2)) st = new at *
    show Ex _ _ _ ["state"] _ _ _
    refine' Ex.assign (md := true) (d := listD new) ?_ ?_
    · rw [← hnew]
      refine Ev.callK (R := FiredR) K4 (args := [.tuple [.int base, listD (startF base st), .list ((fss.map ruleF).map ruleD)], listD st, .int kk]) ?_ (FiredR.mk hb0 (by rw [List.length_map]; exact hk0) (by rw [hrk]; exact hset) hrl (by omega)) (by decide) rfl (by decide) rfl
      refine Evs.cons (by walk_at "ev") (Evs.cons ?_ (by walk_at "ev") rfl) rfl
      exact Ev.lent rfl rfl (by decide) (by decide)
    refine' Ex.ifSkip (b := !PyData.eqv (listD st) (listD st)) ?_ ?_ ?_
    · exact Tst.cmp (Cmp.neG (by walk_at "ev") (by walk_at "ev") (Gd.list Gds.ints) (Gd.list Gds.ints)) rfl
    · rw [eqvI]; rfl
    refine' Ex.ifSkip (b := !PyData.eqv (.tuple [.int base, listD (startF base st), .list ((fss.map ruleF).map ruleD)]) (.tuple [.int base, listD (startF base st), .list ((fss.map ruleF).map ruleD)])) ?_ ?_ ?_
    · refine Tst.cmp (Cmp.neG (by walk_at "ev") (Ev.b (Ev.tuple (Evs.cons (by walk_at "ev") (Evs.cons ?_ (Evs.cons (by walk_at "ev") Evs.nil rfl) rfl) rfl) (szl (by simp)))) hgm hgm) rfl
      have e : listD (startF base st) = .list (st.map fun v => .int ((v + 1).fmod base)) := by unfold listD startF; rw [List.map_map]; rfl
      rw [e]
      refine EvF.v (EvF.compL (md := false) (mdi := false) (xs := st) (g := .int) intOf (fun _ => rfl) (fun v => .int ((v + 1).fmod base)) ?_ (by omega) rfl rfl rfl (fun _ => rfl) (fun a ha L => ?_))
      · walk_at "ev"
      · walk_at "ev"
    · rw [hgm.self]; rfl
    refine' Ex.appendLent (md := false) (mx := false) (d := .int 1) (ds := st.map .int) [("got", true, listD new), ("want", true, listD new)] ?_ rfl ?_ rfl rfl ?_ ?_
    · walk_at "all"
    · walk_at "ev"
    · exact szl (by rw [List.length_map]; omega)
    refine' Ex.ifSkip (b := !PyData.eqv (listD new) (listD new)) ?_ ?_ ?_
    · exact Tst.cmp (Cmp.neG (by walk_at "ev") (by walk_at "ev") (Gd.list Gds.ints) (Gd.list Gds.ints)) rfl
    · rw [eqvI]; rfl
    walk_at "end"
  · show ExL _ _ _ _ _ [_, _]
    have env_code : (callEnvC (fdOf dLaw pm code doc dV kV) L f).code = .ref c := hcode
    refine ExL.all_ (p0 := default) (c := c) (P := P) (bm := bm) (ob := ob) (mx := true) (ns := setsV base (fs.map fun f => (f.1, f.2.2)) st) ⟨env_code, hT.1, hT.2.1, hT.2.2⟩ hbm B.type B.int B.all rfl (fun C' => ?_) rfl (by decide) (by decide) (by decide) rfl rfl (by decide) rfl rfl rfl rfl rfl rfl (fun _ => rfl) (fun _ => rfl) rfl
    walk_at "ret"
    rfl
end Mine

open PySem PySem.W PyProof.Rows Mine
set_option maxHeartbeats 8000000
open_top hdk40032 for PySem.Challenge.rw_k4_0032
theorem PySem.Challenge.cw_k4_0032_holds : PySem.Challenge.rw_k4_0032.Holds :=
  hdk40032 (by
  intro w s₀ s₁ mg mb G Y fa o pm cd doc dV kV ho hd hcd hD hmg hg args vals as hpre hlay hrd hwl hlo
  obtain rfl : dV = .none := hD.pos.elim (fun y => y.2) (fun y => absurd rfl y.1)
  obtain rfl : kV = .none := hD.kw.elim (fun y => y.2) (fun y => absurd rfl y.1)
  have KX := kIn_of Y
  refine Ground.open G ?_
  intro T B D TE TW
  wrow_args hpre hlay hrd hwl hlo
  rename_i ns hs hlay0 hL hr hl2 ws1 ws2 a vs ws3 hil ra w1 r0 hI hr2 hc1 hc2
  obtain ⟨n0, ha⟩ := lst_of hil w1
  have Bi := bis_of (C := (cxOf T PySem.Challenge.rw_k4_0032.row.prog w rfl (T.seer rfl))) T (by decide +kernel) rfl
  obtain ⟨f1, o1, pm1, cd1, doc1, hg1, ho1, hd1, hc1x⟩ := fn_of_top T dApply 0 rfl
  have X1 := fnAt_of (C := (cxOf T PySem.Challenge.rw_k4_0032.row.prog w rfl (T.seer rfl))) (ps := ["op", "a", "b"]) ho1 hd1 hc1x (fun vs h => match vs, h with | [_, _, _], _ => rfl) (by decide) (fun _ => rfl) rfl rfl rfl
  have K1 := Def.of hg1 X1 (apply_ok X1)
  obtain ⟨f2, o2, pm2, cd2, doc2, hg2, ho2, hd2, hc2x⟩ := fn_of_top T dValue 1 rfl
  have X2 := fnAt_of (C := (cxOf T PySem.Challenge.rw_k4_0032.row.prog w rfl (T.seer rfl))) (ps := ["expr", "state"]) ho2 hd2 hc2x (fun vs h => match vs, h with | [_, _], _ => rfl) (by decide) (fun _ => rfl) rfl rfl rfl
  have K2 := Def.of hg2 X2 (value_ok Bi X2 K1)
  obtain ⟨f3, o3, pm3, cd3, doc3, hg3, ho3, hd3, hc3x⟩ := fn_of_top T dFired 2 rfl
  have X3 := fnAt_of (C := (cxOf T PySem.Challenge.rw_k4_0032.row.prog w rfl (T.seer rfl))) (ps := ["model", "state", "k"]) ho3 hd3 hc3x (fun vs h => match vs, h with | [_, _, _], _ => rfl) (by decide) (fun _ => rfl) rfl rfl rfl
  have K3 := Def.of hg3 X3 (fired_ok Bi X3 K2)
  obtain ⟨f4, o4, pm4, cd4, doc4, hg4, ho4, hd4, hc4x⟩ := fn_of_top T dCell 3 rfl
  have X4 := fnAt_of (C := (cxOf T PySem.Challenge.rw_k4_0032.row.prog w rfl (T.seer rfl))) (ps := ["script", "at"]) ho4 hd4 hc4x (fun vs h => match vs, h with | [_, _], _ => rfl) (by decide) (fun _ => rfl) rfl rfl rfl
  have K4 := Def.of hg4 X4 (cell_ok Bi X4)
  obtain ⟨f5, o5, pm5, cd5, doc5, hg5, ho5, hd5, hc5x⟩ := fn_of_top T dWorth 4 rfl
  have X5 := fnAt_of (C := (cxOf T PySem.Challenge.rw_k4_0032.row.prog w rfl (T.seer rfl))) (ps := ["form", "a", "b"]) ho5 hd5 hc5x (fun vs h => match vs, h with | [_, _, _], _ => rfl) (by decide) (fun _ => rfl) rfl rfl rfl
  have K5 := Def.of hg5 X5 (worth_ok Bi X5)
  have TT : TabR (cxOf T PySem.Challenge.rw_k4_0032.row.prog w rfl (T.seer rfl)) "_law_tails" (.list (tailsL.map fun ts => .list (ts.map tokD))) := tabR_of KX 6 (by rfl)
  obtain ⟨f7, o7, pm7, cd7, doc7, hg7, ho7, hd7, hc7x⟩ := fn_of_top T dFacts 5 rfl
  have X7 := fnAt_of (C := (cxOf T PySem.Challenge.rw_k4_0032.row.prog w rfl (T.seer rfl))) (ps := ["cells", "r", "state"]) ho7 hd7 hc7x (fun vs h => match vs, h with | [_, _, _], _ => rfl) (by decide) (fun _ => rfl) rfl rfl rfl
  have K7 := Def.of hg7 X7 (facts_ok Bi X7 K5 TT)
  obtain ⟨f8, o8, pm8, cd8, doc8, hg8, ho8, hd8, hc8x⟩ := fn_of_top T dRules 6 rfl
  have X8 := fnAt_of (C := (cxOf T PySem.Challenge.rw_k4_0032.row.prog w rfl (T.seer rfl))) (ps := ["facts"]) ho8 hd8 hc8x (fun vs h => match vs, h with | [_], _ => rfl) (by decide) (fun _ => rfl) rfl rfl rfl
  have K8 := Def.of hg8 X8 (rules_ok Bi X8)
  have XL := fnAt_of (C := (cxOf T PySem.Challenge.rw_k4_0032.row.prog w rfl (T.seer rfl))) (ps := ["script"]) (d := dLaw) ho hd hcd (fun vs h => match vs, h with | [_], _ => rfl) (by decide) (fun _ => rfl) rfl rfl rfl
  obtain ⟨a', o', fd', c', P', q1, q2, q3, q4, q5, q6⟩ := T.tab dLaw (List.mem_of_getElem? (i := 7) rfl)
  have ea : a' = fa := by have := q1.symm.trans hmg; injection this with this; injection this
  subst ea
  have eo : o' = o := Option.some.inj (q2.symm.trans ho)
  subst eo
  have ec : cd = .ref c' := by rw [hd] at q3; injection q3 with q3; rw [← q3] at q4; exact q4
  obtain ⟨bm, ob, hbm⟩ := T.bmain
  have nP : P' ≠ cStatics := by obtain ⟨mc, n1, _⟩ := T.nolimit; exact Ne.symm (table_ne_ns q6 n1)
  have F := law_ok Bi XL K4 K7 K8 K3 ec ⟨q5, q6, nP⟩ hbm ns (by omega) (bits_of hL)
  exact law_endL rfl rfl rfl XL F (by decide) ha hI hg (fun _ => rfl) (postW_of (X := true) (by first | rfl | (simp [WShape.has]; done)) (by first | rfl | wtm_val) rfl))
