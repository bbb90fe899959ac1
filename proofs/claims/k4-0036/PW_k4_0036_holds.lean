import PyProof.Rows.All
import PyProof.Sched
import PyProof.Calls
import PyProof.Rules2
import PyProof.Lay0
import PyProof.TupleIter
import PyProof.NoPylong
import PyProof.Rules3
import PyProof.SliceList
import PyProof.CallRoads
import PyProof.Cells
import PyProof.Walks
import PyProof.CompFree
import PyProof.PureInt
import PyProof.Conv_bool
import PyProof.ListOps
import PyProof.DictKinds
import PyProof.DictTruth
import PyProof.DictIter
import PyProof.DictDisplay
import PyProof.TupleKey
import PyProof.DictRoadsH
import PyProof.Rows.RowHeap
import PyProof.DictTable
import PyProof.DictValues
import PyProof.DictWalks
import PyProof.IsRules
import PyProof.ForAppend
import PyProof.WalksMore
import PyProof.RangeFor
import PyProof.IsiPairs
import PyProof.LetGo
import PyProof.ListCopy
import PyProof.ListIndexNeg
import PyProof.Rows.SeqRoads
import PyProof.WalkInts
import PyProof.P3In
import PyProof.Rows.Globals
import PyProof.Rows.TupAssign
import PyProof.Rows.TupSub
import PyProof.Rows.SeqGen
import PyProof.WalksPairs
import PyProof.Rows.Exc
import PyProof.Rows.Nodes
import PyProof.Rows.RuleB_mul
import PyProof.Rows.RuleB_pow
import PyProof.Rows.RuleB_floordiv
import PyProof.Rows.RuleB_mod
import PyProof.Rows.Method
import PyProof.Rows.RuleN_abs
import PyProof.TupleOps
import PyProof.Rows.StrRules
import PyProof.Rows.EqDataRows
import PyProof.RulesMatch
import PyProof.Rows.TupTab
import PyProof.Rows.TupDisplay
import PyProof.Rows.SeqMore2
import PyProof.TypeOfCall
import PyProof.TupleOfSeq
import Wide.BridgeG
import OpenK.KLine
import KE.IntBitsLaws
import KE.KItem
import KE.KDictList
import Wide.FinOn
import Wide.All
import Lean
import PySem.Challenge.RW_k4_0036
set_option maxRecDepth 100000
set_option Elab.async false
set_option linter.unusedVariables false
namespace Mine
open PySem PyProof.Rows

/-- the heap only grows -/
def Up (h h' : Heap) : Prop := ∀ b o, h.get? b = some o → h'.get? b = some o
theorem Up.refl (h : Heap) : Up h h := fun _ _ e => e
theorem Up.trans {h h' h'' : Heap} (x : Up h h') (y : Up h' h'') : Up h h'' := fun b o e => y b o (x b o e)
theorem Up.none {h h' : Heap} (x : Up h h') {a : Addr} (e : h'.get? a = none) : h.get? a = none := by
  cases q : h.get? a with
  | none => rfl
  | some o => rw [x a o q] at e; cases e
theorem Up.push (h : Heap) (o : Obj) : Up h (h.push o) := fun _ _ e => Heap.get?_push_of_some o e

abbrev lst (vs : List Value) (n : Nat) : Obj := { cls := .type "list", dict := none, data := .seq vs.toArray n, slots := #[] }
abbrev tup (vs : List Value) (n : Nat) : Obj := { cls := .type "tuple", dict := none, data := .seq vs.toArray n, slots := #[] }

/-- a reference that little is told of: the address, and those of lists that go with it, as a datum -/
abbrev opqs (a : Addr) (bs : List Addr) : PyData := .dict ((.none, .int (Int.ofNat a)) :: bs.map fun b => (.none, .int (Int.ofNat b)))
abbrev opq (a : Addr) : PyData := opqs a []

mutual
/-- the value v is the datum d in the heap h; every list in it lies at an address that is ok -/
inductive Rep (ok : Addr → Prop) (h : Heap) : PyData → Value → Prop
  | none : Rep ok h .none .none
  | bool (b : Bool) : Rep ok h (.bool b) (.bool b)
  | int (i : Int) (t : Tok) : Rep ok h (.int i) (.int i t)
  | str (x : Str) (t : Tok) : Rep ok h (.str x) (.str x t)
  | list {a : Addr} {vs : List Value} {n : Nat} {ds : List PyData} : h.get? a = some (lst vs n) → ok a → RepAll ok h ds vs → Rep ok h (.list ds) (.ref a)
  | tuple {a : Addr} {vs : List Value} {n : Nat} {ds : List PyData} : h.get? a = some (tup vs n) → RepAll ok h ds vs → Rep ok h (.tuple ds) (.ref a)
  | opqs (a : Addr) (bs : List Addr) : (∀ b, b ∈ bs → (∃ vs n, h.get? b = some (lst vs n)) ∧ ok b) → Rep ok h (opqs a bs) (.ref a)
inductive RepAll (ok : Addr → Prop) (h : Heap) : List PyData → List Value → Prop
  | nil : RepAll ok h [] []
  | cons {v : Value} {vs : List Value} {d : PyData} {ds : List PyData} : Rep ok h d v → RepAll ok h ds vs → RepAll ok h (d :: ds) (v :: vs)
end

mutual
theorem Rep.gen {ok ok' : Addr → Prop} {h h' : Heap} (hk : ∀ b vs n, h.get? b = some (lst vs n) → ok b → h'.get? b = some (lst vs n) ∧ ok' b) (ht : ∀ b vs n, h.get? b = some (tup vs n) → h'.get? b = some (tup vs n)) :
    ∀ {d : PyData} {v : Value}, Rep ok h d v → Rep ok' h' d v
  | _, _, .none => .none
  | _, _, .bool b => .bool b
  | _, _, .int i t => .int i t
  | _, _, .str x t => .str x t
  | _, _, .list h1 h2 h3 => .list (hk _ _ _ h1 h2).1 (hk _ _ _ h1 h2).2 (RepAll.gen hk ht h3)
  | _, _, .tuple h1 h3 => .tuple (ht _ _ _ h1) (RepAll.gen hk ht h3)
  | _, _, .opqs a bs x => .opqs a bs fun b hb => let ⟨⟨vs, n, e⟩, o⟩ := x b hb; ⟨⟨vs, n, (hk b vs n e o).1⟩, (hk b vs n e o).2⟩
theorem RepAll.gen {ok ok' : Addr → Prop} {h h' : Heap} (hk : ∀ b vs n, h.get? b = some (lst vs n) → ok b → h'.get? b = some (lst vs n) ∧ ok' b) (ht : ∀ b vs n, h.get? b = some (tup vs n) → h'.get? b = some (tup vs n)) :
    ∀ {ds : List PyData} {vs : List Value}, RepAll ok h ds vs → RepAll ok' h' ds vs
  | _, _, .nil => .nil
  | _, _, .cons h1 h2 => .cons (Rep.gen hk ht h1) (RepAll.gen hk ht h2)
end

section
variable {ok ok' : Addr → Prop} {h h' : Heap} {d : PyData} {v : Value} {ds es : List PyData} {vs ws : List Value}
theorem Rep.up (x : Rep ok h d v) (u : Up h h') : Rep ok h' d v := x.gen (fun b _ _ e o => ⟨u b _ e, o⟩) fun b _ _ e => u b _ e
theorem RepAll.up (x : RepAll ok h ds vs) (u : Up h h') : RepAll ok h' ds vs := x.gen (fun b _ _ e o => ⟨u b _ e, o⟩) fun b _ _ e => u b _ e
theorem Rep.imp (x : Rep ok h d v) (i : ∀ a, ok a → ok' a) : Rep ok' h d v := x.gen (fun b _ _ e o => ⟨e, i b o⟩) fun _ _ _ e => e
theorem RepAll.imp (x : RepAll ok h ds vs) (i : ∀ a, ok a → ok' a) : RepAll ok' h ds vs := x.gen (fun b _ _ e o => ⟨e, i b o⟩) fun _ _ _ e => e
/-- its lists are there -/
theorem Rep.there (x : Rep ok h d v) : Rep (fun a => ok a ∧ h.get? a ≠ Option.none) h d v := x.gen (fun b _ _ e o => ⟨e, o, by rw [e]; intro q; cases q⟩) fun _ _ _ e => e
theorem RepAll.there (x : RepAll ok h ds vs) : RepAll (fun a => ok a ∧ h.get? a ≠ Option.none) h ds vs := x.gen (fun b _ _ e o => ⟨e, o, by rw [e]; intro q; cases q⟩) fun _ _ _ e => e
theorem RepAll.length (x : RepAll ok h ds vs) : vs.length = ds.length := by
  induction vs generalizing ds with
  | nil => cases x; rfl
  | cons v vs ih =>
    cases x with
    | cons _ r => rw [List.length_cons, List.length_cons, ih r]
theorem RepAll.append (x : RepAll ok h ds vs) (y : RepAll ok h es ws) : RepAll ok h (ds ++ es) (vs ++ ws) := by
  induction vs generalizing ds with
  | nil => cases x; exact y
  | cons v vs ih =>
    cases x with
    | cons h r => exact .cons h (ih r)
theorem RepAll.one (x : Rep ok h d v) : RepAll ok h [d] [v] := .cons x .nil
theorem RepAll.get (x : RepAll ok h ds vs) {k : Nat} {d : PyData} (hk : ds[k]? = some d) : ∃ v, vs[k]? = some v ∧ Rep ok h d v := by
  induction vs generalizing ds k with
  | nil => cases x; simp at hk
  | cons v vs ih =>
    cases x with
    | cons h r =>
      cases k with
      | zero => simp at hk; subst hk; exact ⟨v, rfl, h⟩
      | succ k => simpa using ih r (by simpa using hk)
theorem RepAll.getV (x : RepAll ok h ds vs) {k : Nat} {v : Value} (hk : vs[k]? = some v) : ∃ d, ds[k]? = some d ∧ Rep ok h d v := by
  induction vs generalizing ds k with
  | nil => simp at hk
  | cons u vs ih =>
    cases x with
    | cons h r =>
      cases k with
      | zero => simp at hk; subst hk; exact ⟨_, rfl, h⟩
      | succ k => simpa using ih r (by simpa using hk)
theorem RepAll.take (x : RepAll ok h ds vs) (n : Nat) : RepAll ok h (ds.take n) (vs.take n) := by
  induction vs generalizing ds n with
  | nil => cases x; simp; exact .nil
  | cons v vs ih =>
    cases x with
    | cons h r =>
      cases n with
      | zero => exact .nil
      | succ n => exact .cons h (ih r n)
theorem RepAll.drop (x : RepAll ok h ds vs) (n : Nat) : RepAll ok h (ds.drop n) (vs.drop n) := by
  induction vs generalizing ds n with
  | nil => cases x; simp; exact .nil
  | cons v vs ih =>
    cases x with
    | cons h r =>
      cases n with
      | zero => exact .cons h r
      | succ n => exact ih r n
theorem RepAll.set (x : RepAll ok h ds vs) (n : Nat) (y : Rep ok h d v) : RepAll ok h (ds.set n d) (vs.set n v) := by
  induction vs generalizing ds n with
  | nil => cases x; simp; exact .nil
  | cons w vs ih =>
    cases x with
    | cons h r =>
      cases n with
      | zero => exact .cons y r
      | succ n => exact .cons h (ih r n)
end

mutual
theorem Rep.reads {ok : Addr → Prop} {h : Heap} : ∀ {d : PyData} {v : Value}, Rep ok h d v → d.canLay0 = true → ∃ as, Reads h v d as
  | _, _, .none, _ => ⟨_, .none⟩
  | _, _, .bool b, _ => ⟨_, .bool b⟩
  | _, _, .int i t, _ => ⟨_, .int i t⟩
  | _, _, .str x t, _ => ⟨_, .str x t⟩
  | _, _, .list h1 _ h3, c => let ⟨_, r⟩ := RepAll.reads h3 (by rw [PyData.canLay0] at c; exact c); ⟨_, .list h1 rfl rfl (by simpa using r)⟩
  | _, _, .tuple h1 h3, c => let ⟨_, r⟩ := RepAll.reads h3 (by rw [PyData.canLay0] at c; exact c); ⟨_, .tuple h1 rfl rfl (by simpa using r)⟩
  | _, _, .opqs a bs _, c => by rw [PyData.canLay0] at c; cases c
theorem RepAll.reads {ok : Addr → Prop} {h : Heap} : ∀ {ds : List PyData} {vs : List Value}, RepAll ok h ds vs → PyData.canLayAll0 ds = true → ∃ as, ReadsAll h vs ds as
  | _, _, .nil, _ => ⟨_, .nil⟩
  | _, _, .cons h1 h2, c => let ⟨_, r⟩ := Rep.reads h1 (by rw [PyData.canLayAll0] at c; exact (Bool.and_eq_true_iff.mp c).1); let ⟨_, q⟩ := RepAll.reads h2 (by rw [PyData.canLayAll0] at c; exact (Bool.and_eq_true_iff.mp c).2); ⟨_, .cons r q⟩
end

/-- no list in it -/
def atom : PyData → Bool
  | .none | .bool _ | .int _ | .str _ => true
  | _ => false
theorem Rep.atom {ok ok' : Addr → Prop} {h h' : Heap} {d : PyData} {v : Value} (x : Rep ok h d v) (ha : Mine.atom d = true) : Rep ok' h' d v := by
  cases x with
  | none => exact .none
  | bool b => exact .bool b
  | int i t => exact .int i t
  | str x t => exact .str x t
  | list => cases ha
  | tuple => cases ha
  | opqs a bs x => cases ha
theorem RepAll.atoms {ok ok' : Addr → Prop} {h h' : Heap} {ds : List PyData} {vs : List Value} (x : RepAll ok h ds vs) (ha : ds.all Mine.atom = true) : RepAll ok' h' ds vs := by
  induction vs generalizing ds with
  | nil => cases x; exact .nil
  | cons v vs ih =>
    cases x with
    | cons h r =>
      simp only [List.all_cons, Bool.and_eq_true] at ha
      exact .cons (h.atom ha.1) (ih r ha.2)

/-- as Rep, but a list's own address may be any -/
def RepB (ok : Addr → Prop) (h : Heap) (d : PyData) (v : Value) : Prop := match d with
  | .list ds => ∃ a vs n, v = .ref a ∧ h.get? a = some (lst vs n) ∧ RepAll ok h ds vs
  | d => Rep ok h d v
theorem Rep.b {ok : Addr → Prop} {h : Heap} {d : PyData} {v : Value} (x : Rep ok h d v) : RepB ok h d v := by
  cases x with
  | list h1 h2 h3 => exact ⟨_, _, _, rfl, h1, h3⟩
  | none => exact .none
  | bool b => exact .bool b
  | int i t => exact .int i t
  | str x t => exact .str x t
  | tuple h1 h3 => exact .tuple h1 h3
  | opqs a bs x => exact Rep.opqs (ok := ok) (h := h) a bs x
theorem RepB.up {ok : Addr → Prop} {h h' : Heap} {d : PyData} {v : Value} (x : RepB ok h d v) (u : Up h h') : RepB ok h' d v := by
  cases d with
  | list ds => obtain ⟨a, vs, n, e, h1, h3⟩ := x; exact ⟨a, vs, n, e, u _ _ h1, h3.up u⟩
  | _ => exact Rep.up (d := _) x u
theorem RepB.reads {ok : Addr → Prop} {h : Heap} {d : PyData} {v : Value} (x : RepB ok h d v) (c : d.canLay0 = true) : ∃ as, Reads h v d as := by
  cases d with
  | list ds =>
    obtain ⟨a, vs, n, e, h1, h3⟩ := x
    obtain ⟨as, r⟩ := h3.reads (by rw [PyData.canLay0] at c; exact c)
    subst e
    exact ⟨_, .list h1 rfl rfl (by simpa using r)⟩
  | _ => exact Rep.reads (d := _) x c
end Mine

namespace Mine
open PySem PyProof.Rows

/-- what a call finds at the top: the program, the world, the heap at the law's call -/
structure Cx where
  prog : Program
  w : World
  base : Heap
  mg : Str → Option Value
  mb : Str → Option Value
  g : base.Ns mainGlobals mg
  b : base.Ns builtinsNs mb
  lim : base.NoLimit
  bi : ∀ x : Str, x ≠ "__name__" → mb x = bootBuiltins x
  tree : prog.given.tree = none
  seer : base.NoSeer
/-- room for k calls more -/
structure Room (k : Nat) (A : Around) : Prop where
  hh : A.handled = none
  depth : A.depth + k + 100 < recursionLimit
  units : A.units + 8 * k + 80 < cLine
  fr : ∃ l, A.frames = some l
/-- the frame that runs -/
structure TopEnv (A : Around) : Prop where
  is : ∃ e l, A.frames = some (e :: l) ∧ e.scope.isGenerator = false ∧ e.scope.isCoroutine = false ∧ e.builtins = builtinsNs ∧ e.globals = mainGlobals
structure EnvOk (env : Env) : Prop where
  kind : env.scope.kind = .function
  glob : env.globals = mainGlobals
  bi : env.builtins = builtinsNs
/-- the frame's name x holds v -/
def Look (env : Env) (h : Heap) (x : Str) (v : Value) : Prop :=
  (env.kindOf x = some .local ∧ ∃ m, h.Ns env.locals m ∧ m x = some v) ∨
  ((env.kindOf x = some .cell ∨ env.kindOf x = some .free) ∧ ∃ c, env.cells.lookup x = some c ∧ h.IsCell c (some v))
theorem Look.up {env : Env} {h h' : Heap} {x : Str} {v : Value} (l : Look env h x v) (u : Up h h') : Look env h' x v := by
  rcases l with ⟨k, m, n, e⟩ | ⟨k, c, e, i⟩
  · exact .inl ⟨k, m, n.keeps u, e⟩
  · exact .inr ⟨k, c, e, i.keeps u⟩
theorem Look.load {M : Model} {A : Around} {env : Env} {s : Shared} {x : Str} {v : Value} {Q : Value → Shared → Prop} {E : Value → Shared → Prop} (hk : env.scope.kind = .function) (l : Look env s.heap x v) (h : Q v s)
    (hn : (x == ("__classdict__" : Str)) = false) : wpAny M A (loadName env x) Q E s := by
  rcases l with ⟨k, m, n, e⟩ | ⟨k | k, c, e, i⟩
  · exact wpAny_loadName_local hk k n e h
  · exact wpAny_loadName_cell hk k e i h
  · exact wpAny_loadName_free hk k e i h hn

abbrev DEnv := Str → Option (Bool × PyData)
def upd (ρ : DEnv) (x : Str) (md : Bool) (d : PyData) : DEnv := fun y => if y = x then some (md, d) else ρ y

/-- names whose own list may be lent out: it may lie in data of the mode false -/
def lentName (x : Str) : Bool := x == "start" || x == "first" || x == "state"
def okW (ok : Bool → Addr → Prop) (W : Str → Option Addr) (md : Bool) (a : Addr) : Prop := ok md a ∧ ∀ y, W y = some a → lentName y = true ∧ md = false
def Holds1 (ok : Bool → Addr → Prop) (W : Str → Option Addr) (h : Heap) (x : Str) (md : Bool) (d : PyData) (v : Value) : Prop := match W x with
  | none => Rep (okW ok W md) h d v
  | some a => v = .ref a ∧ ∃ ds vs n, d = .list ds ∧ h.get? a = some (lst vs n) ∧ RepAll (okW ok W md) h ds vs
theorem Holds1.up {ok : Bool → Addr → Prop} {W : Str → Option Addr} {h h' : Heap} {x : Str} {md : Bool} {d : PyData} {v : Value} (y : Holds1 ok W h x md d v) (u : Up h h') : Holds1 ok W h' x md d v := by
  unfold Holds1 at *
  split at y
  · exact y.up u
  · obtain ⟨e, ds, vs, n, e', g, r⟩ := y
    exact ⟨e, ds, vs, n, e', u _ _ g, r.up u⟩
theorem Holds1.b {ok : Bool → Addr → Prop} {W : Str → Option Addr} {h : Heap} {x : Str} {md : Bool} {d : PyData} {v : Value} (y : Holds1 ok W h x md d v) : RepB (okW ok W md) h d v := by
  unfold Holds1 at y
  split at y
  · exact y.b
  · obtain ⟨e, ds, vs, n, e', g, r⟩ := y
    subst e'
    exact ⟨_, vs, n, e, g, r⟩

structure Cur (C : Cx) (k : Nat) (A : Around) (ok : Bool → Addr → Prop) (W : Str → Option Addr) (own : List Str) (env : Env) (ρ : DEnv) (s : Shared) : Prop where
  room : Room k A
  top : TopEnv A
  eok : EnvOk env
  up : Up C.base s.heap
  new : ∀ md a, s.heap.get? a = none → ok md a
  le : ∀ a, ok true a → ok false a
  own : ∀ x a, W x = some a → x ∈ own ∧ s.heap.get? a ≠ none ∧ ok false a
  inj : ∀ x y a, W x = some a → W y = some a → x = y
  has : ∀ x md d, ρ x = some (md, d) → ∃ v, Look env s.heap x v ∧ Holds1 ok W s.heap x md d v

section
variable {C : Cx} {k : Nat} {A : Around} {ok : Bool → Addr → Prop} {W : Str → Option Addr} {own : List Str} {env : Env} {ρ : DEnv} {s : Shared}
theorem Cur.on (c : Cur C k A ok W own env ρ s) {h' : Heap} (u : Up s.heap h') (tk : Nat) : Cur C k A ok W own env ρ { s with heap := h', toks := tk } where
  room := c.room
  top := c.top
  eok := c.eok
  up := c.up.trans u
  new := fun md a e => c.new md a (u.none e)
  le := c.le
  own := fun x a e => ⟨(c.own x a e).1, fun q => (c.own x a e).2.1 (u.none q), (c.own x a e).2.2⟩
  inj := c.inj
  has := fun x md d e => let ⟨v, l, y⟩ := c.has x md d e; ⟨v, l.up u, y.up u⟩
theorem Cur.okNew (c : Cur C k A ok W own env ρ s) {a : Addr} (md : Bool) (e : s.heap.get? a = none) : okW ok W md a := ⟨c.new md a e, fun y q => absurd e (c.own y a q).2.1⟩
theorem okW_le (le : ∀ a, ok true a → ok false a) {md md' : Bool} (h : (!md || md') = true) {a : Addr} (x : okW ok W md' a) : okW ok W md a := by
  cases md <;> cases md' <;> first | exact x | exact ⟨le _ x.1, fun y q => absurd (x.2 y q).2 (by decide)⟩ | cases h
end

/-- the expression e of the frame env gives the datum d (its lists not owned by the frame) -/
def Ev (C : Cx) (k : Nat) (env : Env) (own : List Str) (ρ : DEnv) (e : Expr) (md : Bool) (d : PyData) : Prop :=
  ∀ A ok W s Q E, Cur C k A ok W own env ρ s → (∀ v h' tk, Up s.heap h' → Rep (okW ok W md) h' d v → Q v { s with heap := h', toks := tk }) → wpAny (model C.prog C.w) A (eval e env) Q E s
/-- as Ev, but it may be a list that the frame owns -/
def EvB (C : Cx) (k : Nat) (env : Env) (own : List Str) (ρ : DEnv) (e : Expr) (md : Bool) (d : PyData) : Prop :=
  ∀ A ok W s Q E, Cur C k A ok W own env ρ s → (∀ v h' tk, Up s.heap h' → RepB (okW ok W md) h' d v → Q v { s with heap := h', toks := tk }) → wpAny (model C.prog C.w) A (eval e env) Q E s
/-- a list that nothing else holds -/
def EvF (C : Cx) (k : Nat) (env : Env) (own : List Str) (ρ : DEnv) (e : Expr) (md : Bool) (ds : List PyData) : Prop :=
  ∀ A ok W s Q E, Cur C k A ok W own env ρ s → (∀ a vs n h' tk, Up s.heap h' → s.heap.get? a = none → h'.get? a = some (lst vs n) → RepAll (fun b => okW ok W md b ∧ b ≠ a) h' ds vs → Q (.ref a) { s with heap := h', toks := tk }) →
    wpAny (model C.prog C.w) A (eval e env) Q E s
/-- the test e comes out as b -/
def Tst (C : Cx) (k : Nat) (env : Env) (own : List Str) (ρ : DEnv) (e : Expr) (b : Bool) : Prop :=
  ∀ A ok W s Q E, Cur C k A ok W own env ρ s → (∀ h' tk, Up s.heap h' → Q b { s with heap := h', toks := tk }) → wpAny (model C.prog C.w) A (isTrue e env (eval e env)) Q E s
/-- e gives the value v, no object of the call's (a class, a built-in) -/
def EvK (C : Cx) (k : Nat) (env : Env) (own : List Str) (ρ : DEnv) (e : Expr) (v : Value) : Prop :=
  ∀ A ok W s Q E, Cur C k A ok W own env ρ s → (∀ h' tk, Up s.heap h' → Q v { s with heap := h', toks := tk }) → wpAny (model C.prog C.w) A (eval e env) Q E s
/-- the expressions es, one behind the other -/
def Evs (C : Cx) (k : Nat) (env : Env) (own : List Str) (ρ : DEnv) (es : List Expr) (md : Bool) (ds : List PyData) : Prop :=
  ∀ A ok W s Q E (pos : Pos), Cur C k A ok W own env ρ s → (∀ vs h' tk, Up s.heap h' → RepAll (okW ok W md) h' ds vs → Q vs { s with heap := h', toks := tk }) →
    wpAny (model C.prog C.w) A (spliced (backTo pos (starEach es env))) Q E s

section
variable {C : Cx} {k : Nat} {env : Env} {own : List Str} {ρ : DEnv} {e l r : Expr} {es : List Expr} {md md' ml mr : Bool} {d : PyData} {ds : List PyData} {pos : Pos} {i j : Int}

theorem Ev.b (x : Ev C k env own ρ e md d) : EvB C k env own ρ e md d := fun A ok W s Q E c q => x A ok W s Q E c fun v h' tk u y => q v h' tk u y.b
theorem EvB.at (x : EvB C k env own ρ e md' d) (h : atom d = true) : Ev C k env own ρ e md d := fun A ok W s Q E c q => x A ok W s Q E c fun v h' tk u y => q v h' tk u (by
  have z : Rep (okW ok W md') h' d v := by cases d <;> first | exact y | cases h
  exact z.atom h)
theorem EvF.v (x : EvF C k env own ρ e md ds) : Ev C k env own ρ e md (.list ds) := fun A ok W s Q E c q => x A ok W s Q E c fun a vs n h' tk u f g y => q _ h' tk u (.list g (c.okNew md f) (y.imp fun _ z => z.1))
theorem EvB.name {x : Str} (h : ρ x = some (md', d)) (hm : (!md || md' || atom d) = true := by rfl) (hd : (x == ("__debug__" : Str)) = false := by decide) (hn : (x == ("__classdict__" : Str)) = false := by decide) :
    EvB C k env own ρ (.Name x pos) md d := fun A ok W s Q E c q => by
  obtain ⟨v, lk, y⟩ := c.has x md' d h
  refine wpAny_Name (lk.load c.eok.kind (q v s.heap s.toks (Up.refl _) ?_) hn) hd
  cases ha : atom d with
  | true =>
    have z := y.b
    have z : Rep (okW ok W md') s.heap d v := by cases d <;> first | exact z | cases ha
    exact (z.atom ha).b
  | false =>
    have hm' : (!md || md') = true := by rw [ha] at hm; simpa using hm
    have z := y.b
    cases d with
    | list ds => obtain ⟨a, vs, n, e1, e2, e3⟩ := z; exact ⟨a, vs, n, e1, e2, e3.imp fun _ => okW_le c.le hm'⟩
    | _ => exact Rep.imp (d := _) z fun _ => okW_le c.le hm'
theorem Ev.name {x : Str} (h : ρ x = some (md', d)) (ho : own.contains x = false) (hm : (!md || md' || atom d) = true := by rfl) (hd : (x == ("__debug__" : Str)) = false := by decide) (hn : (x == ("__classdict__" : Str)) = false := by decide) :
    Ev C k env own ρ (.Name x pos) md d := fun A ok W s Q E c q => by
  obtain ⟨v, lk, y⟩ := c.has x md' d h
  refine wpAny_Name (lk.load c.eok.kind (q v s.heap s.toks (Up.refl _) ?_) hn) hd
  have hW : W x = none := by
    cases hw : W x with
    | none => rfl
    | some a =>
      have := (c.own x a hw).1
      rw [← List.contains_iff_mem, ho] at this
      cases this
  unfold Holds1 at y
  rw [hW] at y
  cases ha : atom d with
  | true => exact y.atom ha
  | false =>
    have hm' : (!md || md') = true := by rw [ha] at hm; simpa using hm
    exact y.imp fun _ => okW_le c.le hm'

theorem Ev.int {n : Nat} : Ev C k env own ρ (.Constant (.int i) n pos) md (.int i) := fun _ _ _ s _ _ _ q => wpAny_Constant_int (q _ s.heap _ (Up.refl _) (.int _ _))
theorem Ev.str {x : Str} {n : Nat} : Ev C k env own ρ (.Constant (.str x) n pos) md (.str x) := fun _ _ _ s _ _ _ q => PySem.wpAny_Constant_str (q _ s.heap _ (Up.refl _) (.str _ _))
theorem Ev.bool {x : Bool} {n : Nat} : Ev C k env own ρ (.Constant (.bool x) n pos) md (.bool x) := fun _ _ _ s _ _ _ q => PySem.wpAny_Constant_bool (q _ s.heap s.toks (Up.refl _) (.bool _))
theorem RepB.int_inv {ok : Addr → Prop} {h : Heap} {v : Value} (x : RepB ok h (.int i) v) : ∃ t, v = .int i t := by
  have x : Rep ok h (.int i) v := x
  cases x; exact ⟨_, rfl⟩
theorem RepB.str_inv {ok : Addr → Prop} {h : Heap} {v : Value} {y : Str} (x : RepB ok h (.str y) v) : ∃ t, v = .str y t := by
  have x : Rep ok h (.str y) v := x
  cases x; exact ⟨_, rfl⟩
/-- two operands, ints -/
theorem two_int (hl : EvB C k env own ρ l false (.int i)) (hr : EvB C k env own ρ r false (.int j)) {A ok W s} {E : Value → Shared → Prop} {F : Value → Value → Sem Value} {Q : Value → Shared → Prop} (c : Cur C k A ok W own env ρ s)
    (h : ∀ t u h' tk, Up s.heap h' → wpAny (model C.prog C.w) A (F (.int i t) (.int j u)) Q E { s with heap := h', toks := tk }) :
    wpAny (model C.prog C.w) A (eval l env) (fun x s₁ => wpAny (model C.prog C.w) A (eval r env) (fun y s₂ => wpAny (model C.prog C.w) A (F x y) Q E s₂) E s₁) E s := by
  refine hl A ok W s _ E c fun v h' tk u y => ?_
  obtain ⟨t, rfl⟩ := y.int_inv
  refine hr A ok W _ _ E (c.on u tk) fun v' h'' tk' u' y' => ?_
  obtain ⟨t', rfl⟩ := y'.int_inv
  exact h t t' h'' tk' (u.trans u')

theorem Ev.add (hl : EvB C k env own ρ l false (.int i)) (hr : EvB C k env own ρ r false (.int j)) : Ev C k env own ρ (.BinOp l .Add r pos) md (.int (i + j)) :=
  fun _ _ _ _ _ _ c q => wpAny_BinOp (two_int hl hr c fun _ _ _ _ u => P.add_int (q _ _ _ u (.int _ _)))
theorem Ev.sub (hl : EvB C k env own ρ l false (.int i)) (hr : EvB C k env own ρ r false (.int j)) : Ev C k env own ρ (.BinOp l .Sub r pos) md (.int (i - j)) :=
  fun _ _ _ _ _ _ c q => wpAny_BinOp (two_int hl hr c fun _ _ _ _ u => P.sub_int (q _ _ _ u (.int _ _)))
theorem Ev.neg (hl : EvB C k env own ρ l false (.int i)) : Ev C k env own ρ (.UnaryOp .USub l pos) md (.int (-i)) := fun A ok W s Q E c q =>
  PySem.wpAny_UnaryOp (hl A ok W s _ E c fun v h' tk u y => by
    obtain ⟨t, rfl⟩ := y.int_inv
    exact P.neg_int (q _ _ _ u (.int _ _)))

theorem Evs.nil : Evs C k env own ρ [] md [] := fun _ _ _ s _ _ _ _ q => args_nil (q [] s.heap s.toks (Up.refl _) .nil)
theorem Evs.cons (h : Ev C k env own ρ e md d) (t : Evs C k env own ρ es md ds) (he : starEach (e :: es) env = (false, eval e env) :: starEach es env := by rfl) : Evs C k env own ρ (e :: es) md (d :: ds) :=
  fun A ok W s Q E pos c q => args_cons (h A ok W s _ E c fun v h' tk u y => t A ok W _ _ E pos (c.on u tk) fun vs h'' tk' u' y' => q _ h'' tk' (u.trans u') (.cons (y.up u') y')) he
end

end Mine

namespace Mine
open PySem PyProof.Rows

/-- what the frame's name x holds, by the two maps of a frame -/
def val (env : Env) (m cm : Str → Option Value) (x : Str) : Option Value :=
  if env.kindOf x = some .local then m x else if env.kindOf x = some .cell then (env.cells.lookup x).bind fun _ => cm x else none
theorem val_look {env : Env} {m cm : Str → Option Value} {h : Heap} {x : Str} {v : Value} (hn : h.Ns env.locals m) (hc : ∀ n c, env.cells.lookup n = some c → h.IsCell c (cm n)) (e : val env m cm x = some v) : Look env h x v := by
  unfold val at e
  split at e
  · rename_i k; exact .inl ⟨k, m, hn, e⟩
  · split at e
    · rename_i k
      cases q : env.cells.lookup x with
      | none => rw [q] at e; cases e
      | some c =>
        rw [q] at e
        have i := hc x c q
        have e' : cm x = some v := e
        rw [e'] at i
        exact .inr ⟨.inl k, c, q, i⟩
    · cases e

/-- an object that is no list and no tuple is changed: data stay -/
theorem Rep.but {ok : Addr → Prop} {h h' : Heap} {c : Addr} {d : PyData} {v : Value} (x : Rep ok h d v) (hs : Heap.SameBut c h h') (hl : ∀ vs n, h.get? c ≠ some (lst vs n)) (ht : ∀ vs n, h.get? c ≠ some (tup vs n)) : Rep ok h' d v :=
  x.gen (fun b vs n e o => ⟨hs.extBut b _ (fun q => hl vs n (q ▸ e)) e, o⟩) fun b vs n e => hs.extBut b _ (fun q => ht vs n (q ▸ e)) e
theorem RepAll.but {ok : Addr → Prop} {h h' : Heap} {c : Addr} {ds : List PyData} {vs : List Value} (x : RepAll ok h ds vs) (hs : Heap.SameBut c h h') (hl : ∀ vs n, h.get? c ≠ some (lst vs n)) (ht : ∀ vs n, h.get? c ≠ some (tup vs n)) : RepAll ok h' ds vs :=
  x.gen (fun b vs n e o => ⟨hs.extBut b _ (fun q => hl vs n (q ▸ e)) e, o⟩) fun b vs n e => hs.extBut b _ (fun q => ht vs n (q ▸ e)) e
theorem Holds1.but {ok : Bool → Addr → Prop} {W : Str → Option Addr} {h h' : Heap} {c : Addr} {x : Str} {md : Bool} {d : PyData} {v : Value} (y : Holds1 ok W h x md d v) (hs : Heap.SameBut c h h') (hl : ∀ vs n, h.get? c ≠ some (lst vs n)) (ht : ∀ vs n, h.get? c ≠ some (tup vs n)) : Holds1 ok W h' x md d v := by
  unfold Holds1 at *
  split at y
  · exact y.but hs hl ht
  · obtain ⟨e, ds, vs, n, e', g, r⟩ := y
    exact ⟨e, ds, vs, n, e', hs.extBut _ _ (fun q => hl vs n (q ▸ g)) g, r.but hs hl ht⟩
theorem ns_no_lst {h : Heap} {L : Addr} {m : Str → Option Value} (hn : h.Ns L m) : (∀ vs n, h.get? L ≠ some (lst vs n)) ∧ (∀ vs n, h.get? L ≠ some (tup vs n)) := by
  obtain ⟨o, es, ep, ho, hd, _⟩ := hn
  constructor <;> intro vs n e <;> rw [ho] at e <;> cases e <;> cases hd
theorem cell_no_lst {h : Heap} {c : Addr} {v : Option Value} (hn : h.IsCell c v) : (∀ vs n, h.get? c ≠ some (lst vs n)) ∧ (∀ vs n, h.get? c ≠ some (tup vs n)) := by
  obtain ⟨o, ho, hd⟩ := hn
  constructor <;> intro vs n e <;> rw [ho] at e <;> cases e <;> cases hd

/-- the state of a frame between two statements -/
structure Sta (C : Cx) (k : Nat) (A : Around) (hN : Heap) (ok : Bool → Addr → Prop) (s₀ : Shared) (Kp : Addr → Obj → Prop) (env : Env) (own : List Str) (W : Str → Option Addr) (ρ : DEnv) (s : Shared) : Prop where
  room : Room k A
  top : TopEnv A
  eok : EnvOk env
  up : Up C.base hN
  new : ∀ md a, hN.get? a = none → ok md a
  le : ∀ a, ok true a → ok false a
  kpN : ∀ b o, hN.get? b = some o → Kp b o
  same : ∃ h tk, s = { s₀ with heap := h, toks := tk }
  keep : ∀ b o, Kp b o → s.heap.get? b = some o
  newL : ∀ o, ¬ Kp env.locals o
  newC : ∀ n c o, env.cells.lookup n = some c → ¬ Kp c o
  apart : env.cells.Pairwise fun x y => x.2 ≠ y.2
  frm : ∃ m cm, s.heap.Ns env.locals m ∧ (∀ n c, env.cells.lookup n = some c → s.heap.IsCell c (cm n)) ∧ ∀ x md d, ρ x = some (md, d) → ∃ v, val env m cm x = some v ∧ Holds1 ok W s.heap x md d v
  own1 : ∀ x, (∃ a, W x = some a) ↔ x ∈ own
  own2 : ∀ x a, W x = some a → (∀ o, ¬ Kp a o) ∧ ∃ vs n, s.heap.get? a = some (lst vs n)
  inj : ∀ x y a, W x = some a → W y = some a → x = y

section
variable {C : Cx} {k : Nat} {A : Around} {hN : Heap} {ok : Bool → Addr → Prop} {s₀ : Shared} {Kp Kp' : Addr → Obj → Prop} {env : Env} {own : List Str} {W : Str → Option Addr} {ρ : DEnv} {s : Shared}
theorem Sta.upH (S : Sta C k A hN ok s₀ Kp env own W ρ s) : Up hN s.heap := fun b o e => S.keep b o (S.kpN b o e)
theorem Sta.cur (S : Sta C k A hN ok s₀ Kp env own W ρ s) : Cur C k A ok W own env ρ s where
  room := S.room
  top := S.top
  eok := S.eok
  up := S.up.trans S.upH
  new := fun md a e => S.new md a (S.upH.none e)
  le := S.le
  own := fun x a e => by
    refine ⟨(S.own1 x).mp ⟨a, e⟩, fun q => ?_, S.new false a ?_⟩
    · obtain ⟨vs, n, g⟩ := (S.own2 x a e).2
      rw [g] at q; cases q
    · cases z : hN.get? a with
      | none => rfl
      | some o => exact absurd (S.kpN a o z) ((S.own2 x a e).1 o)
  inj := S.inj
  has := fun x md d e => let ⟨m, cm, hn, hc, hv⟩ := S.frm; let ⟨v, l, y⟩ := hv x md d e; ⟨v, val_look hn hc l, y⟩
theorem Sta.on (S : Sta C k A hN ok s₀ Kp env own W ρ s) {h' : Heap} (u : Up s.heap h') (tk : Nat) : Sta C k A hN ok s₀ Kp env own W ρ { s with heap := h', toks := tk } where
  room := S.room
  top := S.top
  eok := S.eok
  up := S.up
  new := S.new
  le := S.le
  kpN := S.kpN
  same := let ⟨h, t, e⟩ := S.same; ⟨h', tk, by rw [e]⟩
  keep := fun b o e => u b o (S.keep b o e)
  newL := S.newL
  newC := S.newC
  apart := S.apart
  frm := let ⟨m, cm, hn, hc, hv⟩ := S.frm; ⟨m, cm, hn.keeps u, fun n c e => (hc n c e).keeps u, fun x md d e => let ⟨v, l, y⟩ := hv x md d e; ⟨v, l, y.up u⟩⟩
  own1 := S.own1
  own2 := fun x a e => ⟨(S.own2 x a e).1, let ⟨vs, n, g⟩ := (S.own2 x a e).2; ⟨vs, n, u _ _ g⟩⟩
  inj := S.inj
/-- fewer things kept -/
theorem Sta.lessKp (S : Sta C k A hN ok s₀ Kp' env own W ρ s) (h : ∀ b o, Kp b o → Kp' b o) (hk : ∀ b o, hN.get? b = some o → Kp b o) : Sta C k A hN ok s₀ Kp env own W ρ s where
  room := S.room
  top := S.top
  eok := S.eok
  up := S.up
  new := S.new
  le := S.le
  kpN := hk
  same := S.same
  keep := fun b o e => S.keep b o (h b o e)
  newL := fun o e => S.newL o (h _ _ e)
  newC := fun n c o e q => S.newC n c o e (h _ _ q)
  apart := S.apart
  frm := S.frm
  own1 := S.own1
  own2 := fun x a e => ⟨fun o q => (S.own2 x a e).1 o (h _ _ q), (S.own2 x a e).2⟩
  inj := S.inj
/-- all that is there but the frame's own -/
def keepAll (env : Env) (W : Str → Option Addr) (h : Heap) (b : Addr) (o : Obj) : Prop := h.get? b = some o ∧ b ≠ env.locals ∧ (∀ n c, env.cells.lookup n = some c → b ≠ c) ∧ ∀ x, W x ≠ some b
theorem Sta.kp_sub (S : Sta C k A hN ok s₀ Kp env own W ρ s) : ∀ b o, Kp b o → keepAll env W s.heap b o := fun b o e =>
  ⟨S.keep b o e, fun q => S.newL o (q ▸ e), fun n c q q' => S.newC n c o q (q' ▸ e), fun x q => (S.own2 x b q).1 o e⟩
theorem Sta.moreKp (S : Sta C k A hN ok s₀ Kp env own W ρ s) : Sta C k A hN ok s₀ (keepAll env W s.heap) env own W ρ s where
  room := S.room
  top := S.top
  eok := S.eok
  up := S.up
  new := S.new
  le := S.le
  kpN := fun b o e => S.kp_sub b o (S.kpN b o e)
  same := S.same
  keep := fun b o e => e.1
  newL := fun o e => e.2.1 rfl
  newC := fun n c o e q => q.2.2.1 n c e rfl
  apart := S.apart
  frm := S.frm
  own1 := S.own1
  own2 := fun x a e => ⟨fun o q => q.2.2.2 x e, (S.own2 x a e).2⟩
  inj := S.inj
end

def unW (W : Str → Option Addr) (x : Str) : Str → Option Addr := fun y => if y = x then none else W y
def setW (W : Str → Option Addr) (x : Str) (a : Addr) : Str → Option Addr := fun y => if y = x then some a else W y
def less (own : List Str) (x : Str) : List Str := own.filter fun y => y != x
theorem mem_less {own : List Str} {x y : Str} : y ∈ less own x ↔ y ∈ own ∧ y ≠ x := by simp [less, List.mem_filter]

section
variable {C : Cx} {k : Nat} {A : Around} {hN : Heap} {ok : Bool → Addr → Prop} {s₀ : Shared} {Kp Kp' : Addr → Obj → Prop} {env : Env} {own : List Str} {W : Str → Option Addr} {ρ : DEnv} {s : Shared} {E : Value → Shared → Prop}

theorem okW_unW {x : Str} {md : Bool} {a : Addr} (h : okW ok W md a) : okW ok (unW W x) md a := ⟨h.1, fun y q => by
  unfold unW at q
  split at q
  · cases q
  · exact h.2 y q⟩
theorem Holds1.unW {h : Heap} {x y : Str} {md : Bool} {d : PyData} {v : Value} (z : Holds1 ok W h y md d v) (hy : y ≠ x) : Holds1 ok (Mine.unW W x) h y md d v := by
  have e : Mine.unW W x y = W y := if_neg hy
  unfold Holds1 at *
  rw [e]
  split at z
  · exact z.imp fun _ => okW_unW
  · obtain ⟨e, ds, vs, n, e', g, r⟩ := z
    exact ⟨e, ds, vs, n, e', g, r.imp fun _ => okW_unW⟩
/-- a name of the frame's own, that can be stored -/
def storable (env : Env) (x : Str) : Bool := env.kindOf x == some .local || (env.kindOf x == some .cell && (env.cells.lookup x).isSome)

/-- the store itself: the frame's map is turned, the data stay -/
theorem store_raw (hx : storable env x = true) (hk : env.scope.kind = .function) {m cm : Str → Option Value} (hn : s.heap.Ns env.locals m) (hc : ∀ n c, env.cells.lookup n = some c → s.heap.IsCell c (cm n)) (ap : env.cells.Pairwise fun x y => x.2 ≠ y.2) {v : Value} {Q : Unit → Shared → Prop}
    (h : ∀ h' tk c m' cm', Heap.SameBut c s.heap h' → (∀ vs n, s.heap.get? c ≠ some (lst vs n)) → (∀ vs n, s.heap.get? c ≠ some (tup vs n)) → (c = env.locals ∨ ∃ n, env.cells.lookup n = some c) →
      h'.Ns env.locals m' → (∀ n c, env.cells.lookup n = some c → h'.IsCell c (cm' n)) → val env m' cm' x = some v → (∀ y, y ≠ x → val env m' cm' y = val env m cm y) → Q () { s with heap := h', toks := tk }) :
    wpAny (model C.prog C.w) A (storeName env x v) Q E s := by
  unfold storable at hx
  rcases Bool.or_eq_true_iff.mp hx with e | e
  · have e : env.kindOf x = some .local := by simpa using e
    refine wpAny_storeName_local e hn (fun h' hn' hs => ?_) (by rw [hk]; rfl)
    refine h h' _ env.locals _ cm hs (ns_no_lst hn).1 (ns_no_lst hn).2 (.inl rfl) hn' (fun n c q => (hc n c q).sameBut hs fun z => ?_) ?_ ?_
    · obtain ⟨o, ho, hd⟩ := hc n c q
      obtain ⟨o', es, ep, ho', hd', _⟩ := hn
      rw [z, ho'] at ho; cases ho; rw [hd'] at hd; cases hd
    · simp only [val, e, if_true]
    · intro y hy
      simp only [val, hy, if_false]
  · obtain ⟨e1, e2⟩ := Bool.and_eq_true_iff.mp e
    have e1 : env.kindOf x = some .cell := by simpa using e1
    obtain ⟨c, ec⟩ := Option.isSome_iff_exists.mp e2
    refine wpAny_storeName_cell hk e1 ec (hc x c ec) fun h' hc' hs => ?_
    have hne : env.locals ≠ c := fun z => by
      obtain ⟨o, ho, hd⟩ := hc x c ec
      obtain ⟨o', es, ep, ho', hd', _⟩ := hn
      rw [← z, ho'] at ho; cases ho; rw [hd'] at hd; cases hd
    refine h h' _ c m (fun y => if y = x then some v else cm y) hs (cell_no_lst (hc x c ec)).1 (cell_no_lst (hc x c ec)).2 (.inr ⟨x, ec⟩) (hn.sameBut hs hne) (fun n c' q => ?_) ?_ ?_
    · by_cases hnx : n = x
      · subst hnx; rw [ec] at q; cases q; rw [if_pos rfl]; exact hc'
      · rw [if_neg hnx]
        exact (hc n c' q).sameBut hs fun z => hnx (name_of_addr ap (mem_of_lookup q) (z ▸ mem_of_lookup ec))
    · unfold val; rw [if_neg (by rw [e1]; decide), if_pos e1, ec]; simp
    · intro y hy
      simp only [val, hy, if_false]

/-- x = v, v not owned -/
theorem Sta.store {x : Str} {v : Value} {md : Bool} {d : PyData} {Q : Unit → Shared → Prop} (S : Sta C k A hN ok s₀ Kp env own W ρ s) (hx : storable env x = true) (y : Rep (okW ok W md) s.heap d v)
    (h : ∀ s', Sta C k A hN ok s₀ Kp env (less own x) (unW W x) (upd ρ x md d) s' → Q () s') : wpAny (model C.prog C.w) A (storeName env x v) Q E s := by
  obtain ⟨m, cm, hn, hc, hv⟩ := S.frm
  refine store_raw hx S.eok.kind hn hc S.apart fun h' tk c m' cm' hs n1 n2 hcc hn' hc' e1 e2 => h _ ?_
  have nk : ∀ o, ¬ Kp c o := by
    rcases hcc with e | ⟨n, e⟩
    · rw [e]; exact S.newL
    · exact fun o => S.newC n c o e
  refine { room := S.room, top := S.top, eok := S.eok, up := S.up, new := S.new, le := S.le, kpN := S.kpN, same := ?_, keep := fun b o e => hs.extBut b o (fun q => nk o (q ▸ e)) (S.keep b o e), newL := S.newL, newC := S.newC, apart := S.apart, frm := ?_, own1 := fun z => ?_, own2 := fun z a e => ?_, inj := fun z z' a e e' => ?_ }
  · obtain ⟨h0, t0, e0⟩ := S.same; exact ⟨h', tk, by rw [e0]⟩
  · refine ⟨m', cm', hn', hc', fun z md' d' e => ?_⟩
    unfold upd at e
    split at e
    · rename_i q; subst q; cases e
      refine ⟨v, e1, ?_⟩
      have ew : unW W z z = none := if_pos rfl
      unfold Holds1
      rw [ew]
      exact (y.imp fun _ => okW_unW).but hs n1 n2
    · rename_i q
      obtain ⟨v', l, r⟩ := hv z md' d' e
      exact ⟨v', (e2 z q).trans l, (r.unW q).but hs n1 n2⟩
  · rw [mem_less, ← S.own1 z]
    unfold unW
    constructor
    · rintro ⟨a, e⟩
      split at e
      · cases e
      · rename_i q; exact ⟨⟨a, e⟩, q⟩
    · rintro ⟨⟨a, e⟩, q⟩
      exact ⟨a, by rw [if_neg q]; exact e⟩
  · unfold unW at e
    split at e
    · cases e
    · obtain ⟨g1, vs, n, g2⟩ := S.own2 z a e
      exact ⟨g1, vs, n, hs.extBut a _ (fun q => n1 vs n (q ▸ g2)) g2⟩
  · unfold unW at e e'
    split at e
    · cases e
    · split at e'
      · cases e'
      · exact S.inj z z' a e e'

/-- x = v, v a list that was not there at s -/
theorem Sta.storeOwn {x : Str} {a : Addr} {vs : List Value} {n : Nat} {md : Bool} {ds : List PyData} {h₁ : Heap} {tk₁ : Nat} {Q : Unit → Shared → Prop} (S : Sta C k A hN ok s₀ Kp env own W ρ s) (hx : storable env x = true)
    (u : Up s.heap h₁) (fr : s.heap.get? a = none) (ga : h₁.get? a = some (lst vs n)) (y : RepAll (fun b => okW ok W md b ∧ b ≠ a) h₁ ds vs)
    (h : ∀ s', Sta C k A hN ok s₀ Kp env (x :: less own x) (setW W x a) (upd ρ x md (.list ds)) s' → Q () s') : wpAny (model C.prog C.w) A (storeName env x (.ref a)) Q E { s with heap := h₁, toks := tk₁ } := by
  have S₁ := S.on u tk₁
  obtain ⟨m, cm, hn0, hc0, hv0⟩ := S.frm
  have hn : h₁.Ns env.locals m := hn0.keeps u
  have hc : ∀ n c, env.cells.lookup n = some c → h₁.IsCell c (cm n) := fun n c e => (hc0 n c e).keeps u
  have avoid : ∀ {md : Bool} {b : Addr}, okW ok W md b → b ≠ a → okW ok (setW W x a) md b := fun q ne => ⟨q.1, fun z e => by
    unfold setW at e
    split at e
    · cases e; exact absurd rfl ne
    · exact q.2 z e⟩
  refine store_raw (s := { s with heap := h₁, toks := tk₁ }) hx S.eok.kind hn hc S.apart fun h' tk c m' cm' hs n1 n2 hcc hn' hc' e1 e2 => h _ ?_
  have nk : ∀ o, ¬ Kp c o := by
    rcases hcc with e | ⟨n, e⟩
    · rw [e]; exact S.newL
    · exact fun o => S.newC n c o e
  have hca : a ≠ c := fun q => n1 vs n (q ▸ ga)
  refine { room := S.room, top := S.top, eok := S.eok, up := S.up, new := S.new, le := S.le, kpN := S.kpN, same := ?_, keep := fun b o e => hs.extBut b o (fun q => nk o (q ▸ e)) (S₁.keep b o e), newL := S.newL, newC := S.newC, apart := S.apart, frm := ?_, own1 := fun z => ?_, own2 := fun z b e => ?_, inj := fun z z' b e e' => ?_ }
  · obtain ⟨h0, t0, e0⟩ := S.same; exact ⟨h', tk, by rw [e0]⟩
  · refine ⟨m', cm', hn', hc', fun z md' d' e => ?_⟩
    unfold upd at e
    split at e
    · rename_i q; subst q; cases e
      refine ⟨_, e1, ?_⟩
      have ew : setW W z a z = some a := if_pos rfl
      unfold Holds1
      rw [ew]
      exact ⟨rfl, ds, vs, n, rfl, hs.extBut a _ hca ga, (y.imp fun b q => avoid q.1 q.2).but hs n1 n2⟩
    · rename_i q
      -- its lists were there at s, so none of them is a
      have hW : setW W x a z = W z := if_neg q
      obtain ⟨v', l, r⟩ := hv0 z md' d' e
      refine ⟨v', (e2 z q).trans l, ?_⟩
      have key : Holds1 ok (setW W x a) s.heap z md' d' v' := by
        unfold Holds1 at *
        rw [hW]
        split at r
        · exact r.there.imp fun b p => avoid p.1 fun q => p.2 (q ▸ fr)
        · obtain ⟨p1, ds', vs', n', p2, p3, p4⟩ := r
          exact ⟨p1, ds', vs', n', p2, p3, p4.there.imp fun b p => avoid p.1 fun q => p.2 (q ▸ fr)⟩
      exact (key.up u).but hs n1 n2
  · rw [List.mem_cons, mem_less, ← S.own1 z]
    unfold setW
    constructor
    · rintro ⟨b, e⟩
      split at e
      · rename_i q; exact .inl q
      · rename_i q; exact .inr ⟨⟨b, e⟩, q⟩
    · rintro (q | ⟨⟨b, e⟩, q⟩)
      · exact ⟨a, by rw [if_pos q]⟩
      · exact ⟨b, by rw [if_neg q]; exact e⟩
  · unfold setW at e
    split at e
    · cases e
      refine ⟨fun o q => ?_, vs, n, hs.extBut a _ hca ga⟩
      have := S.keep _ _ q
      rw [fr] at this
      cases this
    · obtain ⟨g1, vs', n', g2⟩ := S₁.own2 z b e
      exact ⟨g1, vs', n', hs.extBut b _ (fun q => n1 vs' n' (q ▸ g2)) g2⟩
  · have away : ∀ z, W z ≠ some a := fun z q => by obtain ⟨vs', n', g⟩ := (S.own2 z a q).2; rw [fr] at g; cases g
    unfold setW at e e'
    split at e
    · cases e
      split at e'
      · rename_i q q'; rw [q, q']
      · exact absurd e' (away _)
    · split at e'
      · cases e'; exact absurd e (away _)
      · exact S.inj z z' b e e'
end

end Mine

namespace Mine
open PySem PyProof.Rows

inductive Out where
  | next (own : List Str) (ρ : DEnv)
  | brk (own : List Str) (ρ : DEnv)
  | cont (own : List Str) (ρ : DEnv)
  | ret (md : Bool) (d : PyData)

structure Fits (C : Cx) (k : Nat) (A : Around) (hN : Heap) (ok : Bool → Addr → Prop) (s₀ : Shared) (Kp : Addr → Obj → Prop) (env : Env) (P : Out → Prop) (Q : Flow → Shared → Prop) : Prop where
  next : ∀ own W ρ s, P (.next own ρ) → Sta C k A hN ok s₀ Kp env own W ρ s → Q .next s
  brk : ∀ own W ρ s, P (.brk own ρ) → Sta C k A hN ok s₀ Kp env own W ρ s → Q .brk s
  cont : ∀ own W ρ s, P (.cont own ρ) → Sta C k A hN ok s₀ Kp env own W ρ s → Q .cont s
  ret : ∀ md d v s, P (.ret md d) → (∃ h tk, s = { s₀ with heap := h, toks := tk }) → (∀ b o, Kp b o → s.heap.get? b = some o) → Rep (ok md) s.heap d v → Q (.ret v) s

/-- the statements of the frame env end in one of the ways P -/
def Ex (C : Cx) (k : Nat) (env : Env) (own : List Str) (ρ : DEnv) (body : List Stmt) (P : Out → Prop) : Prop :=
  ∀ A hN ok s₀ Kp W s Q E, Sta C k A hN ok s₀ Kp env own W ρ s → Fits C k A hN ok s₀ Kp env P Q → wpAny (model C.prog C.w) A (execs body env) Q E s
section
variable {C : Cx} {k : Nat} {env : Env} {own : List Str} {ρ : DEnv} {st : Stmt} {rest body orelse : List Stmt} {P P' : Out → Prop} {e : Expr} {x : Str} {md md' : Bool} {d : PyData} {ds : List PyData} {pos pos' : Pos}

theorem Fits.mono {A hN ok s₀ Kp Q} (f : Fits C k A hN ok s₀ Kp env P Q) (h : ∀ o, P' o → P o) : Fits C k A hN ok s₀ Kp env P' Q where
  next := fun own W ρ s p => f.next own W ρ s (h _ p)
  brk := fun own W ρ s p => f.brk own W ρ s (h _ p)
  cont := fun own W ρ s p => f.cont own W ρ s (h _ p)
  ret := fun md d v s p => f.ret md d v s (h _ p)
theorem Ex.mono (x : Ex C k env own ρ body P') (h : ∀ o, P' o → P o) : Ex C k env own ρ body P := fun A hN ok s₀ Kp W s Q E S f => x A hN ok s₀ Kp W s Q E S (f.mono h)

theorem Ex.nil (h : P (.next own ρ)) : Ex C k env own ρ [] P := fun A hN ok s₀ Kp W s Q E S f => wpAny_execs_nil (f.next own W ρ s h S)
/-- a plain statement -/
theorem Ex.plain {own' : List Str} {ρ' : DEnv} (h1 : ∀ A hN ok s₀ Kp W s (Q : Flow → Shared → Prop) E, Sta C k A hN ok s₀ Kp env own W ρ s → (∀ W' s', Sta C k A hN ok s₀ Kp env own' W' ρ' s' → Q .next s') → wpAny (model C.prog C.w) A (exec st env) Q E s)
    (h2 : Ex C k env own' ρ' rest P) : Ex C k env own ρ (st :: rest) P :=
  fun A hN ok s₀ Kp W s Q E S f => wpAny_execs_cons (h1 A hN ok s₀ Kp W s _ E S fun W' s' S' => h2 A hN ok s₀ Kp W' s' Q E S' f)

theorem Ex.assign (he : Ev C k env own ρ e md d) (h : Ex C k env (less own x) (upd ρ x md d) rest P) (hx : storable env x = true := by rfl)
    (hs : swapsWith e (some (.Name x pos')) pos.line env = pure false := by rfl) : Ex C k env own ρ (.Assign [.Name x pos'] e pos :: rest) P :=
  Ex.plain (fun A hN ok s₀ Kp W s Q E S q => wpAny_Assign_Name (he A ok W s _ E S.cur fun v h' tk u y => (S.on u tk).store hx y fun s' S' => q _ s' S') hs) h
theorem Ex.assignOwn (he : EvF C k env own ρ e md ds) (h : Ex C k env (x :: less own x) (upd ρ x md (.list ds)) rest P) (hx : storable env x = true := by rfl)
    (hs : swapsWith e (some (.Name x pos')) pos.line env = pure false := by rfl) : Ex C k env own ρ (.Assign [.Name x pos'] e pos :: rest) P :=
  Ex.plain (fun A hN ok s₀ Kp W s Q E S q => wpAny_Assign_Name (he A ok W s _ E S.cur fun a vs n h' tk u fr g y => S.storeOwn hx u fr g y fun s' S' => q _ s' S') hs) h

/-- x is no longer the frame's alone -/
theorem Sta.drop {A hN ok s₀ Kp W s} (x : Str) (S : Sta C k A hN ok s₀ Kp env own W ρ s) : Sta C k A hN ok s₀ Kp env (less own x) (unW W x) ρ s where
  room := S.room
  top := S.top
  eok := S.eok
  up := S.up
  new := S.new
  le := S.le
  kpN := S.kpN
  same := S.same
  keep := S.keep
  newL := S.newL
  newC := S.newC
  apart := S.apart
  frm := by
    obtain ⟨m, cm, hn, hc, hv⟩ := S.frm
    refine ⟨m, cm, hn, hc, fun z md' d' e => ?_⟩
    obtain ⟨v, l, r⟩ := hv z md' d' e
    refine ⟨v, l, ?_⟩
    by_cases q : z = x
    · subst q
      have ew : unW W z z = none := if_pos rfl
      unfold Holds1 at r ⊢
      rw [ew]
      split at r
      · exact r.imp fun _ => okW_unW
      · rename_i a wa
        obtain ⟨e1, ds, vs, n, e2, g, r⟩ := r
        subst e1 e2
        refine .list g ⟨S.new _ _ ?_, fun y e => ?_⟩ (r.imp fun _ => okW_unW)
        · cases hq : hN.get? a with
          | none => rfl
          | some o => exact absurd (S.kpN _ _ hq) ((S.own2 z a wa).1 o)
        · unfold unW at e
          split at e
          · cases e
          · rename_i ne; exact absurd (S.inj y z a e wa) ne
    · exact r.unW q
  own1 := fun z => by
    rw [mem_less, ← S.own1 z]
    unfold unW
    constructor
    · rintro ⟨a, e⟩
      split at e
      · cases e
      · rename_i q; exact ⟨⟨a, e⟩, q⟩
    · rintro ⟨⟨a, e⟩, q⟩
      exact ⟨a, by rw [if_neg q]; exact e⟩
  own2 := fun z a e => by
    unfold unW at e
    split at e
    · cases e
    · exact S.own2 z a e
  inj := fun z z' a e e' => by
    unfold unW at e e'
    split at e
    · cases e
    · split at e'
      · cases e'
      · exact S.inj z z' a e e'
theorem Ex.drop (x : Str) (h : Ex C k env (less own x) ρ body P) : Ex C k env own ρ body P := fun A hN ok s₀ Kp W s Q E S f => h A hN ok s₀ Kp _ s Q E (S.drop x) f
/-- nothing is the frame's alone -/
theorem Ex.free (h : Ex C k env [] ρ body P) : Ex C k env own ρ body P := by
  have : ∀ (n : Nat) (own : List Str), own.length ≤ n → Ex C k env own ρ body P := by
    intro n
    induction n with
    | zero => intro own hl; cases own with
      | nil => exact h
      | cons x r => simp at hl
    | succ n ih =>
      intro own hl
      cases own with
      | nil => exact h
      | cons x r =>
        refine Ex.drop x (ih _ ?_)
        have : (less (x :: r) x).length ≤ r.length := by simp [less]; exact List.length_filter_le _ _
        simp at hl
        omega
  exact this _ own (Nat.le_refl _)

theorem Ex.ret (he : Ev C k env own ρ e md d) (h : P (.ret md d)) : Ex C k env own ρ (.Return (some e) pos :: rest) P := fun A hN ok s₀ Kp W s Q E S f =>
  wpAny_execs_cons (wpAny_Return_some (he A ok W s _ E S.cur fun v h' tk u y => f.ret md d v _ h (let ⟨h0, t0, e0⟩ := S.same; ⟨h', tk, by rw [e0]⟩) (fun b o q => u b o (S.keep b o q)) (y.imp fun _ q => q.1)))
theorem execs_append (rest : List Stmt) (env : Env) : ∀ b : List Stmt, execs (b ++ rest) env = (execs b env >>= fun f => match f with | .next => execs rest env | f => pure f)
  | [] => by show execs rest env = (pure Flow.next >>= _); rw [pure_bind]
  | st :: b => by
    rw [List.cons_append, execs_cons, execs_cons, bind_assoc]
    congr 1
    funext f
    cases f with
    | next => exact execs_append rest env b
    | _ => simp
theorem Ex.if_ {t : Expr} {b : Bool} (ht : Tst C k env own ρ t b) (h1 : b = true → Ex C k env own ρ (body ++ rest) P) (h2 : b = false → Ex C k env own ρ (orelse ++ rest) P) : Ex C k env own ρ (.If t body orelse pos :: rest) P := by
  intro A hN ok s₀ Kp W s Q E S f Γ p hΓ
  rw [execs_cons, Sem.wp_bind', exec_If, Sem.wp_bind', Sem.wp_cmd_standAt, Sem.wp_bind']
  refine ht A ok W s (fun b s' => ∀ p', Sem.wp (model C.prog C.w) Γ (if b = true then execs body env else execs orelse env) (fun x p'' s'' => Sem.wp (model C.prog C.w) Γ (match x with | .next => execs rest env | f => pure f) (fun a _ s' => Q a s') (fun e _ s' => E e s') p'' s'') (fun e _ s' => E e s') p' s') E S.cur (fun h' tk u p' => ?_) Γ pos hΓ |> fun z => Sem.wp_mono _ Γ _ (fun b' p' s' q => q p') (fun _ _ _ q => q) _ _ z
  cases b with
  | true =>
    have z := h1 rfl A hN ok s₀ Kp W _ Q E (S.on u tk) f Γ p' hΓ
    rw [execs_append, Sem.wp_bind'] at z
    exact z
  | false =>
    have z := h2 rfl A hN ok s₀ Kp W _ Q E (S.on u tk) f Γ p' hΓ
    rw [execs_append, Sem.wp_bind'] at z
    exact z
end

end Mine

namespace Mine
open PySem PyProof.Rows

/-- data that the frame does not own stay from h to h', and are not owned there -/
structure Carry (W : Str → Option Addr) (h : Heap) (W' : Str → Option Addr) (h' : Heap) : Prop where
  l : ∀ (md : Bool) b vs n, h.get? b = some (lst vs n) → (∀ y, W y = some b → lentName y = true ∧ md = false) → h'.get? b = some (lst vs n) ∧ ∀ y, W' y = some b → lentName y = true ∧ md = false
  t : ∀ b vs n, h.get? b = some (tup vs n) → h'.get? b = some (tup vs n)
section
variable {ok : Bool → Addr → Prop} {W W' W'' : Str → Option Addr} {h h' h'' : Heap} {md : Bool} {d : PyData} {v : Value} {ds : List PyData} {vs : List Value}
theorem Rep.carry (x : Rep (okW ok W md) h d v) (c : Carry W h W' h') : Rep (okW ok W' md) h' d v :=
  x.gen (fun b vs n e o => ⟨(c.l md b vs n e o.2).1, o.1, (c.l md b vs n e o.2).2⟩) c.t
theorem RepAll.carry (x : RepAll (okW ok W md) h ds vs) (c : Carry W h W' h') : RepAll (okW ok W' md) h' ds vs :=
  x.gen (fun b vs n e o => ⟨(c.l md b vs n e o.2).1, o.1, (c.l md b vs n e o.2).2⟩) c.t
theorem Carry.but {c : Addr} (u : ∀ b o, b ≠ c → h.get? b = some o → h'.get? b = some o) (hl : ∀ vs n, h.get? c ≠ some (lst vs n)) (ht : ∀ vs n, h.get? c ≠ some (tup vs n)) : Carry W h W h' :=
  ⟨fun _ b vs n e o => ⟨u b _ (fun q => hl vs n (q ▸ e)) e, o⟩, fun b vs n e => u b _ (fun q => ht vs n (q ▸ e)) e⟩
end

section
variable {C : Cx} {k : Nat} {A : Around} {hN : Heap} {ok : Bool → Addr → Prop} {s₀ : Shared} {Kp Kp' : Addr → Obj → Prop} {env : Env} {own own' : List Str} {W W' : Str → Option Addr} {ρ ρ' : DEnv} {s s' : Shared}
/-- what is no list, no tuple, none of the frame's, is changed -/
theorem Sta.but (S : Sta C k A hN ok s₀ Kp env own W ρ s) {c : Addr} {o : Obj} {xs : Array Value} (ho : s.heap.get? c = some o) (hd : o.data = .fields xs) (hk : ∀ o, ¬ Kp c o) {h' : Heap} (tk : Nat)
    (u : ∀ b o, b ≠ c → s.heap.get? b = some o → h'.get? b = some o) : Sta C k A hN ok s₀ Kp env own W ρ { s with heap := h', toks := tk } := by
  have nl : ∀ vs n, s.heap.get? c ≠ some (lst vs n) := fun vs n e => by rw [ho] at e; cases e; cases hd
  have nt : ∀ vs n, s.heap.get? c ≠ some (tup vs n) := fun vs n e => by rw [ho] at e; cases e; cases hd
  refine { room := S.room, top := S.top, eok := S.eok, up := S.up, new := S.new, le := S.le, kpN := S.kpN, same := let ⟨h, t, e⟩ := S.same; ⟨h', tk, by rw [e]⟩, keep := fun b o e => u b o (fun q => hk o (q ▸ e)) (S.keep b o e), newL := S.newL, newC := S.newC, apart := S.apart, frm := ?_, own1 := S.own1, own2 := fun x a e => ?_, inj := S.inj }
  · obtain ⟨m, cm, hn, hc, hv⟩ := S.frm
    refine ⟨m, cm, hn.at' fun o' e => u _ o' (fun q => ?_) e, fun n c' e => ?_, fun x md d e => ?_⟩
    · obtain ⟨o2, es, ep, ho2, hd2, _⟩ := hn
      rw [q, ho] at ho2; cases ho2; rw [hd] at hd2; cases hd2
    · obtain ⟨o2, ho2, hd2⟩ := hc n c' e
      exact ⟨o2, u _ _ (fun q => by rw [q, ho] at ho2; cases ho2; rw [hd] at hd2; cases hd2) ho2, hd2⟩
    · obtain ⟨v, l, y⟩ := hv x md d e
      refine ⟨v, l, ?_⟩
      have cy : Carry W s.heap W h' := Carry.but u nl nt
      unfold Holds1 at y ⊢
      split at y
      · exact y.carry cy
      · obtain ⟨e1, ds, vs, n, e2, g, r⟩ := y
        exact ⟨e1, ds, vs, n, e2, u _ _ (fun q => nl vs n (q ▸ g)) g, r.carry cy⟩
  · obtain ⟨g1, vs, n, g2⟩ := S.own2 x a e
    exact ⟨g1, vs, n, u _ _ (fun q => nl vs n (q ▸ g2)) g2⟩

def noLent (own : List Str) : Bool := own.all fun x => !lentName x
theorem Sta.noLent (S : Sta C k A hN ok s₀ Kp env own W ρ s) (h : Mine.noLent own = true) {y : Str} {b : Addr} (e : W y = some b) : lentName y = false := by
  have := List.all_eq_true.mp h y ((S.own1 y).mp ⟨b, e⟩)
  simpa using this
theorem Sta.carry (S : Sta C k A hN ok s₀ Kp env own W ρ s) (hl : Mine.noLent own = true) (hl' : Mine.noLent own' = true) (S' : Sta C k A hN ok s₀ (keepAll env W s.heap) env own' W' ρ' s') : Carry W s.heap W' s'.heap := by
  obtain ⟨m, cm, hn, hc, hv⟩ := S.frm
  have key : ∀ b o, s.heap.get? b = some o → (∃ vs n, o = lst vs n ∨ o = tup vs n) → (∀ y, W y ≠ some b) → keepAll env W s.heap b o := fun b o e ho hw =>
    ⟨e, fun q => by
        obtain ⟨vs, n, r | r⟩ := ho
        · exact (ns_no_lst hn).1 vs n (by rw [← q, e, r])
        · exact (ns_no_lst hn).2 vs n (by rw [← q, e, r]),
      fun n c q q' => by
        obtain ⟨vs, n', r | r⟩ := ho
        · exact (cell_no_lst (hc n c q)).1 vs n' (by rw [← q', e, r])
        · exact (cell_no_lst (hc n c q)).2 vs n' (by rw [← q', e, r]), hw⟩
  refine ⟨fun m b vs n e o => ?_, fun b vs n e => ?_⟩
  · have kb := key b _ e ⟨vs, n, .inl rfl⟩ fun y q => by have := (o y q).1; rw [S.noLent hl q] at this; cases this
    exact ⟨S'.keep _ _ kb, fun y q => absurd kb ((S'.own2 y b q).1 _)⟩
  · refine S'.keep _ _ (key b _ e ⟨vs, n, .inr rfl⟩ fun y q => ?_)
    obtain ⟨vs', n', g⟩ := (S.own2 y b q).2
    rw [g] at e
    exact absurd (show Value.type "list" = Value.type "tuple" from congrArg Obj.cls (Option.some.inj e)) (by decide)
end

/-- an iterator at I over the data items -/
structure Source (C : Cx) (A : Around) (ok : Bool → Addr → Prop) (md : Bool) (items : List PyData) (I : Addr) (fp : List Addr) (Pv : Nat → Value → Prop) (St : Nat → Heap → Prop) (F : (Str → Option Addr) → Heap → Prop) : Prop where
  wk : Walks C.prog C.w A I fp [I] items.length Pv St
  fld : ∀ i h, St i h → ∃ o xs, h.get? I = some o ∧ o.data = .fields xs ∧ (o.cls = .type "list_iterator" ∨ o.cls = .type "range_iterator")
  carry : ∀ W h W' h', F W h → Carry W h W' h' → F W' h'
  oth : ∀ b ∈ fp, b ≠ I → ∀ W h, F W h → ∃ vs n, h.get? b = some (lst vs n) ∧ okW ok W md b
  item : ∀ i v d W h, Pv i v → items[i]? = some d → F W h → Rep (okW ok W md) h d v

theorem Source.go {C : Cx} {A : Around} {ok : Bool → Addr → Prop} {md : Bool} {items : List PyData} {I : Addr} {fp : List Addr} {Pv : Nat → Value → Prop} {St : Nat → Heap → Prop} {F : (Str → Option Addr) → Heap → Prop}
    (X : Source C A ok md items I fp Pv St F) {i : Nat} {s : Shared} {v : Value} {target : Expr} {Q : Unit → Shared → Prop} {E : Value → Shared → Prop} (st : St i s.heap) (q : Q () s) : wpAny (model C.prog C.w) A (letOwnedTupleGo target (.ref I) v) Q E s := by
  obtain ⟨o, xs, ho, hd, hc⟩ := X.fld i _ st
  have main : wpAny (model C.prog C.w) A (match v with
      | .ref a => (do
        let o ← load I
        match o.cls, o.data with
        | .type n, .fields vs =>
          if ["enumerate", "zip", "dict_itemiterator", "dict_reverseitemiterator", "odict_iterator", "itertools.zip_longest", "itertools.pairwise"].contains n && vs[0]? == some (rawInt a) then
            rule "for.unpacks-the-owned-tuple"
            updateField I 0 .none
        | _, _ => pure ())
      | _ => pure ()) Q E s := by
    cases v with
    | ref a =>
      refine wpAny_bind (wpAny_load ho ?_)
      rw [hd]
      rcases hc with hc | hc <;> rw [hc] <;> dsimp only
      · rw [if_neg (by rw [show (["enumerate", "zip", "dict_itemiterator", "dict_reverseitemiterator", "odict_iterator", "itertools.zip_longest", "itertools.pairwise"].contains "list_iterator") = false from by decide, Bool.false_and]; exact Bool.false_ne_true)]
        exact wpAny_pure q
      · rw [if_neg (by rw [show (["enumerate", "zip", "dict_itemiterator", "dict_reverseitemiterator", "odict_iterator", "itertools.zip_longest", "itertools.pairwise"].contains "range_iterator") = false from by decide, Bool.false_and]; exact Bool.false_ne_true)]
        exact wpAny_pure q
    | _ => exact wpAny_pure q
  unfold letOwnedTupleGo
  split
  · cases v <;> exact main
  · cases v <;> exact main
  · exact wpAny_pure q

/-- the iterable e, taken by iter(), gives the items -/
def EvI (C : Cx) (k : Nat) (env : Env) (own : List Str) (ρ : DEnv) (e : Expr) (md : Bool) (items : List PyData) : Prop :=
  ∀ A ok W s Q E, Cur C k A ok W own env ρ s →
    (∀ I fp Pv St F h' tk, Up s.heap h' → s.heap.get? I = none → Source C A ok md items I fp Pv St F → F W h' → St 0 h' → Q (.ref I) { s with heap := h', toks := tk }) →
    wpAny (model C.prog C.w) A (eval e env) (fun x s₁ => wpAny (model C.prog C.w) A (pyIter x) Q E s₁) E s

/-- one target stored -/
def Asg (C : Cx) (k : Nat) (env : Env) (own : List Str) (ρ : DEnv) (target : Expr) (md : Bool) (d : PyData) (own' : List Str) (ρ' : DEnv) : Prop :=
  (∀ x ∈ own', x ∈ own) ∧ ∀ A hN ok s₀ Kp W s v Q E, Sta C k A hN ok s₀ Kp env own W ρ s → Rep (okW ok W md) s.heap d v → (∀ W' s', (∀ y ∈ own', W' y = W y) → Sta C k A hN ok s₀ Kp env own' W' ρ' s' → Q () s') → wpAny (model C.prog C.w) A (assign target env v) Q E s

section
variable {C : Cx} {k : Nat} {env : Env} {own : List Str} {ρ : DEnv} {rest body : List Stmt} {P : Out → Prop} {iter target : Expr} {x : Str} {md : Bool} {d : PyData} {ds items : List PyData} {pos pos' : Pos}

theorem EvI.list (he : Ev C k env own ρ iter md (.list ds)) : EvI C k env own ρ iter md ds := fun A ok W s Q E c q => by
  refine he A ok W s _ E c fun v h' tk u y => ?_
  cases y with
  | list g o r =>
    rename_i a vs n
    refine wpAny_pyIter_list (s := { s with heap := h', toks := tk }) ⟨_, g, rfl, _, rfl⟩ ?_
    have hne : a ≠ h'.objs.size := Nat.ne_of_lt (Heap.lt_size g)
    have hl : vs.toArray.size = ds.length := by rw [List.size_toArray, r.length]
    have W' := Walks.list (prog := C.prog) (w := C.w) (A := A) c.room.hh h'.objs.size a hne vs.toArray
    rw [hl] at W'
    refine q _ _ _ _ (fun W h => h.get? a = some (lst vs n) ∧ okW ok W md a ∧ RepAll (okW ok W md) h ds vs) _ _ (u.trans (Up.push _ _)) (u.none (Heap.get?_none_of_le (Nat.le_refl _)))
      { wk := W', fld := ?_, carry := ?_, oth := ?_, item := ?_ } ⟨Heap.get?_push_of_some _ g, o, r.up (Up.push _ _)⟩ ⟨⟨_, Heap.get?_push_size _ rfl, rfl, rfl⟩, ⟨_, Heap.get?_push_of_some _ g, rfl, _, rfl⟩⟩
    · rintro i h ⟨⟨o, ho, hc, hd⟩, _⟩
      exact ⟨o, _, ho, hd, .inl hc⟩
    · rintro W h W' h' ⟨f1, f2, f3⟩ cy
      exact ⟨(cy.l _ _ _ _ f1 f2.2).1, ⟨f2.1, (cy.l _ _ _ _ f1 f2.2).2⟩, f3.carry cy⟩
    · rintro b hb hbI W h ⟨f1, f2, f3⟩
      simp only [List.mem_cons, List.not_mem_nil, or_false] at hb
      rcases hb with e | e
      · exact absurd e hbI
      · subst e; exact ⟨_, _, f1, f2⟩
    · rintro i v d W h hv hd ⟨f1, f2, f3⟩
      have hv' : vs[i]? = some v := by simpa using hv
      obtain ⟨d', e, r'⟩ := f3.getV hv'
      rw [hd] at e; cases e; exact r'

/-- range(n) as data -/
def rangeD (n : Int) : List PyData := (List.range n.toNat).map fun i : Nat => .int (i : Int)

theorem Asg.name (hx : storable env x = true := by rfl) : Asg C k env own ρ (.Name x pos) md d (less own x) (upd ρ x md d) := ⟨fun y hy => (mem_less.mp hy).1, fun A hN ok s₀ Kp W s v Q E S y q =>
  wpAny_assign_Name (S.store hx y fun s' S' => q _ s' (fun z hz => by unfold unW; rw [if_neg (mem_less.mp hz).2]) S')⟩

theorem forLoop_rule {A : Around} {R : Result → Shared → Prop} {I : Addr} {s : Shared} (Iv : Nat → Shared → Prop)
    (turn : ∀ n s, Iv n s → wpAny (model C.prog C.w) A (pyNext (.ref I)) (fun r s₁ => match r with
      | none => R (.ok .next) s₁
      | some v => wpAny (model C.prog C.w) A (letOwnedTupleGo target (.ref I) v) (fun _ s₂ => wpAny (model C.prog C.w) A (assign target env v) (fun _ s₃ => wpAny (model C.prog C.w) A (execs body env) (fun f s₄ => match f with
          | .next | .cont => ∃ m, m < n ∧ Iv m s₄
          | .brk => R (.ok .next) s₄
          | .ret v => R (.ok (.ret v)) s₄) (notedBy (model C.prog C.w) A env fun e s' => R (.error e) s') s₃) (notedBy (model C.prog C.w) A env fun e s' => R (.error e) s') s₂) (notedBy (model C.prog C.w) A env fun e s' => R (.error e) s') s₁)
      (notedBy (model C.prog C.w) A env fun e s' => R (.error e) s') s)
    (n : Nat) (h : Iv n s) : codeAny (model C.prog C.w) A (.forLoop target (.ref I) body [] env) R s := by
  refine codeAny_loop' rfl Iv (fun n s hI => ?_) n h
  show wpAny _ _ ((forTurn target (.ref I) body [] env).onRaise (fun x => do noteFrame x env; theTreesLotGoes x)) _ _ s
  refine wpAny_noted ?_
  simp only [forTurn]
  refine wpAny_bind (wpAny_standAt (wpAny_bind (wpAny_onRaise (wpAny_mono (turn n s hI) (fun r s₁ h₁ => ?_) fun _ _ h' => wpAny_standAt h'))))
  cases r with
  | none => exact wpAny_pure (.inr ⟨rfl, codeAny_block (wpAny_execs_nil h₁)⟩)
  | some v =>
    refine wpAny_bind (wpAny_mono h₁ (fun _ s₂ h₂ => wpAny_bind (wpAny_mono h₂ (fun _ s₃ h₃ => wpAny_bind (wpAny_mono h₃ (fun f s₄ h₄ => ?_) fun _ _ h' => h')) fun _ _ h' => h')) fun _ _ h' => h')
    cases f with
    | next => exact wpAny_pure (.inl ⟨rfl, h₄⟩)
    | cont => exact wpAny_pure (.inl ⟨rfl, h₄⟩)
    | brk => exact wpAny_pure h₄
    | ret v => exact wpAny_pure h₄

theorem Ex.for_ (hi : EvI C k env own ρ iter md items) (Inv PB : Nat → List Str → DEnv → Prop) (h0 : Inv 0 own ρ)
    (turn : ∀ i d own ρ, items[i]? = some d → Inv i own ρ → ∃ own' ρ', Asg C k env own ρ target md d own' ρ' ∧ Ex C k env own' ρ' body (fun o => match o with
      | .next own ρ | .cont own ρ => Inv (i + 1) own ρ
      | .brk own ρ => PB i own ρ
      | .ret md d => P (.ret md d)))
    (done : ∀ own ρ, Inv items.length own ρ → Ex C k env own ρ rest P) (brk : ∀ i own ρ, PB i own ρ → Ex C k env own ρ rest P)
    (hs : ∀ x, foldedSetIterable iter env x = pure x) (hnl : ∀ i own ρ, Inv i own ρ → noLent own = true) : Ex C k env own ρ (.For target iter body [] pos :: rest) P := by
  intro A hN ok s₀ Kp W s Q E S f
  refine wpAny_execs_cons (wpAny_For (hi A ok W s _ E S.cur fun I fp Pv St F h' tk u fr X F0 st0 => ?_) hs)
  have kI : ∀ o, ¬ Kp I o := fun o q => by have := S.keep _ _ q; rw [fr] at this; cases this
  refine forLoop_rule (fun n s' => ∃ i own W ρ, n = items.length + 1 - i ∧ i ≤ items.length ∧ Inv i own ρ ∧ Sta C k A hN ok s₀ Kp env own W ρ s' ∧ St i s'.heap ∧ F W s'.heap) ?_ (items.length + 1) ⟨0, own, W, ρ, by omega, Nat.zero_le _, h0, S.on u tk, st0, F0⟩
  rintro n s₁ ⟨i, own₁, W₁, ρ₁, rfl, hle, inv, S₁, st₁, F₁⟩
  obtain ⟨oI, xs, hoI, hdI, hcI⟩ := X.fld _ _ st₁
  have nl : ∀ vs n, s₁.heap.get? I ≠ some (lst vs n) := fun vs n e => by rw [hoI] at e; cases e; cases hdI
  have nt : ∀ vs n, s₁.heap.get? I ≠ some (tup vs n) := fun vs n e => by rw [hoI] at e; cases e; cases hdI
  by_cases hlt : i < items.length
  · refine X.wk.item i s₁ _ _ hlt st₁ fun v h₂ tk₂ hP st₂ hk₂ => ?_
    have hk₂' : ∀ b o, b ≠ I → s₁.heap.get? b = some o → h₂.get? b = some o := fun b o hb e => hk₂ b o (by simpa using hb) e
    have S₂ := S₁.but hoI hdI kI tk₂ hk₂'
    have F₂ : F W₁ h₂ := X.carry _ _ _ _ F₁ (Carry.but hk₂' nl nt)
    refine X.go (s := { s₁ with heap := h₂, toks := tk₂ }) (i := i + 1) st₂ ?_
    have hd : items[i]? = some items[i] := List.getElem?_eq_getElem hlt
    obtain ⟨own', ρ', asg, ex⟩ := turn i items[i] own₁ ρ₁ hd inv
    have nl₁ := hnl _ _ _ inv
    have nl₃ : noLent own' = true := List.all_eq_true.mpr fun x hx => List.all_eq_true.mp nl₁ x (asg.1 x hx)
    refine asg.2 A hN ok s₀ (keepAll env W₁ h₂) W₁ _ v _ _ S₂.moreKp (X.item i v _ W₁ h₂ hP hd F₂) fun W₃ s₃ _ S₃ => ?_
    have cy₃ : Carry W₁ h₂ W₃ s₃.heap := S₂.carry nl₁ nl₃ S₃
    have F₃ : F W₃ s₃.heap := X.carry _ _ _ _ F₂ cy₃
    obtain ⟨oI₂, xs₂, hoI₂, hdI₂, hcI₂⟩ := X.fld _ _ st₂
    -- the iterator is none of the frame's
    have ownI : ∀ {W : Str → Option Addr} {own : List Str} {ρ : DEnv} {s : Shared} {Kp : Addr → Obj → Prop} {o : Obj} {xs : Array Value}, Sta C k A hN ok s₀ Kp env own W ρ s → s.heap.get? I = some o → o.data = .fields xs → keepAll env W s.heap I o := by
      intro W own ρ s Kp o xs S ho hd
      obtain ⟨m, cm, hn, hc, hv⟩ := S.frm
      refine ⟨ho, fun q => ?_, fun n c q q' => ?_, fun x q => ?_⟩
      · obtain ⟨o2, es, ep, ho2, hd2, _⟩ := hn
        rw [← q, ho] at ho2; cases ho2; rw [hd] at hd2; cases hd2
      · obtain ⟨o2, ho2, hd2⟩ := hc n c q
        rw [← q', ho] at ho2; cases ho2; rw [hd] at hd2; cases hd2
      · obtain ⟨vs, n, g⟩ := (S.own2 x I q).2
        rw [ho] at g; cases g; cases hd
    have stay : ∀ {W W' : Str → Option Addr} {own own' : List Str} {ρ ρ' : DEnv} {s s' : Shared} {Kp : Addr → Obj → Prop} {j : Nat}, noLent own = true → noLent own' = true → Sta C k A hN ok s₀ Kp env own W ρ s → Sta C k A hN ok s₀ (keepAll env W s.heap) env own' W' ρ' s' → F W s.heap → St j s.heap → St j s'.heap := by
      intro W W' own own' ρ ρ' s s' Kp j hl hl' S S' Fh st
      refine X.wk.frame j _ _ st fun b hb o e => ?_
      by_cases hbI : b = I
      · subst hbI
        obtain ⟨o2, xs2, ho2, hd2, _⟩ := X.fld _ _ st
        rw [ho2] at e; cases e
        exact S'.keep _ _ (ownI S ho2 hd2)
      · obtain ⟨vs, n, g, w⟩ := X.oth b hb hbI W _ Fh
        rw [g] at e; cases e
        exact ((S.carry hl hl' S').l _ _ _ _ g w.2).1
    have st₃ : St (i + 1) s₃.heap := stay nl₁ nl₃ S₂ S₃ F₂ st₂
    have back : ∀ b o, Kp b o → keepAll env W₃ s₃.heap b o := fun b o q => by
      have q2 := S₂.kp_sub b o q
      exact S₃.kp_sub b o q2
    refine ex A hN ok s₀ (keepAll env W₃ s₃.heap) W₃ s₃ _ _ S₃.moreKp { next := ?_, brk := ?_, cont := ?_, ret := ?_ }
    · intro own₄ W₄ ρ₄ s₄ p S₄
      exact ⟨items.length + 1 - (i + 1), by omega, i + 1, own₄, W₄, ρ₄, rfl, hlt, p, S₄.lessKp back S.kpN, stay nl₃ (hnl _ _ _ p) S₃ S₄ F₃ st₃, X.carry _ _ _ _ F₃ (S₃.carry nl₃ (hnl _ _ _ p) S₄)⟩
    · intro own₄ W₄ ρ₄ s₄ p S₄
      exact brk i own₄ ρ₄ p A hN ok s₀ Kp W₄ s₄ Q E (S₄.lessKp back S.kpN) f
    · intro own₄ W₄ ρ₄ s₄ p S₄
      exact ⟨items.length + 1 - (i + 1), by omega, i + 1, own₄, W₄, ρ₄, rfl, hlt, p, S₄.lessKp back S.kpN, stay nl₃ (hnl _ _ _ p) S₃ S₄ F₃ st₃, X.carry _ _ _ _ F₃ (S₃.carry nl₃ (hnl _ _ _ p) S₄)⟩
    · intro md d v s₄ p sm kp r
      exact f.ret md d v s₄ p sm (fun b o q => kp b o (back b o q)) r
  · have hin : i = items.length := by omega
    subst hin
    refine X.wk.done s₁ _ _ st₁ fun h₂ tk₂ hk₂ => ?_
    have S₂ := S₁.but hoI hdI kI tk₂ fun b o hb e => hk₂ b o (by simpa using hb) e
    exact done own₁ ρ₁ inv A hN ok s₀ Kp W₁ _ Q E S₂ f
end

end Mine

namespace Mine
open PySem PyProof.Rows

/-- called with such arguments, f gives d; nothing that was there is changed -/
def Fn (C : Cx) (k : Nat) (f : Addr) (ma : Bool) (args : List PyData) (md : Bool) (d : PyData) : Prop :=
  ∀ (A : Around) (ok : Bool → Addr → Prop) (s : Shared) (vs : List Value) (Q E : Value → Shared → Prop), Room k A → Up C.base s.heap → (∀ md a, s.heap.get? a = none → ok md a) → (∀ a, ok true a → ok false a) → RepAll (ok ma) s.heap args vs →
    (∀ v h' tk, Up s.heap h' → Rep (ok md) h' d v → Q v { s with heap := h', toks := tk }) → wpAny (model C.prog C.w) A (call (.ref f) vs) Q E s

def entry (ps : List Str) (ma : Bool) (ds : List PyData) : DEnv := fun x => ((ps.zip ds).lookup x).map fun d => (ma, d)

/-- the def at f -/
structure FnAt (C : Cx) (f : Addr) (fd : FuncData) (ps : List Str) (body : List Stmt) : Prop where
  at_ : ∃ o, C.base.get? f = some o ∧ o.data = .func fd
  code : C.base.CodeRec fd.code fd.qualname
  body_ : fd.body = .stmts body
  clo : fd.closure = []
  glob : fd.globals = mainGlobals
  bi : fd.builtins = builtinsNs
  bind : ∀ vs : List Value, vs.length = ps.length → bindArgs fd ⟨vs, []⟩ = pure (ps.zip vs)
  nd : ps.Nodup
  st : ∀ L, ps.all (fun x => storable (callEnvC fd L f) x) = true
  kind : fd.scope.kind = .function
  co : fd.scope.isCoroutine = false
  gen : fd.scope.isGenerator = false

theorem Room.deeper {k : Nat} {A : Around} (r : Room (k + 1) A) (env : Env) : Room k (A.deeper env) := by
  refine ⟨r.hh, ?_, ?_, ?_⟩
  · have := r.depth; show A.depth + 1 + k + 100 < recursionLimit; omega
  · have := r.units; show A.units + 3 + 8 * k + 80 < cLine; omega
  · obtain ⟨l, e⟩ := r.fr; exact ⟨env :: l, by show A.frames.map _ = _; rw [e]; rfl⟩
theorem Room.top {k : Nat} {A : Around} (r : Room (k + 1) A) {env : Env} (h1 : env.scope.isGenerator = false) (h2 : env.scope.isCoroutine = false) (h3 : env.builtins = builtinsNs) (h4 : env.globals = mainGlobals) : TopEnv (A.deeper env) :=
  let ⟨l, e⟩ := r.fr; ⟨env, l, by show A.frames.map _ = _; rw [e]; rfl, h1, h2, h3, h4⟩
theorem Room.le {k j : Nat} {A : Around} (r : Room k A) (h : j ≤ k) : Room j A := by
  refine ⟨r.hh, ?_, ?_, r.fr⟩
  · have := r.depth; omega
  · have := r.units; omega

theorem bind_other {env : Env} {x : Str} : ∀ (binds : List (Str × Value)) (m cm : Str → Option Value), x ∉ binds.map (·.1) → val env (bindL env.kindOf binds m) (bindC env.kindOf binds cm) x = val env m cm x
  | [], _, _, _ => rfl
  | (n, w) :: r, m, cm, h => by
    simp only [List.map_cons, List.mem_cons, not_or] at h
    unfold bindL bindC
    rw [bind_other r _ _ h.2]
    by_cases hk : env.kindOf n = some .local
    · simp only [hk, if_true, val, h.1, if_false]
    · simp only [hk, if_false, val, h.1, if_false]
theorem bind_val {env : Env} {x : Str} {v : Value} (hx : storable env x = true) : ∀ (binds : List (Str × Value)) (m cm : Str → Option Value), (binds.map (·.1)).Nodup → binds.lookup x = some v → val env (bindL env.kindOf binds m) (bindC env.kindOf binds cm) x = some v
  | [], _, _, _, h => by cases h
  | (n, w) :: r, m, cm, hnd, h => by
    simp only [List.map_cons, List.nodup_cons] at hnd
    rw [List.lookup_cons] at h
    unfold bindL bindC
    cases hb : x == n with
    | true =>
      rw [hb] at h; cases h
      have e : x = n := by simpa using hb
      subst e
      rw [bind_other r _ _ hnd.1]
      unfold storable at hx
      rcases Bool.or_eq_true_iff.mp hx with q | q
      · have q : env.kindOf x = some .local := by simpa using q
        simp only [q, if_true, val]
      · obtain ⟨q1, q2⟩ := Bool.and_eq_true_iff.mp q
        have q1 : env.kindOf x = some .cell := by simpa using q1
        obtain ⟨c, ec⟩ := Option.isSome_iff_exists.mp q2
        have e1 : ¬ (some NameKind.cell = some NameKind.local) := by decide
        simp only [val, q1, e1, if_false, if_true, ec, Option.bind_some]
    | false =>
      rw [hb] at h
      exact bind_val hx r _ _ hnd.2 h

theorem zip_lookup {α β : Type} {x : Str} {R : α → β → Prop} {b : β} : ∀ (ps : List Str) (as : List α) (bs : List β), as.length = bs.length → (∀ (i : Nat) a b, as[i]? = some a → bs[i]? = some b → R a b) → (ps.zip bs).lookup x = some b → ∃ a, (ps.zip as).lookup x = some a ∧ R a b
  | [], _, _, _, _, h => by simp at h
  | p :: ps, [], [], _, _, h => by simp at h
  | p :: ps, [], _ :: _, hl, _, h => by simp at hl
  | p :: ps, _ :: _, [], hl, _, h => by simp at hl
  | p :: ps, a :: as, b' :: bs, hl, hR, h => by
    simp only [List.zip_cons_cons, List.lookup_cons] at h ⊢
    cases hb : x == p with
    | true => rw [hb] at h; cases h; exact ⟨a, rfl, hR 0 _ _ rfl rfl⟩
    | false =>
      rw [hb] at h
      exact zip_lookup ps as bs (by simpa using hl) (fun i a b h1 h2 => hR (i + 1) a b (by simpa using h1) (by simpa using h2)) h

section
variable {C : Cx} {k : Nat} {f : Addr} {fd : FuncData} {ps : List Str} {body : List Stmt} {ma md : Bool} {args : List PyData} {d : PyData}
theorem Fn.of (X : FnAt C f fd ps body) (hlen : args.length = ps.length) (h : ∀ L, Ex C k (callEnvC fd L f) [] (entry ps ma args) body (fun o => o = .ret md d)) : Fn C (k + 1) f ma args md d := by
  intro A ok s vs Q E hr hu hnew hle hargs hQ
  obtain ⟨o, ho, hd⟩ := X.at_
  have hvl : vs.length = ps.length := by rw [hargs.length, hlen]
  have hmap : (ps.zip vs).map (·.1) = ps := by rw [List.map_fst_zip]; omega
  refine wpAny_call ?_
  refine codeAny_call_cells (by have := hr.depth; omega) (hu _ _ ho) hd (C.lim.keeps hu) (X.code.keeps hu) X.body_ (X.bind vs hvl) X.clo (fun x hx => ?_) (fun s₁ ic => ?_) X.co X.gen X.kind
  · have hm : x.1 ∈ ps := hmap ▸ List.mem_map_of_mem hx
    have := List.all_eq_true.mp (X.st s.heap.objs.size) x.1 hm
    unfold storable at this
    rcases Bool.or_eq_true_iff.mp this with q | q
    · exact .inl (eq_of_beq q)
    · obtain ⟨q1, q2⟩ := Bool.and_eq_true_iff.mp q
      exact .inr ⟨eq_of_beq q1, q2⟩
  · have hfresh : ∀ a, s.heap.objs.size ≤ a → s.heap.get? a = none := fun a ha => Heap.get?_none_of_le ha
    have S : Sta C k (A.deeper (callEnvC fd s.heap.objs.size f)) s.heap ok s (fun b o => s.heap.get? b = some o) (callEnvC fd s.heap.objs.size f) [] (fun _ => none) (entry ps ma args) s₁ := by
      refine { room := hr.deeper _, top := hr.top X.gen X.co X.bi X.glob, eok := ⟨X.kind, X.glob, X.bi⟩, up := hu, new := hnew, le := hle, kpN := fun _ _ e => e, same := ic.toInCall.same, keep := ic.toInCall.keep, newL := fun o q => ?_, newC := fun n c o q q' => ?_, apart := ic.apart, frm := ?_, own1 := fun x => ?_, own2 := fun x a q => (nomatch q), inj := fun x y a q => (nomatch q) }
      · have : s.heap.get? s.heap.objs.size = some o := q
        rw [hfresh _ (Nat.le_refl _)] at this; cases this
      · have hc := ic.above n c (PySem.mem_of_lookup q)
        have : s.heap.get? c = some o := q'
        rw [hfresh _ (Nat.le_of_lt hc)] at this; cases this
      · refine ⟨_, _, ic.toInCall.ns, ic.cell, fun x md' d' e => ?_⟩
        unfold entry at e
        cases hl : (ps.zip args).lookup x with
        | none => rw [hl] at e; cases e
        | some d₀ =>
          rw [hl] at e; cases e
          have hx : x ∈ ps := by have := List.mem_map_of_mem (f := (·.1)) (PySem.mem_of_lookup hl); rw [List.map_fst_zip (by omega)] at this; exact this
          obtain ⟨v, hv, r⟩ := zip_lookup (R := fun v d => Rep (ok ma) s.heap d v) ps vs args hargs.length (fun i a b h1 h2 => by
            obtain ⟨d', e', r⟩ := hargs.getV h1
            rw [h2] at e'; cases e'; exact r) hl
          refine ⟨v, bind_val (List.all_eq_true.mp (X.st s.heap.objs.size) x hx) _ _ _ (hmap.symm ▸ X.nd) hv, ?_⟩
          unfold Holds1
          exact (r.imp fun a q => ⟨q, fun _ z => nomatch z⟩).up ic.toInCall.keep
      · simp
    refine h s.heap.objs.size _ _ ok s _ _ s₁ _ _ S { next := fun _ _ _ _ p => (nomatch p), brk := fun _ _ _ _ p => (nomatch p), cont := fun _ _ _ _ p => (nomatch p), ret := fun md' d' v s' p sm kp r => ?_ }
    cases p
    obtain ⟨h', tk, e⟩ := sm
    subst e
    exact hQ v h' tk kp r

variable {env : Env} {own : List Str} {ρ : DEnv} {e : Expr} {es : List Expr} {pos npos : Pos} {x : Str}
/-- a def of the top, by its name -/
theorem EvK.glob {v : Value} (hg : C.mg x = some v) (hk : env.kindOf x = some .globalImplicit := by rfl) (hd : (x == ("__debug__" : Str)) = false := by decide) : EvK C k env own ρ (.Name x pos) v := fun A ok W s Q E c q =>
  Calls.Name_function_global c.eok.kind hk (Calls.loadGlobal_global (by rw [c.eok.glob]; exact C.g.keeps c.up) hg (q s.heap s.toks (Up.refl _))) hd
theorem EvK.builtin {v : Value} (hg : C.mg x = none) (hv : bootBuiltins x = some v) (hn : x ≠ "__name__" := by decide) (hk : env.kindOf x = some .globalImplicit := by rfl) (hd : (x == ("__debug__" : Str)) = false := by decide) : EvK C k env own ρ (.Name x pos) v := fun A ok W s Q E c q =>
  Calls.Name_function_global c.eok.kind hk (Calls.loadGlobal_builtin (by rw [c.eok.glob]; exact C.g.keeps c.up) hg (by rw [c.eok.bi]; exact C.b.keeps c.up) ((C.bi x hn).trans hv) (q s.heap s.toks (Up.refl _))) hd

theorem Ev.call {j : Nat} (X : ∃ o fd, C.base.get? f = some o ∧ o.data = .func fd) (hf : EvK C k env own ρ (.Name x npos) (.ref f)) (ha : Evs C k env own ρ (e :: es) ma args) (hF : Fn C j f ma args md d) (hj : j ≤ k := by decide)
    (he : starEach (e :: es) env = (false, eval e env) :: starEach es env := by rfl) : Ev C k env own ρ (.Call (.Name x npos) (e :: es) [] pos) md d := fun A ok W s Q E c q => by
  obtain ⟨o, fd, ho, hd⟩ := X
  refine Call_ (hf A ok W s _ E c fun h' tk u => ?_)
  refine callWith_def hd (ha A ok W _ _ E pos (c.on u tk) fun vs h'' tk' u' y => ⟨c.up.trans (u.trans u') _ _ ho, ?_⟩) he
  have c' := (c.on u tk).on u' tk'
  exact hF A (okW ok W) _ vs Q E (c'.room.le hj) c'.up (fun md a z => c'.okNew md z) (fun a z => okW_le (md := false) (md' := true) c.le rfl z) y fun v h₃ tk₃ u₃ r => q v h₃ tk₃ ((u.trans u').trans u₃) r
end

end Mine

namespace Mine
open PySem PyProof.Rows

section
variable {C : Cx} {k : Nat} {env : Env} {own : List Str} {ρ : DEnv} {e l r : Expr} {es : List Expr} {md md' ml mr : Bool} {d : PyData} {ds ds' : List PyData} {pos npos : Pos} {i j : Int} {x : Str}

theorem Ev.mul (hl : EvB C k env own ρ l false (.int i)) (hr : EvB C k env own ρ r false (.int j)) (hm : IntMulOk i j) : Ev C k env own ρ (.BinOp l .Mult r pos) md (.int (i * j)) :=
  fun _ _ _ _ _ _ c q => wpAny_BinOp (two_int hl hr c fun _ _ _ _ u => P.mul_int (q _ _ _ u (.int _ _)) hm)
theorem Ev.mod (hl : EvB C k env own ρ l false (.int i)) (hr : EvB C k env own ρ r false (.int j)) (hj : j ≠ 0) : Ev C k env own ρ (.BinOp l .Mod r pos) md (.int (i.fmod j)) :=
  fun _ _ _ _ _ _ c q => wpAny_BinOp (two_int hl hr c fun _ _ _ _ u => mod_int' hj (q _ _ _ u (.int _ _)))
theorem pyroom {A : Around} {ok : Bool → Addr → Prop} {W : Str → Option Addr} {s : Shared} (c : Cur C k A ok W own env ρ s) : PylongRoom (model C.prog C.w) A s := by
  obtain ⟨e, l, h1, h2, h3, h4, h5⟩ := c.top.is
  refine PylongRoom.of (C.lim.keeps c.up) (by have := c.room.depth; show A.depth + 100 < _; omega) (SeerAt.of (C.seer.keeps c.up) C.tree h1 h2 h3 h4 h5)
theorem Ev.fdiv (hl : EvB C k env own ρ l false (.int i)) (hr : EvB C k env own ρ r false (.int j)) (hj : j ≠ 0) : Ev C k env own ρ (.BinOp l .FloorDiv r pos) md (.int (i.fdiv j)) :=
  fun _ _ _ _ _ _ c q => wpAny_BinOp (two_int hl hr c fun _ _ h' tk u => floordiv_int hj (q _ _ _ u (.int _ _)) (.inr (pyroom (c.on u tk))))
/-- a comparison comes out as b -/
def Cmp (C : Cx) (k : Nat) (env : Env) (own : List Str) (ρ : DEnv) (l : Expr) (op : CmpOp) (r : Expr) (b : Bool) : Prop :=
  ∀ A ok W s Q E, Cur C k A ok W own env ρ s → (∀ h' tk, Up s.heap h' → Q (.bool b) { s with heap := h', toks := tk }) →
    wpAny (model C.prog C.w) A (eval l env) (fun x s₁ => wpAny (model C.prog C.w) A (eval r env) (fun y s₂ => wpAny (model C.prog C.w) A (compareOp op x y) Q E s₂) E s₁) E s
theorem Tst.cmp {op : CmpOp} {b : Bool} (h : Cmp C k env own ρ l op r b) (hm : behindInMarks op r = false := by with_unfolding_all rfl) : Tst C k env own ρ (.Compare l [op] [r] pos) b := fun A ok W s Q E c q =>
  wpAny_isTrue_Compare1 (h A ok W s _ E c fun h' tk u => wpAny_truthy_bool (q h' tk u)) hm
theorem Ev.cmp {op : CmpOp} {b : Bool} (h : Cmp C k env own ρ l op r b) (hm : behindInMarks op r = false := by with_unfolding_all rfl) : Ev C k env own ρ (.Compare l [op] [r] pos) md (.bool b) := fun A ok W s Q E c q =>
  wpAny_Compare1 (h A ok W s _ E c fun h' tk u => q _ h' tk u (.bool b)) hm
theorem Cmp.eq (hl : EvB C k env own ρ l false (.int i)) (hr : EvB C k env own ρ r false (.int j)) : Cmp C k env own ρ l .Eq r (i == j) := fun _ _ _ _ _ _ c q => two_int hl hr c fun _ _ _ _ u => P.eq_int (q _ _ u)
theorem Cmp.ne (hl : EvB C k env own ρ l false (.int i)) (hr : EvB C k env own ρ r false (.int j)) : Cmp C k env own ρ l .NotEq r (i != j) := fun _ _ _ _ _ _ c q => two_int hl hr c fun _ _ _ _ u => P.ne_int (q _ _ u)
theorem Cmp.lt (hl : EvB C k env own ρ l false (.int i)) (hr : EvB C k env own ρ r false (.int j)) : Cmp C k env own ρ l .Lt r (decide (i < j)) := fun _ _ _ _ _ _ c q => two_int hl hr c fun _ _ _ _ u => P.lt_int (q _ _ u)
theorem Cmp.le (hl : EvB C k env own ρ l false (.int i)) (hr : EvB C k env own ρ r false (.int j)) : Cmp C k env own ρ l .LtE r (decide (i ≤ j)) := fun _ _ _ _ _ _ c q => two_int hl hr c fun _ _ _ _ u => P.le_int (q _ _ u)
theorem Cmp.ge (hl : EvB C k env own ρ l false (.int i)) (hr : EvB C k env own ρ r false (.int j)) : Cmp C k env own ρ l .GtE r (decide (i ≥ j)) := fun _ _ _ _ _ _ c q => two_int hl hr c fun _ _ _ _ u => P.ge_int (q _ _ u)

/-- two operands, any data -/
theorem two_any {d₁ d₂ : PyData} (hl : EvB C k env own ρ l ml d₁) (hr : EvB C k env own ρ r mr d₂) {A ok W s} {E : Value → Shared → Prop} {F : Value → Value → Sem Value} {Q : Value → Shared → Prop} (c : Cur C k A ok W own env ρ s)
    (h : ∀ v v' h' tk, Up s.heap h' → RepB (okW ok W ml) h' d₁ v → RepB (okW ok W mr) h' d₂ v' → wpAny (model C.prog C.w) A (F v v') Q E { s with heap := h', toks := tk }) :
    wpAny (model C.prog C.w) A (eval l env) (fun x s₁ => wpAny (model C.prog C.w) A (eval r env) (fun y s₂ => wpAny (model C.prog C.w) A (F x y) Q E s₂) E s₁) E s := by
  refine hl A ok W s _ E c fun v h' tk u y => ?_
  refine hr A ok W _ _ E (c.on u tk) fun v' h'' tk' u' y' => ?_
  exact h v v' h'' tk' (u.trans u') (y.up u') y'
theorem Cmp.eqD {d₁ d₂ : PyData} (hl : EvB C k env own ρ l false d₁) (hr : EvB C k env own ρ r false d₂) (h1 : SeqAt.shaped d₁ = true) (h2 : SeqAt.shaped d₂ = true) : Cmp C k env own ρ l .Eq r (PyData.eqv d₁ d₂) := fun A ok W s Q E c q =>
  two_any hl hr c fun v v' h' tk u y y' => by
    obtain ⟨as, ra⟩ := y.reads (SeqAt.canLay_of_shaped h1)
    obtain ⟨bs, rb⟩ := y'.reads (SeqAt.canLay_of_shaped h2)
    exact eq_dataH (s := { s with heap := h', toks := tk }) ra rb h1 h2 (by have := c.room.units; omega) (q _ _ u)
theorem Cmp.neD {d₁ d₂ : PyData} (hl : EvB C k env own ρ l false d₁) (hr : EvB C k env own ρ r false d₂) (h1 : SeqAt.shaped d₁ = true) (h2 : SeqAt.shaped d₂ = true) : Cmp C k env own ρ l .NotEq r (!PyData.eqv d₁ d₂) := fun A ok W s Q E c q =>
  two_any hl hr c fun v v' h' tk u y y' => by
    obtain ⟨as, ra⟩ := y.reads (SeqAt.canLay_of_shaped h1)
    obtain ⟨bs, rb⟩ := y'.reads (SeqAt.canLay_of_shaped h2)
    exact ne_dataH (s := { s with heap := h', toks := tk }) ra rb h1 h2 (by have := c.room.units; omega) (q _ _ u)
theorem Cmp.inL {d₁ : PyData} (hl : EvB C k env own ρ l false d₁) (hr : EvB C k env own ρ r false (.list ds)) (h1 : PyData.canLay0 d₁ = true) (h2 : PyData.canLayAll0 ds = true) (h3 : d₁.depth ≤ 60) : Cmp C k env own ρ l .In r (ds.any fun y => PyData.eqv y d₁) := fun A ok W s Q E c q =>
  two_any hl hr c fun v v' h' tk u y y' => by
    obtain ⟨as, ra⟩ := y.reads h1
    obtain ⟨bs, rb⟩ := y'.reads (by rw [PyData.canLay0]; exact h2)
    exact SeqAt.in_list_reads (s := { s with heap := h', toks := tk }) rb ra h2 h1 (by have := c.room.units; omega) (q _ _ u)
theorem Cmp.notInL {d₁ : PyData} (hl : EvB C k env own ρ l false d₁) (hr : EvB C k env own ρ r false (.list ds)) (h1 : PyData.canLay0 d₁ = true) (h2 : PyData.canLayAll0 ds = true) (h3 : d₁.depth ≤ 60) : Cmp C k env own ρ l .NotIn r (!ds.any fun y => PyData.eqv y d₁) := fun A ok W s Q E c q =>
  two_any hl hr c fun v v' h' tk u y y' => by
    obtain ⟨as, ra⟩ := y.reads h1
    obtain ⟨bs, rb⟩ := y'.reads (by rw [PyData.canLay0]; exact h2)
    exact SeqAt.notIn_list_reads (s := { s with heap := h', toks := tk }) rb ra h2 h1 (by have := c.room.units; omega) (q _ _ u)
theorem Cmp.eqS {a b : Str} (hl : EvB C k env own ρ l false (.str a)) (hr : EvB C k env own ρ r false (.str b)) : Cmp C k env own ρ l .Eq r (a == b) := fun A ok W s Q E c q =>
  two_any hl hr c fun v v' h' tk u y y' => by
    obtain ⟨t, rfl⟩ := y.str_inv
    obtain ⟨t', rfl⟩ := y'.str_inv
    exact PyProof.Rows.eq_str (q _ _ u)
theorem Cmp.isNotK {v v' : Value} (hl : EvK C k env own ρ l v) (hr : EvK C k env own ρ r v') (hp : plainIs v v' = true) : Cmp C k env own ρ l .IsNot r (!(v == v')) := fun A ok W s Q E c q =>
  hl A ok W s _ E c fun h' tk u => hr A ok W _ _ E (c.on u tk) fun h'' tk' u' => wpAny_isNot_plain hp (q _ _ (u.trans u'))
theorem Tst.and_nil : Tst C k env own ρ (.BoolOp .And [] pos) true := fun A ok W s Q E c q => isTrue_and_nil (q s.heap s.toks (Up.refl _))
theorem Tst.or_nil : Tst C k env own ρ (.BoolOp .Or [] pos) false := fun A ok W s Q E c q => isTrue_or_nil (q s.heap s.toks (Up.refl _))
theorem Tst.and_cons {b b' : Bool} (h : Tst C k env own ρ e b) (h' : b = true → Tst C k env own ρ (.BoolOp .And es pos) b') : Tst C k env own ρ (.BoolOp .And (e :: es) pos) (b && b') := fun A ok W s Q E c q =>
  isTrue_and (h A ok W s _ E c fun h₁ tk u => by
    cases b with
    | true => exact h' rfl A ok W _ _ E (c.on u tk) fun h₂ tk₂ u₂ => q _ _ (u.trans u₂)
    | false => exact q _ _ u)
theorem Tst.or_cons {b b' : Bool} (h : Tst C k env own ρ e b) (h' : b = false → Tst C k env own ρ (.BoolOp .Or es pos) b') : Tst C k env own ρ (.BoolOp .Or (e :: es) pos) (b || b') := fun A ok W s Q E c q =>
  isTrue_or (h A ok W s _ E c fun h₁ tk u => by
    cases b with
    | true => exact q _ _ u
    | false => exact h' rfl A ok W _ _ E (c.on u tk) fun h₂ tk₂ u₂ => q _ _ (u.trans u₂))
theorem Ev.ifexp {t body orelse : Expr} {b : Bool} {d₁ d₂ : PyData} (h : Tst C k env own ρ t b) (h1 : b = true → Ev C k env own ρ body md d₁) (h2 : b = false → Ev C k env own ρ orelse md d₂) : Ev C k env own ρ (.IfExp t body orelse pos) md (if b then d₁ else d₂) := fun A ok W s Q E c q =>
  PySem.wpAny_IfExp (h A ok W s _ E c fun h₁ tk u => by
    cases b with
    | true => exact h1 rfl A ok W _ _ E (c.on u tk) fun v h₂ tk₂ u₂ y => q _ _ _ (u.trans u₂) y
    | false => exact h2 rfl A ok W _ _ E (c.on u tk) fun v h₂ tk₂ u₂ y => q _ _ _ (u.trans u₂) y)

theorem Ev.tuple {n : Nat} (h : Evs C k env own ρ es md ds) (hz : ds.length ≤ sizeLine) : Ev C k env own ρ (.Tuple es n pos) md (.tuple ds) := fun A ok W s Q E c q =>
  PySem.wpAny_Tuple (h A ok W s _ E pos c fun vs h' tk u y => ⟨by rw [y.length]; exact hz, q _ _ _ (u.trans (Up.push _ _)) (.tuple (vs := vs) (n := 0) (Heap.get?_push_size _ rfl) (y.up (Up.push _ _)))⟩)
theorem EvF.list (h : Evs C k env own ρ es md ds) (hz : ds.length ≤ sizeLine) : EvF C k env own ρ (.List es pos) md ds := fun A ok W s Q E c q =>
  PySem.wpAny_List (h A ok W s _ E pos c fun vs h' tk u y => ⟨by rw [y.length]; exact hz, by
    have fr : h'.get? h'.objs.size = none := Heap.get?_none_of_le (Nat.le_refl _)
    refine q h'.objs.size vs 0 _ _ (u.trans (Up.push _ _)) (u.none fr) (Heap.get?_push_size _ rfl) ?_
    exact (y.there.imp fun b z => ⟨z.1, fun w => z.2 (w ▸ fr)⟩).up (Up.push _ _)⟩)

theorem seqTail {A : Around} {s : Shared} {value slice : Expr} {o i : Value} {T id : String} {Q : Value → Shared → Prop} {E : Value → Shared → Prop} (hT : s.TypeIs o T) (hl : typeLookup (.type T) "__getitem__" = pure (some (.builtin id)))
    (h : wpAny (model C.prog C.w) A (getItem o i) Q E s) (hs : ∃ vs, subscripted slice false o i = operate vs (getItem o i)) : wpAny (model C.prog C.w) A (subscriptTail value slice o i) Q E s := by
  obtain ⟨vs, hs⟩ := hs
  unfold subscriptTail
  refine wpAny_bind ?_
  rw [getitemInPython_of_ne hT.not_modules]
  refine wpAny_bind (wpAny_specialOf hT hl ?_)
  have fin : wpAny (model C.prog C.w) A (subscripted slice false o i) (fun r s₃ => wpAny (model C.prog C.w) A (letTemporaryGo value o r >>= fun _ => pure r) Q E s₃) E s := by
    rw [hs]
    exact wpAny_operating (wpAny_mono h (fun r s₃ h₃ => wpAny_bind (wpAny_letTemporaryGo (wpAny_pure h₃))) fun _ _ x => x)
  exact wpAny_pure (wpAny_bind fin)

theorem Ev.item {slice : Expr} (hl : EvB C k env own ρ l md (.list ds)) (hi : EvB C k env own ρ slice false (.int i)) (h0 : 0 ≤ i) (hd : ds[i.toNat]? = some d) (hz : ds.length ≤ sizeLine)
    (hs : ∀ o i, ∃ vs, subscripted slice false o i = operate vs (getItem o i) := by intro o i; exact ⟨_, rfl⟩) : Ev C k env own ρ (.Subscript l slice pos) md d := fun A ok W s Q E c q =>
  PyProof.Rows.Subscript_ (two_any (F := fun o i => subscriptTail l slice o i) hl hi c fun v v' h' tk u y y' => by
    obtain ⟨a, vs, n, e, g, r⟩ := y
    obtain ⟨t, rfl⟩ := y'.int_inv
    subst e
    obtain ⟨v, hv, rv⟩ := r.get hd
    have hil : Heap.IsList h' a vs.toArray := ⟨_, g, rfl, _, rfl⟩
    refine seqTail (s := { s with heap := h', toks := tk }) hil.typeIs slot_list_getitem.lookup (wpAny_getItem_list hil h0 ?_ (by simpa using hv) (q v h' tk u rv)) (hs _ _)
    have : i.toNat < ds.length := by
      rcases Nat.lt_or_ge i.toNat ds.length with h | h
      · exact h
      · rw [List.getElem?_eq_none h] at hd; cases hd
    rw [sizeLine_eq] at hz
    omega)
theorem Ev.itemNeg {slice : Expr} (hl : EvB C k env own ρ l md (.list ds)) (hi : EvB C k env own ρ slice false (.int i)) (h0 : i < 0) (h1 : -(ds.length : Int) ≤ i) (hd : ds[(i + ds.length).toNat]? = some d) (hz : ds.length ≤ sizeLine)
    (hs : ∀ o i, ∃ vs, subscripted slice false o i = operate vs (getItem o i) := by intro o i; exact ⟨_, rfl⟩) : Ev C k env own ρ (.Subscript l slice pos) md d := fun A ok W s Q E c q =>
  PyProof.Rows.Subscript_ (two_any (F := fun o i => subscriptTail l slice o i) hl hi c fun v v' h' tk u y y' => by
    obtain ⟨a, vs, n, e, g, r⟩ := y
    obtain ⟨t, rfl⟩ := y'.int_inv
    subst e
    obtain ⟨v, hv, rv⟩ := r.get hd
    have hil : Heap.IsList h' a vs.toArray := ⟨_, g, rfl, _, rfl⟩
    have hsz : (vs.toArray.size : Int) = ds.length := by rw [List.size_toArray, r.length]
    refine seqTail (s := { s with heap := h', toks := tk }) hil.typeIs slot_list_getitem.lookup (wpAny_getItem_list_neg hil h0 (by rw [hsz]; exact h1) ?_ (by rw [hsz]; simpa using hv) (q v h' tk u rv)) (hs _ _)
    rw [sizeLine_eq] at hz
    omega)
theorem Ev.itemT {slice : Expr} {j : Nat} (hl : EvB C k env own ρ l md (.tuple ds)) (hi : EvB C k env own ρ slice false (.int i)) (hlo : -(2 ^ 63) ≤ i) (hhi : i < 2 ^ 63) (hj : seqIndex? i ds.length = some j) (hd : ds[j]? = some d)
    (hs : ∀ o i, ∃ vs, subscripted slice false o i = operate vs (getItem o i) := by intro o i; exact ⟨_, rfl⟩) : Ev C k env own ρ (.Subscript l slice pos) md d := fun A ok W s Q E c q =>
  PyProof.Rows.Subscript_ (two_any (F := fun o i => subscriptTail l slice o i) hl hi c fun v v' h' tk u y y' => by
    have y : Rep (okW ok W md) h' (.tuple ds) v := y
    obtain ⟨t, rfl⟩ := y'.int_inv
    cases y with
    | tuple g r =>
      rename_i a vs n
      obtain ⟨v, hv, rv⟩ := r.get hd
      have hit : IsTup h' a vs.toArray := ⟨_, g, rfl, _, rfl⟩
      exact seqTail (s := { s with heap := h', toks := tk }) hit.typeIs slot_tuple_getitem.lookup (PyProof.Rows.getItem_tuple hit hlo hhi (by rw [List.size_toArray, r.length]; exact hj) (by simpa using hv) (q v h' tk u rv)) (hs _ _))

/-- a slice's bounds, as places -/
def slA (n : Nat) : Option Int → Nat
  | none => 0
  | some i => (max 0 (min (if i < 0 then i + n else i) n)).toNat
def slB (n : Nat) : Option Int → Nat
  | none => n
  | some i => (max 0 (min (if i < 0 then i + n else i) n)).toNat
def slD {α : Type} (ds : List α) (lo hi : Option Int) : List α := (ds.drop (slA ds.length lo)).take (slB ds.length hi - slA ds.length lo)
theorem slicePick_eq (vs : List Value) (lo hi : Option Int) : slicePick vs.toArray lo hi none = (slD vs lo hi).toArray := by
  have e : sliceBounds lo hi none vs.toArray.size = ((slA vs.length lo : Int), (slB vs.length hi : Int), 1) := by
    rw [List.size_toArray]
    simp only [sliceBounds, Option.getD_none, show (1 : Int) > 0 by decide, if_true]
    refine Prod.ext ?_ (Prod.ext ?_ rfl)
    · cases lo with
      | none => rfl
      | some i => simp only [slA]; omega
    · cases hi with
      | none => rfl
      | some i => simp only [slB]; omega
  unfold slicePick
  rw [e]
  simp only [sliceRange_one, pick_run]
  rfl
theorem RepAll.sl {ok : Addr → Prop} {h : Heap} {vs : List Value} (x : RepAll ok h ds vs) (lo hi : Option Int) : RepAll ok h (slD ds lo hi) (slD vs lo hi) := by
  unfold slD; rw [x.length]; exact (x.drop _).take _
/-- a bound of a slice: none written, or an int -/
def EvP (C : Cx) (k : Nat) (env : Env) (own : List Str) (ρ : DEnv) (e : Option Expr) (i : Option Int) : Prop := match e, i with
  | none, none => True
  | some e, some i => EvB C k env own ρ e false (.int i)
  | _, _ => False
theorem EvF.slice {lower upper : Option Expr} {lo hi : Option Int} {p : Pos} (hl : EvB C k env own ρ l md (.list ds)) (h1 : EvP C k env own ρ lower lo) (h2 : EvP C k env own ρ upper hi) (hz : ds.length ≤ sizeLine) :
    EvF C k env own ρ (.Subscript l (.Slice lower upper none p) pos) md (slD ds lo hi) := fun A ok W s Q E c q => by
  have part : ∀ {e : Option Expr} {i : Option Int} (h : EvP C k env own ρ e i) {s' : Shared} {Q' : Value → Shared → Prop}, Cur C k A ok W own env ρ s' → (∀ v h' tk, Up s'.heap h' → IsPart v i → Q' v { s' with heap := h', toks := tk }) → wpAny (model C.prog C.w) A (evalPart e env) Q' E s' := by
    intro e i h s' Q' c' q'
    cases e with
    | none =>
      cases i with
      | none => rw [evalPart_none]; exact wpAny_pure (q' _ s'.heap s'.toks (Up.refl _) .none)
      | some i => exact h.elim
    | some e =>
      cases i with
      | none => exact h.elim
      | some i =>
        rw [evalPart_some]
        refine h A ok W s' _ E c' fun v h' tk u y => ?_
        obtain ⟨t, rfl⟩ := y.int_inv
        exact q' _ _ _ u (.int i t)
  refine PyProof.Rows.Subscript_ (hl A ok W s _ E c fun v h' tk u y => ?_)
  obtain ⟨a, vs, n, e, g, r⟩ := y
  subst e
  refine wpAny_Slice (part h1 (c.on u tk) fun vl h₂ tk₂ u₂ pl => part h2 ((c.on u tk).on u₂ tk₂) fun vu h₃ tk₃ u₃ pu => ?_)
  rw [evalPart_none]
  refine wpAny_pure ?_
  have u' := u₂.trans u₃
  have hil : Heap.IsList (h₃.push { cls := .type "slice", data := .fields #[vl, vu, .none] }) a vs.toArray := ⟨_, Heap.get?_push_of_some _ (u' _ _ g), rfl, _, rfl⟩
  refine seqTail (s := { s with heap := h₃.push { cls := .type "slice", data := .fields #[vl, vu, .none] }, toks := tk₃ }) hil.typeIs slot_list_getitem.lookup (wpAny_getItem_list_slice hil (Heap.IsSliceOf.new ..) pl pu .none (by simp) ?_ (by rw [List.size_toArray, r.length]; exact hz)) ⟨_, rfl⟩
  rw [slicePick_eq]
  have fr : (h₃.push { cls := .type "slice", data := .fields #[vl, vu, .none] }).get? (h₃.push { cls := .type "slice", data := .fields #[vl, vu, .none] }).objs.size = none := Heap.get?_none_of_le (Nat.le_refl _)
  refine q _ _ _ _ _ ((u.trans u').trans ((Up.push _ _).trans (Up.push _ _))) (((u.trans u').trans (Up.push _ _)).none fr) (Heap.get?_push_size _ rfl) ?_
  have r' := ((r.up u').up (Up.push h₃ { cls := .type "slice", data := .fields #[vl, vu, .none] })).sl lo hi
  exact (r'.there.imp fun b z => ⟨z.1, fun w => z.2 (w ▸ fr)⟩).up (Up.push _ _)

theorem EvF.add (hl : EvB C k env own ρ l md (.list ds)) (hr : EvB C k env own ρ r md (.list ds')) (hz : ds.length + ds'.length ≤ sizeLine) : EvF C k env own ρ (.BinOp l .Add r pos) md (ds ++ ds') := fun A ok W s Q E c q =>
  wpAny_BinOp (two_any hl hr c fun v v' h' tk u y y' => by
    obtain ⟨a, vs, n, e, g, r⟩ := y
    obtain ⟨a', vs', n', e', g', r'⟩ := y'
    subst e e'
    have fr : h'.get? h'.objs.size = none := Heap.get?_none_of_le (Nat.le_refl _)
    refine P.add_list (s := { s with heap := h', toks := tk }) g g' ?_ (by rw [List.size_toArray, List.size_toArray, r.length, r'.length]; exact hz)
    have e : (vs.toArray ++ vs'.toArray) = (vs ++ vs').toArray := by simp
    rw [e]
    refine q _ _ _ _ _ (u.trans (Up.push _ _)) (u.none fr) (Heap.get?_push_size _ rfl) ?_
    exact ((r.append r').there.imp fun b z => ⟨z.1, fun w => z.2 (w ▸ fr)⟩).up (Up.push _ _))
end

end Mine

namespace Mine
open PySem PyProof.Rows

section
variable {C : Cx} {k : Nat} {env : Env} {own : List Str} {ρ : DEnv} {e e' l r : Expr} {es : List Expr} {md md' ml mr : Bool} {d : PyData} {ds ds' : List PyData} {pos npos : Pos} {i j : Int} {x : Str} {id T : String}
variable {A : Around} {ok : Bool → Addr → Prop} {W : Str → Option Addr} {s : Shared} {Q E : Value → Shared → Prop}

theorem call1 (hf : EvK C k env own ρ (.Name x npos) (.builtin id)) (ha : EvB C k env own ρ e md d) (c : Cur C k A ok W own env ρ s)
    (h : ∀ v h' tk, Up s.heap h' → RepB (okW ok W md) h' d v → wpAny (model C.prog C.w) A (call (.builtin id) [v]) Q E { s with heap := h', toks := tk }) (he : starEach [e] env = (false, eval e env) :: starEach [] env := by rfl) :
    wpAny (model C.prog C.w) A (eval (.Call (.Name x npos) [e] [] pos) env) Q E s :=
  Call_ (hf A ok W s _ E c fun h₁ tk₁ u₁ => PyProof.Rows.callWith_builtin1 (args_cons (ha A ok W _ _ E (c.on u₁ tk₁) fun v h' tk u y => args_nil (h v h' tk (u₁.trans u) y)) he) he)
theorem call2 (hf : EvK C k env own ρ (.Name x npos) (.builtin id)) (ha : EvB C k env own ρ e false (.int i)) (hb : EvB C k env own ρ e' false (.int j)) (c : Cur C k A ok W own env ρ s)
    (h : ∀ t u h' tk, Up s.heap h' → wpAny (model C.prog C.w) A (call (.builtin id) [.int i t, .int j u]) Q E { s with heap := h', toks := tk }) (he : starEach [e, e'] env = (false, eval e env) :: starEach [e'] env := by rfl) (he' : starEach [e'] env = (false, eval e' env) :: starEach [] env := by rfl)
    (hplain : (backTo pos (starEach [e'] env)).any (·.1) = false := by rfl) : wpAny (model C.prog C.w) A (eval (.Call (.Name x npos) [e, e'] [] pos) env) Q E s :=
  Call_ (hf A ok W s _ E c fun h₁ tk₁ u₁ => PyProof.Rows.callWith_builtin1 (args_cons (ha A ok W _ _ E (c.on u₁ tk₁) fun v h' tk u y => args_cons (hb A ok W _ _ E ((c.on u₁ tk₁).on u tk) fun v' h'' tk' u' y' => by
    obtain ⟨t, rfl⟩ := y.int_inv
    obtain ⟨t', rfl⟩ := y'.int_inv
    exact args_nil (h t t' h'' tk' ((u₁.trans u).trans u'))) he') he) he hplain)
theorem callT (hf : EvK C k env own ρ (.Name x npos) (.type T)) (ha : EvB C k env own ρ e md d) (c : Cur C k A ok W own env ρ s)
    (h : ∀ v h' tk, Up s.heap h' → RepB (okW ok W md) h' d v → wpAny (model C.prog C.w) A (call (.type T) [v]) Q E { s with heap := h', toks := tk }) (he : starEach [e] env = (false, eval e env) :: starEach [] env := by rfl) :
    wpAny (model C.prog C.w) A (eval (.Call (.Name x npos) [e] [] pos) env) Q E s :=
  Call_ (hf A ok W s _ E c fun h₁ tk₁ u₁ => PyProof.Rows.callWith_type1 (args_cons (ha A ok W _ _ E (c.on u₁ tk₁) fun v h' tk u y => args_nil (h v h' tk (u₁.trans u) y)) he) he)
end

section
variable {C : Cx} {k : Nat} {env : Env} {own : List Str} {ρ : DEnv} {e e' l r : Expr} {es : List Expr} {md md' ml mr : Bool} {d : PyData} {ds ds' : List PyData} {pos npos : Pos} {i j : Int} {x : Str} {id T : String}

theorem Ev.len (hf : EvK C k env own ρ (.Name x npos) (.builtin "len")) (ha : EvB C k env own ρ e false (.list ds)) (hz : ds.length ≤ sizeLine) (he : starEach [e] env = (false, eval e env) :: starEach [] env := by rfl) :
    Ev C k env own ρ (.Call (.Name x npos) [e] [] pos) md (.int ds.length) := fun A ok W s Q E c q =>
  call1 hf ha c (fun v h' tk u y => by
    obtain ⟨a, vs, n, e, g, r⟩ := y
    subst e
    have hl : ((vs.toArray.size : Nat) : Int) = ds.length := by rw [List.size_toArray, r.length]
    refine Calls.call_len_list (s := { s with heap := h', toks := tk }) ⟨_, g, rfl, _, rfl⟩ (by rw [hl]; rw [sizeLine_eq] at hz; omega) ?_
    rw [hl]
    exact q _ _ _ u (.int _ _)) he
theorem Ev.abs (hf : EvK C k env own ρ (.Name x npos) (.builtin "abs")) (ha : EvB C k env own ρ e false (.int i)) (he : starEach [e] env = (false, eval e env) :: starEach [] env := by rfl) :
    Ev C k env own ρ (.Call (.Name x npos) [e] [] pos) md (.int (i.natAbs : Int)) := fun A ok W s Q E c q =>
  call1 hf ha c (fun v h' tk u y => by
    obtain ⟨t, rfl⟩ := y.int_inv
    refine PyProof.Rows.call_abs_int fun t' tk' => ?_
    have e : (if i < 0 then -i else i) = (i.natAbs : Int) := by split <;> omega
    rw [e]
    exact q _ _ _ u (.int _ _)) he
theorem Ev.min (hf : EvK C k env own ρ (.Name x npos) (.builtin "min")) (ha : EvB C k env own ρ e false (.int i)) (hb : EvB C k env own ρ e' false (.int j)) (he : starEach [e, e'] env = (false, eval e env) :: starEach [e'] env := by rfl) (he' : starEach [e'] env = (false, eval e' env) :: starEach [] env := by rfl)
    (hplain : (backTo pos (starEach [e'] env)).any (·.1) = false := by rfl) : Ev C k env own ρ (.Call (.Name x npos) [e, e'] [] pos) md (.int (min i j)) := fun A ok W s Q E c q =>
  call2 hf ha hb c (fun t t' h' tk u => min_two_ints c.room.hh fun h'' tk' u' => by
    by_cases h : j < i
    · rw [if_pos h, show Min.min i j = j by omega] at *; exact q _ _ _ (u.trans u') (.int _ _)
    · rw [if_neg h, show Min.min i j = i by omega] at *; exact q _ _ _ (u.trans u') (.int _ _)) he he' hplain
/-- list(xs): new, the items the same -/
theorem copy_raw {A ok W s} {Q E : Value → Shared → Prop} (hf : EvK C k env own ρ (.Name x npos) (.type "list")) (ha : EvB C k env own ρ e md' (.list ds)) (hz : ds.length ≤ sizeLine) (c : Cur C k A ok W own env ρ s)
    (q : ∀ a vs n h' tk, Up s.heap h' → s.heap.get? a = none → h'.get? a = some (lst vs n) → RepAll (fun b => okW ok W md' b ∧ b ≠ a) h' ds vs → Q (.ref a) { s with heap := h', toks := tk }) (he : starEach [e] env = (false, eval e env) :: starEach [] env := by rfl) :
    wpAny (model C.prog C.w) A (eval (.Call (.Name x npos) [e] [] pos) env) Q E s :=
  callT hf ha c (fun v h' tk u y => by
    obtain ⟨a, vs, n, e, g, r⟩ := y
    subst e
    have fr : h'.get? h'.objs.size = none := Heap.get?_none_of_le (Nat.le_refl _)
    refine call_list_seq (s := { s with heap := h', toks := tk }) a (.inl rfl) g rfl rfl (fun h'' c' k' g' => ?_) (by rw [List.size_toArray, r.length]; exact hz)
    refine q _ vs c' _ _ (u.trans k') (u.none fr) g' ?_
    exact (r.there.imp fun b z => ⟨z.1, fun w => z.2 (w ▸ fr)⟩).up k') he
theorem EvF.copyA (hf : EvK C k env own ρ (.Name x npos) (.type "list")) (ha : EvB C k env own ρ e false (.list ds)) (hat : ds.all atom = true) (hz : ds.length ≤ sizeLine) (he : starEach [e] env = (false, eval e env) :: starEach [] env := by rfl) :
    EvF C k env own ρ (.Call (.Name x npos) [e] [] pos) md ds := fun A ok W s Q E c q => copy_raw hf ha hz c (fun a vs n h' tk u f g r => q a vs n h' tk u f g (r.atoms hat)) he
theorem EvF.copyT (hf : EvK C k env own ρ (.Name x npos) (.type "list")) (ha : EvB C k env own ρ e md (.tuple ds)) (hz : ds.length ≤ sizeLine) (he : starEach [e] env = (false, eval e env) :: starEach [] env := by rfl) :
    EvF C k env own ρ (.Call (.Name x npos) [e] [] pos) md ds := fun A ok W s Q E c q =>
  callT hf ha c (fun v h' tk u y => by
    have y : Rep (okW ok W md) h' (.tuple ds) v := y
    cases y with
    | tuple g r =>
      rename_i a vs n
      have fr : h'.get? h'.objs.size = none := Heap.get?_none_of_le (Nat.le_refl _)
      refine call_list_seq (s := { s with heap := h', toks := tk }) a (.inr rfl) g rfl rfl (fun h'' c' k' g' => ?_) (by rw [List.size_toArray, r.length]; exact hz)
      refine q _ vs c' _ _ (u.trans k') (u.none fr) g' ?_
      exact (r.there.imp fun b z => ⟨z.1, fun w => z.2 (w ▸ fr)⟩).up k') he
/-- tuple(xs) -/
theorem Ev.totuple (hf : EvK C k env own ρ (.Name x npos) (.type "tuple")) (ha : EvB C k env own ρ e md (.list ds)) (hz : ds.length ≤ sizeLine) (he : starEach [e] env = (false, eval e env) :: starEach [] env := by rfl) :
    Ev C k env own ρ (.Call (.Name x npos) [e] [] pos) md (.tuple ds) := fun A ok W s Q E c q =>
  callT hf ha c (fun v h' tk u y => by
    obtain ⟨a, vs, n, e, g, r⟩ := y
    subst e
    refine call_tuple_list (s := { s with heap := h', toks := tk }) ⟨_, g, rfl, _, rfl⟩ (fun h'' k' => ?_) (by rw [List.size_toArray, r.length]; exact hz)
    exact q _ _ _ ((u.trans k').trans (Up.push _ _)) (.tuple (vs := vs) (n := 0) (Heap.get?_push_size _ rfl) ((r.up k').up (Up.push _ _)))) he
/-- the name of a datum's type -/
def typeD : PyData → String
  | .none => "NoneType"
  | .bool _ => "bool"
  | .int _ => "int"
  | .str _ => "str"
  | .list _ => "list"
  | .tuple _ => "tuple"
  | .dict _ => "dict"
def noDict : PyData → Bool
  | .dict _ => false
  | _ => true
theorem RepB.typeIs {ok : Addr → Prop} {v : Value} {s : Shared} (y : RepB ok s.heap d v) (hnd : noDict d = true) : s.TypeIs v (typeD d) := by
  cases d with
  | list ds => obtain ⟨a, vs, n, e, g, _⟩ := y; subst e; exact ⟨_, g, rfl⟩
  | none => have y : Rep ok s.heap .none v := y; cases y; rfl
  | bool b => have y : Rep ok s.heap (.bool b) v := y; cases y; rfl
  | int b => have y : Rep ok s.heap (.int b) v := y; cases y; exact typeIs_int _ _ _
  | str b => have y : Rep ok s.heap (.str b) v := y; cases y; rfl
  | tuple b =>
    have y : Rep ok s.heap (.tuple b) v := y
    cases y with
    | tuple g r => exact ⟨_, g, rfl⟩
  | dict b => cases hnd
theorem EvK.type (hf : EvK C k env own ρ (.Name x npos) (.type "type")) (ha : EvB C k env own ρ e false d) (hnd : noDict d = true) (he : starEach [e] env = (false, eval e env) :: starEach [] env := by rfl) :
    EvK C k env own ρ (.Call (.Name x npos) [e] [] pos) (.type (typeD d)) := fun A ok W s Q E c q =>
  callT hf ha c (fun v h' tk u y => call_type_of (s := { s with heap := h', toks := tk }) (RepB.typeIs (s := { s with heap := h', toks := tk }) y hnd) (by cases d <;> (simp only [typeD]; decide)) (q _ _ u)) he
/-- truth of a value as a test -/
theorem Tst.val {b : Bool} (ha : Ev C k env own ρ e false (.bool b)) (he : isTrue e env (eval e env) = (do let v ← eval e env; standAt e.pos; holding [v] (truthy v)) := by rfl) : Tst C k env own ρ e b := fun A ok W s Q E c q =>
  isTrue_plain (ha A ok W s _ E c fun v h' tk u y => by cases y; exact wpAny_truthy_bool (q _ _ u)) he

theorem EvI.range (hf : EvK C k env own ρ (.Name x npos) (.type "range")) (ha : EvB C k env own ρ e false (.int i)) (hlo : -(2 ^ 62) ≤ i) (hhi : i < 2 ^ 62) (he : starEach [e] env = (false, eval e env) :: starEach [] env := by rfl) :
    EvI C k env own ρ (.Call (.Name x npos) [e] [] pos) md (rangeD i) := fun A ok W s Q E c q =>
  callT hf ha c (fun v h' tk u y => by
    obtain ⟨t, rfl⟩ := y.int_inv
    refine call_range_1 ?_
    have hsz : Builtin.Range.rangeSize 0 i 1 = ((rangeD i).length : Int) := by
      rw [rangeSize_one, rangeD, List.length_map, List.length_range]; split <;> omega
    refine wpAny_pyIter_range (IsRange.new ..) (small_one (by omega) (by omega) hlo hhi) ?_
    have fr := Heap.get?_none_of_le (h := h'.push { cls := .type "range", data := .fields #[.int 0 tk, .int i t, .int 1 (tk + 1)] }) (Nat.le_refl _)
    have wk := Walks.range (prog := C.prog) (w := C.w) (A := A) c.room.hh (h'.push { cls := .type "range", data := .fields #[.int 0 tk, .int i t, .int 1 (tk + 1)] }).objs.size 0 1 (rangeD i).length
    refine q _ _ _ _ (fun _ _ => True) _ _ (u.trans ((Up.push _ _).trans (Up.push _ _))) ((u.trans (Up.push _ _)).none fr) { wk := wk, fld := ?_, carry := fun _ _ _ _ _ _ => trivial, oth := ?_, item := ?_ } trivial ?_
    · intro n h hi; exact ⟨_, _, hi, rfl, .inr rfl⟩
    · intro b hb hbI; exact absurd (List.mem_singleton.mp hb) hbI
    · rintro n v d W h ⟨t, rfl⟩ hd _
      have hd : (rangeD i)[n]? = some d := hd
      have hn : n < (rangeD i).length := by
        rcases Nat.lt_or_ge n (rangeD i).length with h | h
        · exact h
        · rw [List.getElem?_eq_none h] at hd; cases hd
      have : d = .int (n : Int) := by
        have hn' : n < i.toNat := by simpa [rangeD] using hn
        simp [rangeD, hn'] at hd
        exact hd.symm
      subst this
      have e : (0 : Int) + (n : Int) * 1 = n := by omega
      rw [e]
      exact .int _ _
    · have e : ((0 : Int) + ((0 : Nat) : Int) * 1, ((rangeD i).length : Int) - ((0 : Nat) : Int)) = (0, Builtin.Range.rangeSize 0 i 1) := by rw [hsz]; simp
      have e1 := congrArg Prod.fst e
      have e2 := congrArg Prod.snd e
      dsimp only at e1 e2
      show IsRangeIter _ _ _ _ _
      rw [e1, e2]
      exact Heap.get?_push_size _ rfl) he
end

end Mine

namespace Mine
open PySem PyProof.Rows

section
variable {C : Cx} {k : Nat} {A : Around} {hN : Heap} {ok : Bool → Addr → Prop} {s₀ : Shared} {Kp : Addr → Obj → Prop} {env : Env} {own : List Str} {W : Str → Option Addr} {ρ : DEnv} {s : Shared}
/-- the list that x owns is changed -/
theorem Sta.mut {x : Str} {a : Addr} {vs' : List Value} {n' : Nat} {ds' : List PyData} {md : Bool} {h' : Heap} (S : Sta C k A hN ok s₀ Kp env own W ρ s) (hx : ∃ m d, ρ x = some (m, d)) (hw : W x = some a) (hlt : lentName x = false) (hs : Heap.SameBut a s.heap h') (g' : h'.get? a = some (lst vs' n'))
    (r' : RepAll (okW ok W md) s.heap ds' vs') (tk : Nat) : Sta C k A hN ok s₀ Kp env own W (upd ρ x md (.list ds')) { s with heap := h', toks := tk } := by
  obtain ⟨nk, vs, n, g⟩ := S.own2 x a hw
  have cy : Carry W s.heap W h' := ⟨fun _ b vs n e o => ⟨hs.extBut b _ (fun q => by have := (o x (q ▸ hw)).1; rw [hlt] at this; cases this) e, o⟩, fun b vs₁ n₁ e => hs.extBut b _ (fun q => by
    rw [q, g] at e
    exact absurd (show Value.type "list" = Value.type "tuple" from congrArg Obj.cls (Option.some.inj e)) (by decide)) e⟩
  obtain ⟨m, cm, hn, hc, hv⟩ := S.frm
  have neL : a ≠ env.locals := fun q => (ns_no_lst hn).1 vs n (q ▸ g)
  refine { room := S.room, top := S.top, eok := S.eok, up := S.up, new := S.new, le := S.le, kpN := S.kpN, same := let ⟨h, t, e⟩ := S.same; ⟨h', tk, by rw [e]⟩, keep := fun b o e => hs.extBut b o (fun q => nk o (q ▸ e)) (S.keep b o e), newL := S.newL, newC := S.newC, apart := S.apart, frm := ?_, own1 := S.own1, own2 := fun y b e => ?_, inj := S.inj }
  · refine ⟨m, cm, hn.sameBut hs (Ne.symm neL), fun n c e => (hc n c e).sameBut hs fun q => (cell_no_lst (hc n c e)).1 vs _ (q ▸ g), fun y md' d' e => ?_⟩
    unfold upd at e
    split at e
    · rename_i q; subst q; cases e
      obtain ⟨m₁, d₁, e₁⟩ := hx
      obtain ⟨v, l, z⟩ := hv y m₁ d₁ e₁
      refine ⟨v, l, ?_⟩
      unfold Holds1 at z ⊢
      rw [hw] at z ⊢
      exact ⟨z.1, ds', vs', n', rfl, g', r'.carry cy⟩
    · rename_i q
      obtain ⟨v, l, z⟩ := hv y md' d' e
      refine ⟨v, l, ?_⟩
      unfold Holds1 at z ⊢
      split at z
      · exact z.carry cy
      · rename_i b wb
        obtain ⟨e1, ds, vs₂, n₂, e2, g₂, r₂⟩ := z
        exact ⟨e1, ds, vs₂, n₂, e2, hs.extBut _ _ (fun z => q (S.inj y x a (z ▸ wb) hw)) g₂, r₂.carry cy⟩
  · obtain ⟨nk', vs₂, n₂, g₂⟩ := S.own2 y b e
    refine ⟨nk', ?_⟩
    by_cases q : b = a
    · subst q; exact ⟨_, _, g'⟩
    · exact ⟨_, _, hs.extBut _ _ q g₂⟩
end

section
variable {C : Cx} {k : Nat} {env : Env} {own : List Str} {ρ : DEnv} {rest : List Stmt} {P : Out → Prop} {e value : Expr} {x : Str} {md md' mx : Bool} {d : PyData} {ds : List PyData} {pos pos' cpos apos npos tpos : Pos}

theorem append_raw {A hN ok s₀ Kp W s} {Q : Flow → Shared → Prop} {E : Value → Shared → Prop} (he : Ev C k env own ρ e md d) (hx : ρ x = some (mx, .list ds)) (ho : own.contains x = true) (hz : ds.length ≤ sizeLine)
    (S : Sta C k A hN ok s₀ Kp env own W ρ s) (q : ∀ s', Sta C k A hN ok s₀ Kp env own W (upd ρ x (mx && md) (.list (ds ++ [d]))) s' → Q .next s')
    (hd : (x == ("__debug__" : Str)) = false) (hcd : (x == ("__classdict__" : Str)) = false)
    (hbase : attributeBase (.Name x npos) "append" env (eval (.Name x npos) env) = eval (.Name x npos) env)
    (hfew : ((backTo cpos (starEach [e] env)).all (fun x => !x.1) && (backToKw cpos (keywordEach [] env)).all (fun x => x.1.isSome) && decide (([e] : List Expr).length + ([] : List Keyword).length + (if ([] : List Keyword).isEmpty then 0 else 1) < 30)) = true)
    (hline : (apos.endLine == cpos.line) = true) (htrees : backTo cpos (starEach [e] env) = [(false, eval e env)]) (hi : interactive env = false) (hlt : lentName x = false) :
    wpAny (model C.prog C.w) A (exec (.Expr (.Call (.Attribute (.Name x npos) "append" apos) [e] [] cpos) pos) env) Q E s := by
  refine wpAny_Expr ?_ hi rfl
  refine wpAny_Call_append hbase hfew hline htrees ?_
  obtain ⟨a, hw⟩ : ∃ a, W x = some a := (S.own1 x).mpr (by simpa using ho)
  obtain ⟨v, lk, y⟩ := S.cur.has x mx (.list ds) hx
  refine wpAny_Name (lk.load S.eok.kind ?_ hcd) hd
  unfold Holds1 at y
  rw [hw] at y
  obtain ⟨e1, ds₁, vs, n, e2, g, r⟩ := y
  cases e2
  subst e1
  refine ⟨a, vs.toArray, rfl, ⟨_, n, g, rfl, rfl, rfl⟩, ?_⟩
  refine he A ok W s _ E S.cur fun v h' tk u y => ?_
  refine wpAny_list_append_plain (s := { s with heap := h', toks := tk }) ⟨n, u _ _ g⟩ (fun h'' pl hs => ?_) (by rw [List.size_toArray, r.length]; exact hz)
  obtain ⟨n'', g''⟩ := pl
  have g'' : h''.get? a = some (lst (vs ++ [v]) n'') := by rw [g'']; simp
  refine q _ ((S.on u tk).mut ⟨_, _, hx⟩ hw hlt hs g'' ?_ tk)
  have r1 : RepAll (okW ok W (mx && md)) h' ds vs := (r.up u).imp fun b z => okW_le S.le (md' := mx) (by cases mx <;> cases md <;> rfl) z
  have r2 : Rep (okW ok W (mx && md)) h' d v := y.imp fun b z => okW_le S.le (md' := md) (by cases mx <;> cases md <;> rfl) z
  exact r1.append (.one r2)
theorem Ex.append (he : Ev C k env own ρ e md d) (hx : ρ x = some (mx, .list ds)) (ho : own.contains x = true) (hz : ds.length ≤ sizeLine) (h : Ex C k env own (upd ρ x (mx && md) (.list (ds ++ [d]))) rest P)
    (hd : (x == ("__debug__" : Str)) = false := by decide) (hcd : (x == ("__classdict__" : Str)) = false := by decide)
    (hbase : attributeBase (.Name x npos) "append" env (eval (.Name x npos) env) = eval (.Name x npos) env := by rfl)
    (hfew : ((backTo cpos (starEach [e] env)).all (fun x => !x.1) && (backToKw cpos (keywordEach [] env)).all (fun x => x.1.isSome) && decide (([e] : List Expr).length + ([] : List Keyword).length + (if ([] : List Keyword).isEmpty then 0 else 1) < 30)) = true := by rfl)
    (hline : (apos.endLine == cpos.line) = true := by rfl) (htrees : backTo cpos (starEach [e] env) = [(false, eval e env)] := by rfl) (hi : interactive env = false := by rfl) (hlt : lentName x = false := by rfl) :
    Ex C k env own ρ (.Expr (.Call (.Attribute (.Name x npos) "append" apos) [e] [] cpos) pos :: rest) P :=
  Ex.plain (fun A hN ok s₀ Kp W s Q E S q => append_raw he hx ho hz S (q W) hd hcd hbase hfew hline htrees hi hlt) h

/-- names unpacked -/
def unpO : List (Str × Pos) → List Str → List Str
  | [], own => own
  | (x, _) :: r, own => unpO r (less own x)
def unpR : List (Str × Pos) → Bool → List PyData → DEnv → DEnv
  | (x, _) :: r, md, d :: ds, ρ => unpR r md ds (upd ρ x md d)
  | _, _, _, ρ => ρ
def nameE (p : Str × Pos) : Expr := .Name p.1 p.2

theorem assignEach_names (env : Env) : ∀ ns : List (Str × Pos), (assignEach (ns.map nameE) env) = ns.map fun p => (false, assign (nameE p) env)
  | [] => rfl
  | p :: ns => by
    show (false, assign (nameE p) env) :: assignEach (ns.map nameE) env = _
    rw [assignEach_names env ns]; rfl

theorem noLent_less {own : List Str} {x : Str} (h : noLent own = true) : noLent (less own x) = true := List.all_eq_true.mpr fun y hy => List.all_eq_true.mp h y (mem_less.mp hy).1
theorem unpO_sub : ∀ (ns : List (Str × Pos)) (own : List Str), ∀ x ∈ unpO ns own, x ∈ own
  | [], own, x, h => h
  | p :: ns, own, x, h => (mem_less.mp (unpO_sub ns (less own p.1) x h)).1
theorem inOrder {A : Around} {hN : Heap} {ok : Bool → Addr → Prop} {s₀ : Shared} {Kp : Addr → Obj → Prop} {E : Value → Shared → Prop} : ∀ (ns : List (Str × Pos)) (own : List Str) (ρ : DEnv) (ds : List PyData) (vs : List Value) (W : Str → Option Addr) (s : Shared) (Q : Unit → Shared → Prop), noLent own = true → ns.length = ds.length → ns.all (fun p => storable env p.1) = true →
    Sta C k A hN ok s₀ Kp env own W ρ s → RepAll (okW ok W md) s.heap ds vs → (∀ W' s', (∀ y ∈ unpO ns own, W' y = W y) → Sta C k A hN ok s₀ Kp env (unpO ns own) W' (unpR ns md ds ρ) s' → Q () s') →
    wpAny (model C.prog C.w) A (assignInOrder (ns.map fun p => assign (nameE p) env) vs) Q E s
  | [], own, ρ, ds, vs, W, s, Q, _, hl, _, S, r, q => by
    cases ds with
    | nil => cases r; exact wpAny_assignInOrder_none (q W s (fun _ _ => rfl) S)
    | cons => simp at hl
  | (x, p) :: ns, own, ρ, ds, vs, W, s, Q, hnl, hl, hst, S, r, q => by
    cases r with
    | nil => simp at hl
    | cons r1 r2 =>
      rename_i v vs d ds
      simp only [List.all_cons, Bool.and_eq_true] at hst
      refine wpAny_assignInOrder_more (wpAny_assign_Name (S.moreKp.store hst.1 r1 fun s' S' => ?_))
      refine inOrder ns _ _ ds vs _ s' Q (noLent_less hnl) (by simpa using hl) hst.2 (S'.lessKp S.kp_sub S.kpN) (r2.carry (S.carry hnl (noLent_less hnl) S')) fun W'' s'' e S'' => q W'' s'' (fun y hy => by rw [e y hy]; unfold unW; rw [if_neg (mem_less.mp (unpO_sub ns _ y hy)).2]) S''

theorem Asg.tuple {ns : List (Str × Pos)} {n : Nat} (hl : ns.length = ds.length) (hst : ns.all (fun p => storable env p.1) = true := by rfl) (hnl : noLent own = true := by rfl) : Asg C k env own ρ (.Tuple (ns.map nameE) n pos) md (.tuple ds) (unpO ns own) (unpR ns md ds ρ) := by
  refine ⟨unpO_sub ns own, ?_⟩
  intro A hN ok s₀ Kp W s v Q E S y q
  cases y with
  | tuple g r =>
    rename_i a vs n'
    refine wpAny_assign_Tuple S.room.hh ⟨_, g, rfl, _, rfl⟩ ?_ ?_ fun h' he => ?_
    · rw [assignEach_names, List.length_map, List.size_toArray, r.length, hl]
    · rw [assignEach_names]
      rw [List.findIdx?_eq_none_iff]
      intro p hp
      obtain ⟨p', _, rfl⟩ := List.mem_map.mp hp
      rfl
    · have u : Up s.heap h' := fun b o e => he b o (Nat.ne_of_lt (Heap.lt_size e)) e
      have e1 : (assignEach (ns.map nameE) env).map (·.2) = ns.map fun p => assign (nameE p) env := by rw [assignEach_names, List.map_map]; rfl
      rw [e1]
      exact inOrder ns own ρ ds _ W _ Q hnl hl hst (S.on u s.toks) (by simpa using r.up u) q
end

end Mine

namespace Mine
open PySem PyProof.Rows

/-- a target stored in a comprehension's own frame -/
def AsgC (C : Cx) (target : Expr) (d : PyData) (bs : List (Str × PyData)) : Prop :=
  ∀ (A : Around) (okp : Addr → Prop) (env : Env) (s : Shared) (m : Str → Option Value) (v : Value) (Q : Unit → Shared → Prop) (E : Value → Shared → Prop), A.handled = none → env.scope.kind = .function → (∀ p ∈ bs, env.kindOf p.1 = some .local) → s.heap.Ns env.locals m → Rep okp s.heap d v →
    (∀ h' tk m', h'.Ns env.locals m' → (∀ b o, b ≠ env.locals → s.heap.get? b = some o → h'.get? b = some o) → (∀ x dx, bs.lookup x = some dx → ∃ vx, m' x = some vx ∧ Rep okp s.heap dx vx) → Q () { s with heap := h', toks := tk }) →
    wpAny (model C.prog C.w) A (assign target env v) Q E s

section
variable {C : Cx} {x : Str} {d : PyData} {pos : Pos} {ds : List PyData}
theorem AsgC.name : AsgC C (.Name x pos) d [(x, d)] := fun A okp env s m v Q E hh hk hl hn y q =>
  wpAny_assign_Name (wpAny_storeName_local (hl (x, d) (.head _)) hn (fun h' hn' hs => q h' _ _ hn' (fun b o hb e => hs.extBut b o hb e) fun z dz hz => by
    simp only [List.lookup_cons, List.lookup_nil] at hz
    cases hb : z == x with
    | true =>
      rw [hb] at hz; cases hz
      have : z = x := by simpa using hb
      subst this
      exact ⟨v, by simp, y⟩
    | false => rw [hb] at hz; cases hz) (by rw [hk]; rfl))

theorem inOrderC {A : Around} {okp : Addr → Prop} {env : Env} {E : Value → Shared → Prop} (hk : env.scope.kind = .function) {h₀ : Heap} : ∀ (ns : List (Str × Pos)) (ds : List PyData) (vs : List Value) (s : Shared) (m : Str → Option Value) (done : List (Str × PyData)) (Q : Unit → Shared → Prop), ns.length = ds.length → (∀ p ∈ ns, env.kindOf p.1 = some .local) → s.heap.Ns env.locals m → (∀ b o, b ≠ env.locals → h₀.get? b = some o → s.heap.get? b = some o) →
    (ns.map (·.1)).Nodup → (∀ p ∈ ns, p.1 ∉ done.map (·.1)) → RepAll okp h₀ ds vs → (∀ x dx, done.lookup x = some dx → ∃ vx, m x = some vx ∧ Rep okp h₀ dx vx) →
    (∀ h' tk m', h'.Ns env.locals m' → (∀ b o, b ≠ env.locals → h₀.get? b = some o → h'.get? b = some o) → (∀ x dx, (((ns.map (·.1)).zip ds) ++ done).lookup x = some dx → ∃ vx, m' x = some vx ∧ Rep okp h₀ dx vx) → Q () { s with heap := h', toks := tk }) →
    wpAny (model C.prog C.w) A (assignInOrder (ns.map fun p => assign (nameE p) env) vs) Q E s
  | [], ds, vs, s, m, done, Q, hl, _, hn, hu, _, _, r, hd, q => by
    cases ds with
    | nil => cases r; exact wpAny_assignInOrder_none (q s.heap s.toks m hn hu hd)
    | cons => simp at hl
  | (x, p) :: ns, ds, vs, s, m, done, Q, hl, hloc, hn, hu, hnd, hap, r, hd, q => by
    cases r with
    | nil => simp at hl
    | cons r1 r2 =>
      rename_i v vs d ds
      simp only [List.map_cons, List.nodup_cons] at hnd
      refine wpAny_assignInOrder_more (wpAny_assign_Name (wpAny_storeName_local (hloc (x, p) (.head _)) hn (fun h' hn' hs => ?_) (by rw [hk]; rfl)))
      refine inOrderC hk ns ds vs { s with heap := h', toks := s.toks + 1 } _ ((x, d) :: done) Q (by simpa using hl) (fun z hz => hloc z (.tail _ hz)) hn' (fun b o hb e => hs.extBut b o hb (hu b o hb e)) hnd.2 (fun z hz => ?_) r2 (fun z dz hz => ?_) fun h'' tk m' hn'' hu'' hm => ?_
      · simp only [List.map_cons, List.mem_cons, not_or]
        refine ⟨fun e => hnd.1 ?_, hap z (.tail _ hz)⟩
        exact e ▸ List.mem_map_of_mem hz
      · rw [List.lookup_cons] at hz
        cases hb : z == x with
        | true =>
          rw [hb] at hz; cases hz
          have : z = x := by simpa using hb
          subst this
          exact ⟨v, by simp, r1⟩
        | false =>
          rw [hb] at hz
          obtain ⟨vz, e1, e2⟩ := hd z dz hz
          have : ¬ z = x := by simpa using hb
          exact ⟨vz, by simp [this, e1], e2⟩
      · refine q h'' tk m' hn'' hu'' fun z dz hz => hm z dz ?_
        have hxd : x ∉ done.map (·.1) := hap (x, p) (.head _)
        simp only [List.map_cons, List.zip_cons_cons, List.cons_append, List.lookup_cons] at hz
        cases hb : z == x with
        | true =>
          rw [hb] at hz; cases hz
          have : z = x := by simpa using hb
          subst this
          rw [List.lookup_append, List.lookup_cons, beq_self_eq_true]
          have : List.lookup z ((ns.map (·.1)).zip ds) = none := by
            rw [List.lookup_eq_none_iff]
            intro w hw
            have h1 : w.1 ∈ ns.map (·.1) := (List.of_mem_zip (a := w.1) (b := w.2) hw).1
            simp only [bne_iff_ne, ne_eq, Bool.not_eq_true, beq_eq_false_iff_ne]
            intro e
            exact hnd.1 (e ▸ h1)
          rw [this]; rfl
        | false =>
          rw [hb] at hz
          rw [List.lookup_append] at hz ⊢
          rw [List.lookup_cons, hb]
          exact hz
theorem AsgC.tuple {ns : List (Str × Pos)} {n : Nat} (hl : ns.length = ds.length) (hnd : (ns.map (·.1)).Nodup) : AsgC C (.Tuple (ns.map nameE) n pos) (.tuple ds) ((ns.map (·.1)).zip ds) := by
  intro A okp env s m v Q E hh hk hloc hn y q
  cases y with
  | tuple g r =>
    rename_i a vs n'
    refine wpAny_assign_Tuple hh ⟨_, g, rfl, _, rfl⟩ ?_ ?_ fun h' he => ?_
    · rw [assignEach_names, List.length_map, List.size_toArray, r.length, hl]
    · rw [assignEach_names]
      rw [List.findIdx?_eq_none_iff]
      intro p hp
      obtain ⟨p', _, rfl⟩ := List.mem_map.mp hp
      rfl
    · have u : Up s.heap h' := fun b o e => he b o (Nat.ne_of_lt (Heap.lt_size e)) e
      have e1 : (assignEach (ns.map nameE) env).map (·.2) = ns.map fun p => assign (nameE p) env := by rw [assignEach_names, List.map_map]; rfl
      rw [e1]
      refine inOrderC hk (h₀ := s.heap) ns ds _ { s with heap := h' } m [] Q hl (fun p hp => ?_) (hn.keeps u) (fun b o _ e => u b o e) hnd (fun p _ => by simp) (by simpa using r) (fun x dx h => by cases h) fun h'' tk m' hn' hu hm => q h'' tk m' hn' hu fun x dx hx => hm x dx (by rw [List.append_nil]; exact hx)
      have : p.1 ∈ ((ns.map (·.1)).zip ds).map (·.1) := by rw [List.map_fst_zip (by simp; omega)]; exact List.mem_map_of_mem hp
      obtain ⟨w, hw, e⟩ := List.mem_map.mp this
      rw [← e]
      exact hloc w hw
end

/-- a comprehension's own data: the targets, and what it takes from around -/
def compR (bs : List (Str × PyData)) (mdi : Bool) (fv : List Str) (ρ : DEnv) : DEnv := fun y => match bs.lookup y with
  | some d => some (mdi, d)
  | none => if fv.contains y then ρ y else none
/-- the names from around are cells there, and the same ones -/
def FvOk (env : Env) (scope : Scope) (cl : List (Str × Addr)) : List Str → Prop
  | [] => True
  | y :: r => (((relabel scope env).names.lookup y == some .cell || (relabel scope env).names.lookup y == some .free) = true ∧ (env.kindOf y == some .local) = false ∧ cl.lookup y = env.cells.lookup y) ∧ FvOk env scope cl r
theorem FvOk.mem {env : Env} {scope : Scope} {cl : List (Str × Addr)} {y : Str} : ∀ {fv : List Str}, FvOk env scope cl fv → y ∈ fv → ((relabel scope env).names.lookup y == some .cell || (relabel scope env).names.lookup y == some .free) = true ∧ (env.kindOf y == some .local) = false ∧ cl.lookup y = env.cells.lookup y
  | z :: r, h, m => by
    rcases List.mem_cons.mp m with e | m
    · subst e; exact h.1
    · exact h.2.mem m

/-- the tests of a comprehension, one behind the other, come out as b -/
def Tsts (C : Cx) (k : Nat) (env : Env) (own : List Str) (ρ : DEnv) : List Expr → Bool → Prop
  | [], b => b = true
  | [c], b => Tst C k env own ρ c b
  | _, _ => False

section
variable {C : Cx} {k : Nat} {env : Env} {own : List Str} {ρ : DEnv} {elt target iter : Expr} {ifs : List Expr} {scope : Scope} {pos : Pos} {md mdi : Bool} {items : List PyData} {cl : List (Str × Addr)} {fv : List Str}

theorem Tsts.run {A ok W s} {Q : Bool → Shared → Prop} {E : Value → Shared → Prop} {b : Bool} (h : Tsts C k env own ρ ifs b) (c : Cur C k A ok W own env ρ s) (q : ∀ h' tk, Up s.heap h' → Q b { s with heap := h', toks := tk }) :
    wpAny (model C.prog C.w) A (forIn ifs true fun c r => if r = true then do let ok ← isTrue c env (eval c env); pure (ForInStep.yield ok) else pure (ForInStep.yield r)) Q E s := by
  match ifs, h with
  | [], h => cases h; exact wpAny_tests_nil (q s.heap s.toks (Up.refl _))
  | [t], h => exact wpAny_tests_one (h A ok W s _ E c q)

theorem compLoop_rule {A : Around} {R : Result → Shared → Prop} {I : Addr} {acc : Value} {cenv : Env} {s : Shared} (Iv : Nat → Shared → Prop)
    (turn : ∀ n s, Iv n s → wpAny (model C.prog C.w) A (pyNext (.ref I)) (fun r s₁ => match r with
      | none => R (.ok .next) s₁
      | some v => wpAny (model C.prog C.w) A (letOwnedTupleGo target (.ref I) v) (fun _ s₂ => wpAny (model C.prog C.w) A (assign target cenv v) (fun _ s₃ =>
          wpAny (model C.prog C.w) A (forIn ifs true fun c r => if r = true then do let ok ← isTrue c cenv (eval c cenv); pure (ForInStep.yield ok) else pure (ForInStep.yield r)) (fun ok s₄ =>
            if ok = true then wpAny (model C.prog C.w) A (eval elt cenv) (fun x s₅ => wpAny (model C.prog C.w) A (call (.builtin "list.append") [acc, x]) (fun _ s₆ => ∃ m, m < n ∧ Iv m s₆) (notedBy (model C.prog C.w) A cenv fun e s' => R (.error e) s') s₅) (notedBy (model C.prog C.w) A cenv fun e s' => R (.error e) s') s₄
            else ∃ m, m < n ∧ Iv m s₄) (notedBy (model C.prog C.w) A cenv fun e s' => R (.error e) s') s₃) (notedBy (model C.prog C.w) A cenv fun e s' => R (.error e) s') s₂) (notedBy (model C.prog C.w) A cenv fun e s' => R (.error e) s') s₁)
      (notedBy (model C.prog C.w) A cenv fun e s' => R (.error e) s') s)
    (n : Nat) (h : Iv n s) : codeAny (model C.prog C.w) A (.compLoop (.ListComp elt [⟨target, iter, ifs, 0⟩] scope pos) 0 (.ref I) acc cenv) R s := by
  refine codeAny_loop rfl Iv (fun n s hI => ?_) n h
  show wpAny _ A ((compTurn (.ListComp elt [⟨target, iter, ifs, 0⟩] scope pos) 0 (.ref I) acc cenv).onRaise (fun x => do noteFrame x cenv; theTreesLotGoes x)) _ _ s
  refine wpAny_noted ?_
  rw [compTurn_list]
  refine wpAny_bind (wpAny_standAt (wpAny_bind (wpAny_mono (turn n s hI) (fun r s₁ h₁ => ?_) fun _ _ h' => h')))
  cases r with
  | none => exact wpAny_pure h₁
  | some v =>
    refine wpAny_bind (wpAny_mono h₁ (fun _ s₂ h₂ => wpAny_bind (wpAny_mono h₂ (fun _ s₃ h₃ => wpAny_bind (wpAny_mono h₃ (fun ok s₄ h₄ => ?_) fun _ _ h' => h')) fun _ _ h' => h')) fun _ _ h' => h')
    cases ok with
    | false => exact wpAny_pure ⟨rfl, h₄⟩
    | true => exact wpAny_bind (wpAny_bind (wpAny_mono h₄ (fun x s₅ h₅ => wpAny_bind (wpAny_mono h₅ (fun _ s₆ h₆ => wpAny_pure (wpAny_pure ⟨rfl, h₆⟩)) fun _ _ h' => h')) fun _ _ h' => h'))

/-- as Source, for a comprehension: what else the iterator rests on may be a list, or lie in the heap that C tells of -/
structure SourceB (C : Cx) (A : Around) (ok : Bool → Addr → Prop) (md : Bool) (items : List PyData) (I : Addr) (fp : List Addr) (Pv : Nat → Value → Prop) (St : Nat → Heap → Prop) (F : (Str → Option Addr) → Heap → Prop) : Prop where
  wk : Walks C.prog C.w A I fp [I] items.length Pv St
  fld : ∀ i h, St i h → ∃ o xs, h.get? I = some o ∧ o.data = .fields xs ∧ (o.cls = .type "list_iterator" ∨ o.cls = .type "range_iterator" ∨ o.cls = .type "dict_keyiterator")
  oth : ∀ b ∈ fp, b ≠ I → ∀ W h, F W h → (∃ vs n, h.get? b = some (lst vs n)) ∨ ∃ o, C.base.get? b = some o
  item : ∀ i v d W h, Pv i v → items[i]? = some d → F W h → Rep (okW ok W md) h d v
theorem Source.weak {C : Cx} {A : Around} {ok : Bool → Addr → Prop} {md : Bool} {items : List PyData} {I : Addr} {fp : List Addr} {Pv : Nat → Value → Prop} {St : Nat → Heap → Prop} {F : (Str → Option Addr) → Heap → Prop} (X : Source C A ok md items I fp Pv St F) : SourceB C A ok md items I fp Pv St F where
  wk := X.wk
  fld := fun i h st => let ⟨o, xs, a, b, c⟩ := X.fld i h st; ⟨o, xs, a, b, c.elim .inl fun c => .inr (.inl c)⟩
  oth := fun b hb hI W h f => let ⟨vs, n, g, _⟩ := X.oth b hb hI W h f; .inl ⟨vs, n, g⟩
  item := X.item
theorem SourceB.go {C : Cx} {A : Around} {ok : Bool → Addr → Prop} {md : Bool} {items : List PyData} {I : Addr} {fp : List Addr} {Pv : Nat → Value → Prop} {St : Nat → Heap → Prop} {F : (Str → Option Addr) → Heap → Prop}
    (X : SourceB C A ok md items I fp Pv St F) {i : Nat} {s : Shared} {v : Value} {target : Expr} {Q : Unit → Shared → Prop} {E : Value → Shared → Prop} (st : St i s.heap) (q : Q () s) : wpAny (model C.prog C.w) A (letOwnedTupleGo target (.ref I) v) Q E s := by
  obtain ⟨o, xs, ho, hd, hc⟩ := X.fld i _ st
  have main : wpAny (model C.prog C.w) A (match v with
      | .ref a => (do
        let o ← load I
        match o.cls, o.data with
        | .type n, .fields vs =>
          if ["enumerate", "zip", "dict_itemiterator", "dict_reverseitemiterator", "odict_iterator", "itertools.zip_longest", "itertools.pairwise"].contains n && vs[0]? == some (rawInt a) then
            rule "for.unpacks-the-owned-tuple"
            updateField I 0 .none
        | _, _ => pure ())
      | _ => pure ()) Q E s := by
    cases v with
    | ref a =>
      refine wpAny_bind (wpAny_load ho ?_)
      rw [hd]
      rcases hc with hc | hc | hc <;> rw [hc] <;> dsimp only
      · rw [if_neg (by rw [show (["enumerate", "zip", "dict_itemiterator", "dict_reverseitemiterator", "odict_iterator", "itertools.zip_longest", "itertools.pairwise"].contains "list_iterator") = false from by decide, Bool.false_and]; exact Bool.false_ne_true)]
        exact wpAny_pure q
      · rw [if_neg (by rw [show (["enumerate", "zip", "dict_itemiterator", "dict_reverseitemiterator", "odict_iterator", "itertools.zip_longest", "itertools.pairwise"].contains "range_iterator") = false from by decide, Bool.false_and]; exact Bool.false_ne_true)]
        exact wpAny_pure q
      · rw [if_neg (by rw [show (["enumerate", "zip", "dict_itemiterator", "dict_reverseitemiterator", "odict_iterator", "itertools.zip_longest", "itertools.pairwise"].contains "dict_keyiterator") = false from by decide, Bool.false_and]; exact Bool.false_ne_true)]
        exact wpAny_pure q
    | _ => exact wpAny_pure q
  unfold letOwnedTupleGo
  split
  · cases v <;> exact main
  · cases v <;> exact main
  · exact wpAny_pure q
def EvIB (C : Cx) (k : Nat) (env : Env) (own : List Str) (ρ : DEnv) (e : Expr) (md : Bool) (items : List PyData) : Prop :=
  ∀ A ok W s Q E, Cur C k A ok W own env ρ s →
    (∀ I fp Pv St F h' tk, Up s.heap h' → s.heap.get? I = none → SourceB C A ok md items I fp Pv St F → F W h' → St 0 h' → Q (.ref I) { s with heap := h', toks := tk }) →
    wpAny (model C.prog C.w) A (eval e env) (fun x s₁ => wpAny (model C.prog C.w) A (pyIter x) Q E s₁) E s
theorem EvI.weak {C : Cx} {k : Nat} {env : Env} {own : List Str} {ρ : DEnv} {e : Expr} {md : Bool} {items : List PyData} (x : EvI C k env own ρ e md items) : EvIB C k env own ρ e md items :=
  fun A ok W s Q E c q => x A ok W s Q E c fun I fp Pv St F h' tk u fr X => q I fp Pv St F h' tk u fr X.weak

/-- what one item gives in a comprehension -/
def CompStep (C : Cx) (k : Nat) (env : Env) (own : List Str) (ρ : DEnv) (scope : Scope) (cl : List (Str × Addr)) (fv : List Str) (target elt : Expr) (ifs : List Expr) (mdi md : Bool) (p : PyData → Bool) (f : PyData → PyData) (d : PyData) : Prop :=
  ∃ bs, AsgC C target d bs ∧ (bs.all fun q => (relabel scope env).names.lookup q.1 == some .local && !own.contains q.1) = true ∧
    ∀ L, Tsts C k (compEnvC scope cl L env) own (compR bs mdi fv ρ) ifs (p d) ∧ (p d = true → Ev C k (compEnvC scope cl L env) own (compR bs mdi fv ρ) elt md (f d))

theorem lookup_mem {α : Type} {l : List (Str × α)} {x : Str} {a : α} (h : l.lookup x = some a) : ∃ q ∈ l, q.1 = x := ⟨(x, a), PySem.mem_of_lookup h, rfl⟩

theorem comp_core {A ok W} {s : Shared} {hp : Heap} {tkp : Nat} {E : Value → Shared → Prop} {I : Addr} {fp : List Addr} {Pv : Nat → Value → Prop} {St : Nat → Heap → Prop} {F : (Str → Option Addr) → Heap → Prop} {p : PyData → Bool} {f : PyData → PyData}
    (c : Cur C k A ok W own env ρ s) (u : Up s.heap hp) (frI : s.heap.get? I = none) (X : SourceB C A ok mdi items I fp Pv St F) (F0 : F W hp) (st0 : St 0 hp) (hsz : items.length ≤ sizeLine)
    (hstep : ∀ d ∈ items, CompStep C k env own ρ scope cl fv target elt ifs mdi md p f d) (hfv : FvOk env scope cl fv) (hcell : ∀ y ∈ scope.names, y.2 ≠ .cell) (hkind : scope.kind = .function) {RR : Value → Addr → Result → Shared → Prop}
    (hRR : ∀ D L vs n h' tk m', hp.get? D = none → hp.get? L = none → D ≠ L → h'.Ns L m' → (∀ b o, b ≠ I → hp.get? b = some o → h'.get? b = some o) → h'.get? D = some (lst vs n) →
      RepAll (fun b => okW ok W md b ∧ b ≠ D) h' ((items.filter p).map f) vs → RR (.ref D) L (.ok .next) { s with heap := h', toks := tk }) :
    wpAny (model C.prog C.w) A (newList []) (fun acc s₃ => wpAny (model C.prog C.w) A (newFunctionEnv scope env.globals cl [] env.qual none .none (some env)) (fun cenv s₄ =>
      codeAny (model C.prog C.w) A (.compStart (.ListComp elt [⟨target, iter, ifs, 0⟩] scope pos) 0 (.ref I) acc { cenv with scope := relabel scope env }) (RR acc cenv.locals) s₄) E s₃) E { s with heap := hp, toks := tkp } := by
  refine wpAny_newObj_type (wpAny_newFunctionEnv hcell (by intro y hy; simp at hy) (fun h₁ hns₁ hsb₁ => ?_) hkind)
  dsimp only at hns₁ hsb₁ ⊢
  generalize hH2 : hp.push { cls := .type "list", dict := none, data := .seq ([] : List Value).toArray } = H2 at hns₁ hsb₁ ⊢
  generalize hDe : hp.objs.size = D at *
  generalize hLe : H2.objs.size = L at *
  have hL : L = D + 1 := by rw [← hLe, ← hH2, Heap.size_push, hDe]
  have hDL : D ≠ L := by omega
  have frD : hp.get? D = none := Heap.get?_none_of_le (by omega)
  have frL : hp.get? L = none := Heap.get?_none_of_le (by omega)
  have belowD : ∀ b o, hp.get? b = some o → b ≠ D := fun b o e q => by rw [q, frD] at e; cases e
  have belowL : ∀ b o, hp.get? b = some o → b ≠ L := fun b o e q => by rw [q, frL] at e; cases e
  have old : ∀ b o, hp.get? b = some o → h₁.get? b = some o := fun b o e => hsb₁.extBut b o (belowL b o e) (Heap.get?_push_of_some _ (hH2 ▸ Heap.get?_push_of_some _ e))
  have hacc : h₁.get? D = some (lst [] 0) := hsb₁.extBut D _ hDL (Heap.get?_push_of_some _ (hH2 ▸ hDe ▸ Heap.get?_push_size _ rfl))
  obtain ⟨oI, xsI, hoI, hdI, _⟩ := X.fld _ _ st0
  have hID : I ≠ D := belowD I _ hoI
  have hIL : I ≠ L := belowL I _ hoI
  have nlI : ∀ vs n, hp.get? I ≠ some (lst vs n) := fun vs n e => by rw [hoI] at e; cases e; cases hdI
  have ntI : ∀ vs n, hp.get? I ≠ some (tup vs n) := fun vs n e => by rw [hoI] at e; cases e; cases hdI
  have carry2 : ∀ h', (∀ b o, b ≠ I → hp.get? b = some o → h'.get? b = some o) → Carry W hp W h' := fun h' hk => Carry.but hk nlI ntI
  have upS : ∀ h', (∀ b o, b ≠ I → hp.get? b = some o → h'.get? b = some o) → Up s.heap h' := fun h' hk b o e => hk b o (fun q => by rw [q, frI] at e; cases e) (u b o e)
  have loop : ∀ s₃ : Shared, s₃ = { s with heap := h₁, toks := tkp + ([] : List (Str × Value)).length } →
      codeAny (model C.prog C.w) A (.compLoop (.ListComp elt [⟨target, iter, ifs, 0⟩] scope pos) 0 (.ref I) (.ref D) (compEnvC scope cl L env)) (RR (.ref D) L) s₃ := by
    rintro s₃ rfl
    refine compLoop_rule (fun n s' => ∃ i h' tk m' vs c', n = items.length + 1 - i ∧ i ≤ items.length ∧ s' = { s with heap := h', toks := tk } ∧ h'.Ns L m' ∧ (∀ b o, b ≠ I → hp.get? b = some o → h'.get? b = some o) ∧ St i h' ∧ h'.get? D = some (lst vs c') ∧
      RepAll (fun b => okW ok W md b ∧ b ≠ D) h' (((items.take i).filter p).map f) vs) ?_ (items.length + 1)
      ⟨0, h₁, _, _, [], 0, by omega, Nat.zero_le _, rfl, hns₁, fun b o _ e => old b o e, X.wk.frame 0 _ _ st0 fun b hb o e => old _ _ e, hacc, by simpa using RepAll.nil⟩
    rintro n s' ⟨i, h', tk, m', vs, c', rfl, hle, rfl, hn, hk, st, hD, hr⟩
    obtain ⟨oI', xsI', hoI', hdI', _⟩ := X.fld _ _ st
    have nlI' : ∀ vs n, h'.get? I ≠ some (lst vs n) := fun vs n e => by rw [hoI'] at e; cases e; cases hdI'
    have ntI' : ∀ vs n, h'.get? I ≠ some (tup vs n) := fun vs n e => by rw [hoI'] at e; cases e; cases hdI'
    by_cases hlt : i < items.length
    · refine X.wk.item i _ _ _ hlt st fun v h₂ tk₂ hP st₂ hk₂ => ?_
      have hk₂' : ∀ b o, b ≠ I → h'.get? b = some o → h₂.get? b = some o := fun b o hb e => hk₂ b o (by simpa using hb) e
      have hd : items[i]? = some items[i] := List.getElem?_eq_getElem hlt
      refine X.go (s := { s with heap := h₂, toks := tk₂ }) (i := i + 1) st₂ ?_
      obtain ⟨bs, asg, hbs, hrun⟩ := hstep items[i] (List.getElem_mem hlt)
      have hbs' := List.all_eq_true.mp hbs
      have hkA : ∀ b o, b ≠ I → hp.get? b = some o → h₂.get? b = some o := fun b o hb e => hk₂' b o hb (hk b o hb e)
      have hn₂ : h₂.Ns L m' := hn.at' fun o e => hk₂' L o (Ne.symm hIL) e
      have ri : Rep (fun b => okW ok W mdi b ∧ b ≠ D) h₂ items[i] v := by
        have r0 := (X.item i v _ W hp hP hd F0).there
        refine Rep.gen (fun b vs n e o => ⟨hkA b _ (fun q => nlI vs n (q ▸ e)) e, o.1, fun q => o.2 (q ▸ frD)⟩) (fun b vs n e => hkA b _ (fun q => ntI vs n (q ▸ e)) e) r0
      refine asg A _ (compEnvC scope cl L env) { s with heap := h₂, toks := tk₂ } m' v _ _ c.room.hh hkind (fun q hq => by
        have := hbs' q hq
        simp only [Bool.and_eq_true, beq_iff_eq] at this
        exact this.1) hn₂ ri fun h₃ tk₃ m₃ hn₃ hk₃ hm₃ => ?_
      have nlL := ns_no_lst hn₂
      have hk₃' : ∀ b o, b ≠ L → h₂.get? b = some o → h₃.get? b = some o := fun b o hb e => hk₃ b o hb e
      have hkB : ∀ b o, b ≠ I → hp.get? b = some o → h₃.get? b = some o := fun b o hb e => hk₃' b o (belowL b o e) (hkA b o hb e)
      have uS := upS h₃ hkB
      have hD₃ : h₃.get? D = some (lst vs c') := hk₃' D _ hDL (hk₂' D _ (Ne.symm hID) hD)
      have cur₃ : Cur C k A (fun m a => ok m a ∧ a ≠ D) W own (compEnvC scope cl L env) (compR bs mdi fv ρ) { s with heap := h₃, toks := tk₃ } := by
        refine { room := c.room, top := c.top, eok := ⟨hkind, c.eok.glob, c.eok.bi⟩, up := c.up.trans uS, new := fun m a e => ⟨c.new m a (uS.none e), fun q => ?_⟩, le := fun a z => ⟨c.le a z.1, z.2⟩, inj := c.inj, own := fun x a e => ⟨(c.own x a e).1, fun q => (c.own x a e).2.1 (uS.none q), (c.own x a e).2.2, fun q => (c.own x a e).2.1 (q ▸ u.none frD)⟩, has := fun y my dy e => ?_ }
        · have e : h₃.get? a = none := e
          rw [q, hD₃] at e; cases e
        · unfold compR at e
          cases hl : bs.lookup y with
          | some d' =>
            rw [hl] at e; cases e
            obtain ⟨vx, e1, e2⟩ := hm₃ y dy hl
            obtain ⟨q, hq, eq⟩ := lookup_mem hl
            have hb := hbs' q hq
            simp only [Bool.and_eq_true, beq_iff_eq, Bool.not_eq_true'] at hb
            refine ⟨vx, .inl ⟨by rw [← eq]; exact hb.1, m₃, hn₃, e1⟩, ?_⟩
            have hW : W y = none := by
              cases hw : W y with
              | none => rfl
              | some a =>
                have := (c.own y a hw).1
                rw [← List.contains_iff_mem, ← eq, hb.2] at this
                cases this
            unfold Holds1
            rw [hW]
            exact Rep.gen (fun b vs n e o => ⟨hk₃' b _ (fun q => nlL.1 vs n (q ▸ e)) e, ⟨o.1.1, o.2⟩, o.1.2⟩) (fun b vs n e => hk₃' b _ (fun q => nlL.2 vs n (q ▸ e)) e) e2
          | none =>
            rw [hl] at e
            dsimp only at e
            split at e
            · rename_i hc
              have hyf : y ∈ fv := by simpa using hc
              obtain ⟨q1, q2, q3⟩ := hfv.mem hyf
              obtain ⟨v', lk, z⟩ := c.has y my dy e
              refine ⟨v', ?_, ?_⟩
              · rcases lk with ⟨kl, _⟩ | ⟨kc, cc, ec, ic⟩
                · rw [kl] at q2; cases q2
                · refine .inr ⟨?_, cc, by show cl.lookup y = _; rw [q3]; exact ec, ic.keeps uS⟩
                  rcases Bool.or_eq_true_iff.mp q1 with q | q
                  · exact .inl (eq_of_beq q)
                  · exact .inr (eq_of_beq q)
              · have av : ∀ {m : Bool} {b : Addr}, okW ok W m b ∧ s.heap.get? b ≠ none → okW (fun m a => ok m a ∧ a ≠ D) W m b := fun z => ⟨⟨z.1.1, fun q => z.2 (u.none (q ▸ frD))⟩, z.1.2⟩
                unfold Holds1 at z ⊢
                split at z
                · exact (z.there.imp fun b z => av z).up uS
                · obtain ⟨e1, ds', vs', n', e2, g, r⟩ := z
                  exact ⟨e1, ds', vs', n', e2, uS _ _ g, (r.there.imp fun b z => av z).up uS⟩
            · cases e
      -- the iterator stays from h₂ on
      have stay : ∀ h, (∀ b o, b ≠ L → b ≠ D → h₂.get? b = some o → h.get? b = some o) → St (i + 1) h := fun h hh => X.wk.frame _ _ _ st₂ fun b hb o e => by
        by_cases hbI : b = I
        · subst hbI; exact hh _ _ hIL hID e
        · obtain ⟨o', g⟩ : ∃ o', hp.get? b = some o' := by
            rcases X.oth b hb hbI W _ F0 with ⟨vs', n', g⟩ | ⟨o', g⟩
            · exact ⟨_, g⟩
            · exact ⟨o', u _ _ (c.up _ _ g)⟩
          exact hh _ _ (belowL _ _ g) (belowD _ _ g) e
      have hr₃ : RepAll (fun b => okW ok W md b ∧ b ≠ D) h₃ (((items.take i).filter p).map f) vs := by
        refine RepAll.gen (fun b vs n e o => ⟨?_, o⟩) (fun b vs n e => ?_) hr
        · have e2 := hk₂' b _ (fun q => nlI' vs n (q ▸ e)) e
          exact hk₃' b _ (fun q => nlL.1 vs n (q ▸ e2)) e2
        · have e2 := hk₂' b _ (fun q => ntI' vs n (q ▸ e)) e
          exact hk₃' b _ (fun q => nlL.2 vs n (q ▸ e2)) e2
      obtain ⟨ht, hel⟩ := hrun L
      refine ht.run cur₃ fun h₄ tk₄ u₄ => ?_
      have etake : items.take (i + 1) = items.take i ++ [items[i]] := by rw [List.take_add_one, hd]; rfl
      cases hp' : p items[i] with
      | false =>
        rw [if_neg (by simp)]
        refine ⟨items.length + 1 - (i + 1), by omega, i + 1, h₄, tk₄, m₃, vs, c', rfl, hlt, rfl, hn₃.keeps u₄, fun b o hb e => u₄ _ _ (hkB b o hb e), stay h₄ fun b o h1 h2 e => u₄ _ _ (hk₃' b o h1 e), u₄ _ _ hD₃, ?_⟩
        rw [etake, List.filter_append, List.filter_cons, hp']
        simpa using hr₃.up u₄
      | true =>
        rw [if_pos rfl]
        refine hel hp' A _ W _ _ _ (cur₃.on u₄ tk₄) fun y h₅ tk₅ u₅ ry => ?_
        have u45 := u₄.trans u₅
        have hlen : vs.length ≤ i := by
          rw [hr.length, List.length_map]
          refine Nat.le_trans (List.length_filter_le _ _) ?_
          rw [List.length_take]; omega
        refine wpAny_list_append_plain (s := { s with heap := h₅, toks := tk₅ }) ⟨c', u45 _ _ hD₃⟩ (fun h₆ pl hs => ?_) (by rw [List.size_toArray]; omega)
        obtain ⟨c'', g''⟩ := pl
        have g'' : h₆.get? D = some (lst (vs ++ [y]) c'') := by rw [g'']; simp
        have k6 : ∀ b o, b ≠ D → h₃.get? b = some o → h₆.get? b = some o := fun b o hb e => hs.extBut b o hb (u45 _ _ e)
        refine ⟨items.length + 1 - (i + 1), by omega, i + 1, h₆, tk₅, m₃, vs ++ [y], c'', rfl, hlt, rfl, (hn₃.keeps u45).sameBut hs (Ne.symm hDL), fun b o hb e => k6 b o (belowD b o e) (hkB b o hb e), stay h₆ fun b o h1 h2 e => k6 b o h2 (hk₃' b o h1 e), g'', ?_⟩
        rw [etake, List.filter_append, List.filter_cons, hp', if_pos rfl, List.map_append]
        have mv : ∀ {d : PyData} {v : Value}, Rep (fun b => okW ok W md b ∧ b ≠ D) h₅ d v → Rep (fun b => okW ok W md b ∧ b ≠ D) h₆ d v := fun z => Rep.gen (fun b vs n e o => ⟨hs.extBut b _ o.2 e, o⟩) (fun b vs' n' e => hs.extBut b _ (fun q => by
          rw [q, u45 _ _ hD₃] at e
          exact absurd (show Value.type "list" = Value.type "tuple" from congrArg Obj.cls (Option.some.inj e)) (by decide)) e) z
        have mvA : ∀ {ds : List PyData} {vs : List Value}, RepAll (fun b => okW ok W md b ∧ b ≠ D) h₅ ds vs → RepAll (fun b => okW ok W md b ∧ b ≠ D) h₆ ds vs := fun z => RepAll.gen (fun b vs n e o => ⟨hs.extBut b _ o.2 e, o⟩) (fun b vs' n' e => hs.extBut b _ (fun q => by
          rw [q, u45 _ _ hD₃] at e
          exact absurd (show Value.type "list" = Value.type "tuple" from congrArg Obj.cls (Option.some.inj e)) (by decide)) e) z
        exact (mvA (hr₃.up u45)).append (.one (mv (ry.imp fun b z => ⟨⟨z.1.1, z.2⟩, z.1.2⟩)))
    · have hin : i = items.length := by omega
      subst hin
      refine X.wk.done _ _ _ st fun h₂ tk₂ hk₂ => ?_
      have hk₂' : ∀ b o, b ≠ I → h'.get? b = some o → h₂.get? b = some o := fun b o hb e => hk₂ b o (by simpa using hb) e
      rw [List.take_length] at hr
      exact hRR D L vs c' h₂ tk₂ m' frD frL hDL (hn.at' fun o e => hk₂' L o (Ne.symm hIL) e) (fun b o hb e => hk₂' b o hb (hk b o hb e)) (hk₂' D _ (Ne.symm hID) hD) (RepAll.gen (fun b vs n e o => ⟨hk₂' b _ (fun q => nlI' vs n (q ▸ e)) e, o⟩) (fun b vs n e => hk₂' b _ (fun q => ntI' vs n (q ▸ e)) e) hr)
  exact codeAny_compStart_list (loop _ rfl) (X.wk.self 0 _ _ _ (X.wk.frame 0 _ _ st0 fun b hb o e => old _ _ e) (loop _ rfl))

/-- [elt for target in iter if ..] -/
theorem EvF.compIB {p : PyData → Bool} {f : PyData → PyData} (hi : EvIB C k env own ρ iter mdi items) (hsz : items.length ≤ sizeLine) (hclos : closureFor scope env = pure cl)
    (hstep : ∀ d ∈ items, CompStep C k env own ρ scope cl fv target elt ifs mdi md p f d) (hfv : FvOk env scope cl fv) (hcell : ∀ y ∈ scope.names, y.2 ≠ .cell) (hkind : scope.kind = .function)
    (hnames : ∀ y ∈ scope.names, y.2 = .local → scope.names.lookup y.1 = some .local) (hs : ∀ x, foldedSetIterable iter env x = pure x := by intro _; rfl) :
    EvF C k env own ρ (.ListComp elt [⟨target, iter, ifs, 0⟩] scope pos) md ((items.filter p).map f) := fun A ok W s Q E c q => by
  rw [eval_ListComp]
  refine wpAny_comprehension_free (use := none) rfl hs hclos hkind hnames (hi A ok W s _ E c fun I fp Pv St F h' tk u fr X F0 st0 => ?_)
  refine comp_core (RR := fun acc L => compPost (model C.prog C.w) A E none Q acc L) c u fr X F0 st0 hsz hstep hfv hcell hkind fun D L vs n h₂ tk₂ m' frD frL hDL hn hk hD hr => ?_
  refine ⟨m', hn, fun h₃ hs₃ => ?_⟩
  have nl := ns_no_lst hn
  refine q D vs n h₃ tk₂ (fun b o e => hs₃.extBut b o (fun z => by rw [z] at e; rw [u.none frL] at e; cases e) (hk b o (fun z => by rw [z, fr] at e; cases e) (u b o e))) (u.none frD) (hs₃.extBut D _ hDL hD) ?_
  exact RepAll.gen (fun b vs n e o => ⟨hs₃.extBut b _ (fun z => nl.1 vs n (z ▸ e)) e, o⟩) (fun b vs n e => hs₃.extBut b _ (fun z => nl.2 vs n (z ▸ e)) e) hr
/-- [elt for target in iter if ..] -/
theorem EvF.comp {p : PyData → Bool} {f : PyData → PyData} (hi : EvI C k env own ρ iter mdi items) (hsz : items.length ≤ sizeLine) (hclos : closureFor scope env = pure cl)
    (hstep : ∀ d ∈ items, CompStep C k env own ρ scope cl fv target elt ifs mdi md p f d) (hfv : FvOk env scope cl fv) (hcell : ∀ y ∈ scope.names, y.2 ≠ .cell) (hkind : scope.kind = .function)
    (hnames : ∀ y ∈ scope.names, y.2 = .local → scope.names.lookup y.1 = some .local) (hs : ∀ x, foldedSetIterable iter env x = pure x := by intro _; rfl) :
    EvF C k env own ρ (.ListComp elt [⟨target, iter, ifs, 0⟩] scope pos) md ((items.filter p).map f) := EvF.compIB hi.weak hsz hclos hstep hfv hcell hkind hnames hs
end

end Mine

namespace Mine
open PySem PyProof.Rows

section
variable {C : Cx} {k : Nat} {A : Around} {hN : Heap} {ok : Bool → Addr → Prop} {s₀ : Shared} {Kp : Addr → Obj → Prop} {env : Env} {own : List Str} {W : Str → Option Addr} {ρ : DEnv} {s : Shared}
theorem Sta.but' (S : Sta C k A hN ok s₀ Kp env own W ρ s) {c : Addr} (nl : ∀ vs n, s.heap.get? c ≠ some (lst vs n)) (nt : ∀ vs n, s.heap.get? c ≠ some (tup vs n)) (hL : env.locals ≠ c) (hC : ∀ n c', env.cells.lookup n = some c' → c' ≠ c) (hk : ∀ o, ¬ Kp c o) {h' : Heap} (tk : Nat)
    (u : ∀ b o, b ≠ c → s.heap.get? b = some o → h'.get? b = some o) : Sta C k A hN ok s₀ Kp env own W ρ { s with heap := h', toks := tk } := by
  refine { room := S.room, top := S.top, eok := S.eok, up := S.up, new := S.new, le := S.le, kpN := S.kpN, same := let ⟨h, t, e⟩ := S.same; ⟨h', tk, by rw [e]⟩, keep := fun b o e => u b o (fun q => hk o (q ▸ e)) (S.keep b o e), newL := S.newL, newC := S.newC, apart := S.apart, frm := ?_, own1 := S.own1, own2 := fun x a e => ?_, inj := S.inj }
  · obtain ⟨m, cm, hn, hc, hv⟩ := S.frm
    refine ⟨m, cm, hn.at' fun o' e => u _ o' hL e, fun n c' e => ?_, fun x md d e => ?_⟩
    · obtain ⟨o2, ho2, hd2⟩ := hc n c' e
      exact ⟨o2, u _ _ (hC n c' e) ho2, hd2⟩
    · obtain ⟨v, l, y⟩ := hv x md d e
      refine ⟨v, l, ?_⟩
      have cy : Carry W s.heap W h' := Carry.but u nl nt
      unfold Holds1 at y ⊢
      split at y
      · exact y.carry cy
      · obtain ⟨e1, ds, vs, n, e2, g, r⟩ := y
        exact ⟨e1, ds, vs, n, e2, u _ _ (fun q => nl vs n (q ▸ g)) g, r.carry cy⟩
  · obtain ⟨g1, vs, n, g2⟩ := S.own2 x a e
    exact ⟨g1, vs, n, u _ _ (fun q => nl vs n (q ▸ g2)) g2⟩
end

section
variable {C : Cx} {k : Nat} {A : Around} {hN : Heap} {ok : Bool → Addr → Prop} {s₀ : Shared} {Kp : Addr → Obj → Prop} {env : Env} {own : List Str} {W : Str → Option Addr} {ρ : DEnv} {s : Shared} {E : Value → Shared → Prop}
/-- no datum of the frame's names holds the list at a -/
def Away (ok : Bool → Addr → Prop) (env : Env) (W : Str → Option Addr) (ρ : DEnv) (h : Heap) (a : Addr) : Prop :=
  (∀ z, W z ≠ some a) ∧ ∃ m cm, h.Ns env.locals m ∧ (∀ n c, env.cells.lookup n = some c → h.IsCell c (cm n)) ∧ ∀ x md d, ρ x = some (md, d) → ∃ v, val env m cm x = some v ∧ Holds1 (fun m b => ok m b ∧ b ≠ a) W h x md d v
theorem Sta.away (S : Sta C k A hN ok s₀ Kp env own W ρ s) {h₁ : Heap} {a : Addr} (u : Up s.heap h₁) (fr : s.heap.get? a = none) : Away ok env W ρ h₁ a := by
  refine ⟨fun z q => ?_, ?_⟩
  · obtain ⟨vs', n', g⟩ := (S.own2 z a q).2
    rw [fr] at g
    cases g
  obtain ⟨m, cm, hn, hc, hv⟩ := S.frm
  refine ⟨m, cm, hn.keeps u, fun n c e => (hc n c e).keeps u, fun x md d e => ?_⟩
  obtain ⟨v, l, r⟩ := hv x md d e
  refine ⟨v, l, Holds1.up ?_ u⟩
  have av : ∀ {m : Bool} {b : Addr}, okW ok W m b ∧ s.heap.get? b ≠ none → okW (fun m b => ok m b ∧ b ≠ a) W m b := fun z => ⟨⟨z.1.1, fun q => z.2 (q ▸ fr)⟩, z.1.2⟩
  unfold Holds1 at *
  split at r
  · exact r.there.imp fun b p => av p
  · obtain ⟨p1, ds', vs', n', p2, p3, p4⟩ := r
    exact ⟨p1, ds', vs', n', p2, p3, p4.there.imp fun b p => av p⟩

theorem Sta.storeNew {x : Str} {a : Addr} {vs : List Value} {n : Nat} {md : Bool} {ds : List PyData} {Q : Unit → Shared → Prop} (S : Sta C k A hN ok s₀ Kp env own W ρ s) (hx : storable env x = true)
    (aw : Away ok env W ρ s.heap a) (nka : ∀ o, ¬ Kp a o) (ga : s.heap.get? a = some (lst vs n)) (y : RepAll (fun b => okW ok W md b ∧ b ≠ a) s.heap ds vs)
    (h : ∀ s', Sta C k A hN ok s₀ Kp env (x :: less own x) (setW W x a) (upd ρ x md (.list ds)) s' → Q () s') : wpAny (model C.prog C.w) A (storeName env x (.ref a)) Q E s := by
  obtain ⟨away, m, cm, hn, hc, hv⟩ := aw
  have avoid : ∀ {md : Bool} {b : Addr}, okW ok W md b → b ≠ a → okW ok (setW W x a) md b := fun q ne => ⟨q.1, fun z e => by
    unfold setW at e
    split at e
    · cases e; exact absurd rfl ne
    · exact q.2 z e⟩
  refine store_raw hx S.eok.kind hn hc S.apart fun h' tk c m' cm' hs n1 n2 hcc hn' hc' e1 e2 => h _ ?_
  have nk : ∀ o, ¬ Kp c o := by
    rcases hcc with e | ⟨n, e⟩
    · rw [e]; exact S.newL
    · exact fun o => S.newC n c o e
  have hca : a ≠ c := fun q => n1 vs n (q ▸ ga)
  refine { room := S.room, top := S.top, eok := S.eok, up := S.up, new := S.new, le := S.le, kpN := S.kpN, same := ?_, keep := fun b o e => hs.extBut b o (fun q => nk o (q ▸ e)) (S.keep b o e), newL := S.newL, newC := S.newC, apart := S.apart, frm := ?_, own1 := fun z => ?_, own2 := fun z b e => ?_, inj := fun z z' b e e' => ?_ }
  · obtain ⟨h0, t0, e0⟩ := S.same; exact ⟨h', tk, by rw [e0]⟩
  · refine ⟨m', cm', hn', hc', fun z md' d' e => ?_⟩
    unfold upd at e
    split at e
    · rename_i q; subst q; cases e
      refine ⟨_, e1, ?_⟩
      have ew : setW W z a z = some a := if_pos rfl
      unfold Holds1
      rw [ew]
      exact ⟨rfl, ds, vs, n, rfl, hs.extBut a _ hca ga, (y.imp fun b q => avoid q.1 q.2).but hs n1 n2⟩
    · rename_i q
      have hW : setW W x a z = W z := if_neg q
      obtain ⟨v', l, r⟩ := hv z md' d' e
      refine ⟨v', (e2 z q).trans l, Holds1.but ?_ hs n1 n2⟩
      unfold Holds1 at *
      rw [hW]
      split at r
      · exact r.imp fun b p => avoid ⟨p.1.1, p.2⟩ p.1.2
      · obtain ⟨p1, ds', vs', n', p2, p3, p4⟩ := r
        exact ⟨p1, ds', vs', n', p2, p3, p4.imp fun b p => avoid ⟨p.1.1, p.2⟩ p.1.2⟩
  · rw [List.mem_cons, mem_less, ← S.own1 z]
    unfold setW
    constructor
    · rintro ⟨b, e⟩
      split at e
      · rename_i q; exact .inl q
      · rename_i q; exact .inr ⟨⟨b, e⟩, q⟩
    · rintro (q | ⟨⟨b, e⟩, q⟩)
      · exact ⟨a, by rw [if_pos q]⟩
      · exact ⟨b, by rw [if_neg q]; exact e⟩
  · unfold setW at e
    split at e
    · cases e
      exact ⟨nka, vs, n, hs.extBut a _ hca ga⟩
    · obtain ⟨g1, vs', n', g2⟩ := S.own2 z b e
      exact ⟨g1, vs', n', hs.extBut b _ (fun q => n1 vs' n' (q ▸ g2)) g2⟩
  · unfold setW at e e'
    split at e
    · cases e
      split at e'
      · rename_i q q'; rw [q, q']
      · exact absurd e' (away _)
    · split at e'
      · cases e'; exact absurd e (away _)
      · exact S.inj z z' b e e'
end

section
variable {C : Cx} {k : Nat} {env : Env} {own : List Str} {ρ : DEnv} {elt target iter : Expr} {ifs : List Expr} {scope : Scope} {pos spos py : Pos} {md mdi : Bool} {items : List PyData} {cl : List (Str × Addr)} {fv : List Str} {x : Str} {rest : List Stmt} {P : Out → Prop}

/-- the state behind a comprehension whose value is stored before its own frame goes -/
theorem use_store {A hN ok s₀ Kp W s} {E : Value → Shared → Prop} {Q : Flow → Shared → Prop} {ds : List PyData} (S : Sta C k A hN ok s₀ Kp env own W ρ s) (hx : storable env x = true)
    (q : ∀ W' s', (∀ y, y ≠ x → W' y = W y) → Sta C k A hN ok s₀ Kp env (x :: less own x) W' (upd ρ x md (.list ds)) s' → Q .next s') {hp h₂ : Heap} {I D L : Addr} {vs : List Value} {n tk₂ : Nat} {m' : Str → Option Value} (u : Up s.heap hp) (fr : s.heap.get? I = none) (frD : hp.get? D = none) (frL : hp.get? L = none) (hDL : D ≠ L) (hn : h₂.Ns L m')
    (hk : ∀ b o, b ≠ I → hp.get? b = some o → h₂.get? b = some o) (hD : h₂.get? D = some (lst vs n)) (hr : RepAll (fun b => okW ok W md b ∧ b ≠ D) h₂ ds vs) :
    compPost (model C.prog C.w) A E (some (assign (.Name x py) env)) (fun _ s' => Q .next s') (.ref D) L (.ok .next) { s with heap := h₂, toks := tk₂ } := by
  have uS : Up s.heap h₂ := fun b o e => hk b o (fun z => by rw [z, fr] at e; cases e) (u b o e)
  have sL : s.heap.get? L = none := u.none frL
  show wpAny (model C.prog C.w) A (assign (.Name x py) env (.ref D)) (fun _ s'' => ∃ m, s''.heap.Ns L m ∧ ∀ h', Heap.SameBut L s''.heap h' → Q .next { s'' with heap := h' }) E { s with heap := h₂, toks := tk₂ }
  obtain ⟨m, cm, hnL, hc, hv⟩ := S.frm
  have neL : env.locals ≠ L := fun z => by obtain ⟨o, _, _, ho, _⟩ := hnL; rw [z, sL] at ho; cases ho
  have neC : ∀ n c', env.cells.lookup n = some c' → c' ≠ L := fun n c' e z => by obtain ⟨o, ho, _⟩ := hc n c' e; rw [z, sL] at ho; cases ho
  obtain ⟨oL, esL, epL, hoL, hdL, hkL, hfL⟩ := id hn
  -- the same state, the comprehension's frame kept
  let Kp' : Addr → Obj → Prop := fun b o => Kp b o ∨ (b = L ∧ o = oL)
  have S' : Sta C k A hN ok s₀ Kp' env own W ρ { s with heap := h₂, toks := tk₂ } := by
    have S1 := S.on uS tk₂
    refine { room := S1.room, top := S1.top, eok := S1.eok, up := S1.up, new := S1.new, le := S1.le, kpN := fun b o e => .inl (S1.kpN b o e), same := S1.same, keep := fun b o e => ?_, newL := fun o e => ?_, newC := fun n c o e z => ?_, apart := S1.apart, frm := S1.frm, own1 := S1.own1, own2 := fun y a e => ⟨fun o z => ?_, (S1.own2 y a e).2⟩, inj := S1.inj }
    · rcases e with e | ⟨e1, e2⟩
      · exact S1.keep b o e
      · subst e1 e2; exact hoL
    · rcases e with e | ⟨e1, _⟩
      · exact S1.newL o e
      · exact neL e1
    · rcases z with z | ⟨z, _⟩
      · exact S1.newC n c o e z
      · exact neC n c e z
    · rcases z with z | ⟨z, _⟩
      · exact (S1.own2 y a e).1 o z
      · obtain ⟨vs', n', g⟩ := (S.own2 y a e).2
        rw [z, sL] at g; cases g
  refine wpAny_assign_Name ?_
  have nkD : ∀ o, ¬ Kp' D o := fun o z => by
    rcases z with z | ⟨z, _⟩
    · have := S.keep _ _ z; rw [u.none frD] at this; cases this
    · exact hDL z
  refine S'.storeNew hx (S.away uS (u.none frD)) nkD hD hr fun s' S'' => ?_
  have hoL' : s'.heap.get? L = some oL := S''.keep L oL (.inr ⟨rfl, rfl⟩)
  refine ⟨m', ⟨oL, esL, epL, hoL', hdL, hkL, hfL⟩, fun h' hs => ?_⟩
  have S3 := S''.lessKp (Kp := Kp) (fun b o e => .inl e) S.kpN
  refine q _ _ (fun y hy => by unfold setW; rw [if_neg hy]) (S3.but' (c := L) (fun vs n e => ?_) (fun vs n e => ?_) neL neC (fun o z => ?_) s'.toks fun b o hb e => hs.extBut b o hb e)
  · rw [hoL'] at e; cases e; cases hdL
  · rw [hoL'] at e; cases e; cases hdL
  · have := S.keep _ _ z; rw [sL] at this; cases this

/-- x = [elt for target in iter if ..], on one line -/
theorem Ex.assignCompIB {p : PyData → Bool} {f : PyData → PyData} (hi : EvIB C k env own ρ iter mdi items) (hsz : items.length ≤ sizeLine) (hclos : closureFor scope env = pure cl)
    (hstep : ∀ d ∈ items, CompStep C k env own ρ scope cl fv target elt ifs mdi md p f d) (h : Ex C k env (x :: less own x) (upd ρ x md (.list ((items.filter p).map f))) rest P) (hfv : FvOk env scope cl fv) (hcell : ∀ y ∈ scope.names, y.2 ≠ .cell) (hkind : scope.kind = .function)
    (hnames : ∀ y ∈ scope.names, y.2 = .local → scope.names.lookup y.1 = some .local) (hx : storable env x = true := by rfl) (hsw : swapsWith (.ListComp elt [⟨target, iter, ifs, 0⟩] scope pos) (some (.Name x py)) spos.line env = pure true := by rfl) (hs : ∀ x, foldedSetIterable iter env x = pure x := by intro _; rfl) :
    Ex C k env own ρ (.Assign [.Name x py] (.ListComp elt [⟨target, iter, ifs, 0⟩] scope pos) spos :: rest) P := by
  refine Ex.plain (fun A hN ok s₀ Kp W s Q E S q => ?_) h
  rw [exec_Assign_Name_used _ _ _ _ hsw]
  refine wpAny_bind (wpAny_standAt (wpAny_bind ?_))
  show wpAny _ A (do let _ ← comprehension (.ListComp elt [⟨target, iter, ifs, 0⟩] scope pos) scope env _ (newList []) false (eval iter env) (some (PySem.assign (.Name x py) env))) _ _ s
  refine wpAny_bind (wpAny_mono (wpAny_comprehension_free (use := some (PySem.assign (.Name x py) env)) (Q := fun _ s' => Q .next s') rfl hs hclos hkind hnames (hi A ok W s _ E S.cur fun I fp Pv St F h' tk u fr X F0 st0 => ?_)) (fun _ s' hq => wpAny_pure (wpAny_pure hq)) fun _ _ e => e)
  exact comp_core (RR := fun acc L => compPost (model C.prog C.w) A E (some (PySem.assign (.Name x py) env)) (fun _ s' => Q .next s') acc L) S.cur u fr X F0 st0 hsz hstep hfv hcell hkind fun D L vs n h₂ tk₂ m' frD frL hDL hn hk hD hr =>
    use_store S hx (fun W' s' _ S' => q W' s' S') u fr frD frL hDL hn hk hD hr
end

end Mine

namespace Mine
open PySem PySem.W PyProof.Rows

/-- the def that the i-th statement of the top makes -/
def recAt (p : Program) (i : Nat) : DefRec := match p.main.body[i]? with
  | some (.FunctionDef name a b _ _ _ sc _ _ pos) => ⟨name, a, b, sc, pos⟩
  | _ => ⟨"", default, [], default, default⟩

def cxOf {p : Program} {loose : List Str} {mean : ExcName → Option Value} {mg mb : Str → Option Value} {h : Heap} (T : Top p loose mean mg mb h) (prog : Program) (w : World) (ht : prog.given.tree = none) (hi : h.NoSeer) : Cx :=
  { prog := prog, w := w, base := h, mg := mg, mb := mb, g := T.g, b := T.b, lim := T.nolimit, bi := T.builtins, tree := ht, seer := hi }

theorem fn_of_top {p : Program} {loose : List Str} {mean : ExcName → Option Value} {mg mb : Str → Option Value} {h : Heap} (T : Top p loose mean mg mb h) (d : DefRec) (i : Nat) (hd : (recsOf p)[i]? = some d) :
    ∃ a o pm code doc, mg d.name = some (.ref a) ∧ h.get? a = some o ∧ o.data = .func (Calls.docDef d.name d.params d.body d.scope pm code doc) ∧ h.CodeRec code d.name := T.fn d (List.mem_of_getElem? hd)

theorem fnAt_of {C : Cx} {d : DefRec} {f : Addr} {o : Obj} {pm code doc dV kV : Value} {ps : List Str} (h1 : C.base.get? f = some o) (h2 : o.data = .func { Calls.docDef d.name d.params d.body d.scope pm code doc with defaults := dV, kwdefaults := kV }) (h3 : C.base.CodeRec code d.name)
    (hb : ∀ vs : List Value, vs.length = ps.length → bindArgs { Calls.docDef d.name d.params d.body d.scope pm code doc with defaults := dV, kwdefaults := kV } ⟨vs, []⟩ = pure (ps.zip vs)) (hnd : ps.Nodup) (hst : ∀ L, ps.all (fun x => storable (callEnvC { Calls.docDef d.name d.params d.body d.scope pm code doc with defaults := dV, kwdefaults := kV } L f) x) = true)
    (hk : d.scope.kind = .function) (hco : d.scope.isCoroutine = false) (hgen : d.scope.isGenerator = false) : FnAt C f { Calls.docDef d.name d.params d.body d.scope pm code doc with defaults := dV, kwdefaults := kV } ps d.body where
  at_ := ⟨o, h1, h2⟩
  code := h3
  body_ := rfl
  clo := rfl
  glob := rfl
  bi := rfl
  bind := hb
  nd := hnd
  st := hst
  kind := hk
  co := hco
  gen := hgen

theorem repAll_ints {ok : Addr → Prop} {h : Heap} {vs : List Value} {ns : List Int} (hi : IntsAre vs ns) : RepAll ok h (ns.map .int) vs := by
  induction hi with
  | nil => exact .nil
  | cons n t _ ih => exact .cons (.int n t) ih

/-- the law's end -/
theorem law_end {prog : Program} {w : World} {s₁ : Shared} {fa a : Addr} {vs : List Value} {ns : List Int} {c : ClaimW} {cl : Str → Option Addr} {mean : ExcName → Option Value} {args : List WData} {k : Nat} {C : Cx} {n : Nat}
    (e1 : C.prog = prog) (e2 : C.w = w) (e3 : C.base = s₁.heap) (hF : Fn C k fa false [.list (ns.map .int)] false (.bool true)) (hk : k ≤ 40) (ha : s₁.heap.get? a = some (lst vs n)) (hi : IntsAre vs ns) (hg : s₁.gens = #[]) (hr : ∀ cls, c.raises args cls = false) (hp : c.post args (.bool true) args = true)
    {E : Value → Shared → Prop} : wpAny (model prog w) callerA (call (.ref fa) [.ref a]) (fun v s' => GoodWG c cl mean args s₁ (.ok (.ret v)) s') E s₁ := by
  subst e1 e2
  refine hF callerA (fun _ _ => True) s₁ [.ref a] _ _ ⟨rfl, ?_, ?_, ⟨[], rfl⟩⟩ (e3 ▸ Up.refl _) (fun _ _ _ => trivial) (fun _ _ => trivial) (.cons (.list ha trivial (repAll_ints hi)) .nil) fun v h' tk u r => ?_
  · show 1 + claimMargin + k + 100 < recursionLimit
    have : claimMargin = 300 := rfl
    have : recursionLimit = 1000 := rfl
    omega
  · show 4 + 8 * k + 80 < cLine
    have : cLine = 9900 := rfl
    omega
  · cases r
    exact GoodW.toG ⟨.inl ⟨_, _, [], rfl, hr, ReadsW.bool true, hp, fun _ => ⟨List.nodup_nil, fun _ hm => (nomatch hm)⟩⟩, u, rfl, hg⟩
end Mine

namespace Mine
open PySem PySem.W PyProof.Rows

/-- a side condition that a walk may leave -/
structure Side (p : Prop) : Prop where
  out : p

structure Now (p : Prop) : Prop where
  out : p

abbrev DCtx := List (Str × Bool × PyData)
/-- the names that Γ tells -/
def mk (Γ : DCtx) : DEnv := fun x => Γ.lookup x
def All (ρ : DEnv) : DCtx → Prop
  | [] => True
  | p :: Γ => ρ p.1 = some p.2 ∧ All ρ Γ
theorem All.nil {ρ : DEnv} : All ρ [] := trivial
theorem All.put {ρ : DEnv} {x : Str} {m : Bool} {d d' : PyData} {Γ : DCtx} (h : ρ x = some (m, d)) (e : d = d') (t : All ρ Γ) : All ρ ((x, m, d') :: Γ) := ⟨e ▸ h, t⟩
theorem All.sub {ρ : DEnv} : ∀ {Γ : DCtx}, All ρ Γ → ∀ x v, mk Γ x = some v → ρ x = some v
  | [], _, x, v, e => nomatch e
  | (y, w) :: Γ, h, x, v, e => by
    unfold mk at e
    rw [List.lookup_cons] at e
    split at e
    · rename_i q
      cases e
      rw [beq_iff_eq] at q
      subst q
      exact h.1
    · exact All.sub h.2 x v e

section
variable {C : Cx} {k : Nat} {env : Env} {own : List Str} {ρ ρ' : DEnv} {rest body orelse : List Stmt} {P : Out → Prop} {iter target : Expr} {md : Bool} {items : List PyData} {pos : Pos}

theorem Sta.forget {A hN ok s₀ Kp W s} (S : Sta C k A hN ok s₀ Kp env own W ρ s) (h : ∀ x v, ρ' x = some v → ρ x = some v) : Sta C k A hN ok s₀ Kp env own W ρ' s where
  room := S.room
  top := S.top
  eok := S.eok
  up := S.up
  new := S.new
  le := S.le
  kpN := S.kpN
  same := S.same
  keep := S.keep
  newL := S.newL
  newC := S.newC
  apart := S.apart
  frm := let ⟨m, cm, hn, hc, hv⟩ := S.frm; ⟨m, cm, hn, hc, fun x md d e => hv x md d (h _ _ e)⟩
  own1 := S.own1
  own2 := S.own2
  inj := S.inj
theorem Ex.forget (h : ∀ x v, ρ' x = some v → ρ x = some v) (e : Ex C k env own ρ' body P) : Ex C k env own ρ body P := fun A hN ok s₀ Kp W s Q E S f => e A hN ok s₀ Kp W s Q E (S.forget h) f
theorem Ex.ctx (Γ : DCtx) (h : All ρ Γ) (e : Ex C k env own (mk Γ) body P) : Ex C k env own ρ body P := Ex.forget h.sub e

/-- the body ends with the names Γ -/
def Nx (O : List Str) (Γ : DCtx) : Out → Prop := fun o => match o with
  | .next own ρ => own = O ∧ All ρ Γ
  | _ => False
def NxR (O : List Str) (Γ : DCtx) (P : Out → Prop) : Out → Prop := fun o => match o with
  | .next own ρ => own = O ∧ All ρ Γ
  | .cont own ρ => own = O ∧ All ρ Γ
  | .brk _ _ => False
  | .ret md d => P (.ret md d)

theorem Ex.forR (hi : EvI C k env own ρ iter md items) (O : Nat → List Str) (Γ : Nat → DCtx) (h0 : own = O 0) (h0' : All ρ (Γ 0))
    (turn : ∀ i d, i < items.length → items[i]? = some d → ∃ own' ρ', Asg C k env (O i) (mk (Γ i)) target md d own' ρ' ∧ Ex C k env own' ρ' body (NxR (O (i + 1)) (Γ (i + 1)) P))
    (done : Ex C k env (O items.length) (mk (Γ items.length)) rest P)
    (hs : ∀ x, foldedSetIterable iter env x = pure x := by intro _; rfl) (hnl : ∀ i, noLent (O i) = true := by intro _; rfl) : Ex C k env own ρ (.For target iter body [] pos :: rest) P := by
  refine Ex.for_ hi (fun i own ρ => own = O i ∧ All ρ (Γ i)) (fun _ _ _ => False) ⟨h0, h0'⟩ (fun i d own ρ hd hI => ?_) (fun own ρ hI => ?_) (fun _ _ _ q => q.elim) hs (fun i own ρ hI => by rw [hI.1]; exact hnl i)
  · obtain ⟨e, ha⟩ := hI
    subst e
    have hlt : i < items.length := by
      rcases Nat.lt_or_ge i items.length with h | h
      · exact h
      · rw [List.getElem?_eq_none h] at hd; cases hd
    obtain ⟨own', ρ', asg, ex⟩ := turn i d hlt hd
    refine ⟨own', ρ', ⟨asg.1, fun A hN ok s₀ Kp W s v Q E S y q => asg.2 A hN ok s₀ Kp W s v Q E (S.forget ha.sub) y q⟩, ex.mono fun o ho => ?_⟩
    cases o <;> exact ho
  · obtain ⟨e, ha⟩ := hI
    subst e
    exact Ex.ctx _ ha done

theorem Ex.ifJ {t : Expr} {b : Bool} (ht : Tst C k env own ρ t b) (O : List Str) (Γ : DCtx) (h1 : b = true → Ex C k env own ρ body (Nx O Γ)) (h2 : b = false → Ex C k env own ρ orelse (Nx O Γ))
    (h : Ex C k env O (mk Γ) rest P) : Ex C k env own ρ (.If t body orelse pos :: rest) P := by
  have key : ∀ bd, Ex C k env own ρ bd (Nx O Γ) → Ex C k env own ρ (bd ++ rest) P := fun bd hb A hN ok s₀ Kp W s Q E S f => by
    rw [execs_append]
    refine wpAny_bind (hb A hN ok s₀ Kp W s _ E S { next := ?_, brk := fun _ _ _ _ q => q.elim, cont := fun _ _ _ _ q => q.elim, ret := fun _ _ _ _ q => q.elim })
    rintro own' W' ρ' s' ⟨e, ha⟩ S'
    subst e
    exact Ex.ctx _ ha h A hN ok s₀ Kp W' s' Q E S' f
  exact Ex.if_ ht (fun q => key _ (h1 q)) (fun q => key _ (h2 q))
end
end Mine

namespace Mine
open PySem PySem.W PyProof.Rows

/-- the built-in names that no law of ours hides -/
structure Bis (C : Cx) : Prop where
  len : C.mg "len" = none
  abs : C.mg "abs" = none
  min : C.mg "min" = none
  max : C.mg "max" = none
  list : C.mg "list" = none
  tuple : C.mg "tuple" = none
  range : C.mg "range" = none
  type : C.mg "type" = none
  int : C.mg "int" = none
  bool : C.mg "bool" = none
  all : C.mg "all" = none
  sum : C.mg "sum" = none
  isi : C.mg "isinstance" = none

theorem bi_len : bootBuiltins "len" = some (.builtin "len") := by kernel_rfl
theorem bi_abs : bootBuiltins "abs" = some (.builtin "abs") := by kernel_rfl
theorem bi_min : bootBuiltins "min" = some (.builtin "min") := by kernel_rfl
theorem bi_list : bootBuiltins "list" = some (.type "list") := by kernel_rfl
theorem bi_tuple : bootBuiltins "tuple" = some (.type "tuple") := by kernel_rfl
theorem bi_range : bootBuiltins "range" = some (.type "range") := by kernel_rfl
theorem bi_type : bootBuiltins "type" = some (.type "type") := by kernel_rfl
theorem bi_bool : bootBuiltins "bool" = some (.type "bool") := by kernel_rfl

/-- a size that a walk looks up -/
structure Sz (n : Nat) : Prop where
  out : n ≤ sizeLine
theorem Sz.of {n : Nat} (h : n ≤ 1000000) : Sz n := ⟨by rw [sizeLine_eq]; omega⟩

section
variable {C : Cx} {k : Nat} {env : Env} {own : List Str} {ρ : DEnv} {e e' l r : Expr} {es : List Expr} {md md' : Bool} {d : PyData} {ds ds' items : List PyData} {ns : List Int} {pos npos cpos : Pos} {i j : Int} {f : Addr} {x : Str}

theorem Ev.lenB (B : Bis C) (ha : EvB C k env own ρ e false (.list ds)) (hz : Sz ds.length) (hk : env.kindOf "len" = some .globalImplicit) (he : starEach [e] env = (false, eval e env) :: starEach [] env) :
    Ev C k env own ρ (.Call (.Name "len" npos) [e] [] pos) md (.int ds.length) := Ev.len (EvK.builtin B.len bi_len (hk := hk)) ha hz.out he
theorem Ev.lenI (B : Bis C) (ha : EvB C k env own ρ e false (.list (ns.map .int))) (hz : Sz ns.length) (hk : env.kindOf "len" = some .globalImplicit) (he : starEach [e] env = (false, eval e env) :: starEach [] env) :
    Ev C k env own ρ (.Call (.Name "len" npos) [e] [] pos) md (.int ns.length) := by
  have := Ev.len (md := md) (EvK.builtin B.len bi_len (hk := hk) (pos := npos)) ha (by rw [List.length_map]; exact hz.out) he (pos := pos)
  rwa [List.length_map] at this
theorem Ev.absB (B : Bis C) (ha : EvB C k env own ρ e false (.int i)) (hk : env.kindOf "abs" = some .globalImplicit) (he : starEach [e] env = (false, eval e env) :: starEach [] env) :
    Ev C k env own ρ (.Call (.Name "abs" npos) [e] [] pos) md (.int i.natAbs) := Ev.abs (EvK.builtin B.abs bi_abs (hk := hk)) ha he
theorem EvF.copyI (B : Bis C) (ha : EvB C k env own ρ e false (.list (ns.map .int))) (hz : Sz ns.length) (hk : env.kindOf "list" = some .globalImplicit) (he : starEach [e] env = (false, eval e env) :: starEach [] env) :
    EvF C k env own ρ (.Call (.Name "list" npos) [e] [] pos) md (ns.map .int) := EvF.copyA (EvK.builtin B.list bi_list (hk := hk)) ha (by rw [List.all_map]; exact List.all_eq_true.mpr fun _ _ => rfl) (by rw [List.length_map]; exact hz.out) he
theorem EvF.copyTB (B : Bis C) (ha : EvB C k env own ρ e md (.tuple ds)) (hz : Sz ds.length) (hk : env.kindOf "list" = some .globalImplicit) (he : starEach [e] env = (false, eval e env) :: starEach [] env) :
    EvF C k env own ρ (.Call (.Name "list" npos) [e] [] pos) md ds := EvF.copyT (EvK.builtin B.list bi_list (hk := hk)) ha hz.out he
theorem Ev.totupleB (B : Bis C) (ha : EvB C k env own ρ e md (.list ds)) (hz : Sz ds.length) (hk : env.kindOf "tuple" = some .globalImplicit) (he : starEach [e] env = (false, eval e env) :: starEach [] env) :
    Ev C k env own ρ (.Call (.Name "tuple" npos) [e] [] pos) md (.tuple ds) := Ev.totuple (EvK.builtin B.tuple bi_tuple (hk := hk)) ha hz.out he
theorem Ev.minB (B : Bis C) (ha : EvB C k env own ρ e false (.int i)) (hb : EvB C k env own ρ e' false (.int j)) (hk : env.kindOf "min" = some .globalImplicit) (he : starEach [e, e'] env = (false, eval e env) :: starEach [e'] env) (he' : starEach [e'] env = (false, eval e' env) :: starEach [] env)
    (hp : (backTo pos (starEach [e'] env)).any (·.1) = false) : Ev C k env own ρ (.Call (.Name "min" npos) [e, e'] [] pos) md (.int (Min.min i j)) := Ev.min (EvK.builtin B.min bi_min (hk := hk)) ha hb he he' hp
theorem EvI.rangeB (B : Bis C) (ha : EvB C k env own ρ e false (.int i)) (hz : i ≤ 1000000) (hk : env.kindOf "range" = some .globalImplicit) (he : starEach [e] env = (false, eval e env) :: starEach [] env) (hlo : -1000000 ≤ i) :
    EvI C k env own ρ (.Call (.Name "range" npos) [e] [] pos) md (rangeD i) := EvI.range (EvK.builtin B.range bi_range (hk := hk)) ha (by omega) (by omega) he
theorem EvK.typeB (B : Bis C) (ha : EvB C k env own ρ e false d) (hnd : noDict d = true) (hk : env.kindOf "type" = some .globalImplicit) (he : starEach [e] env = (false, eval e env) :: starEach [] env) :
    EvK C k env own ρ (.Call (.Name "type" npos) [e] [] pos) (.type (typeD d)) := EvK.type (EvK.builtin B.type bi_type (hk := hk)) ha hnd he
theorem EvK.boolB (B : Bis C) (hk : env.kindOf "bool" = some .globalImplicit) : EvK C k env own ρ (.Name "bool" npos) (.type "bool") := EvK.builtin B.bool bi_bool (hk := hk)
/-- l[i] -/
theorem Ev.itemI {slice : Expr} (hl : EvB C k env own ρ l false (.list (ns.map .int))) (hi : EvB C k env own ρ slice false (.int i)) (h0 : 0 ≤ i ∧ i < ns.length) (hz : Sz ns.length) (hs : ∀ o i, ∃ vs, subscripted slice false o i = operate vs (getItem o i)) :
    Ev C k env own ρ (.Subscript l slice pos) md (.int (ns.getD i.toNat 0)) := EvB.at (md' := false) (Ev.b (Ev.item hl hi h0.1 (by
      rw [List.getElem?_map, List.getD, List.getElem?_eq_getElem (by omega)]; rfl) (by rw [List.length_map]; exact hz.out) hs)) rfl
theorem Ev.itemL {slice : Expr} (hl : EvB C k env own ρ l md (.list ds)) (hi : EvB C k env own ρ slice false (.int i)) (h0 : 0 ≤ i) (hd : ds[i.toNat]? = some d) (hz : Sz ds.length) (hs : ∀ o i, ∃ vs, subscripted slice false o i = operate vs (getItem o i)) :
    Ev C k env own ρ (.Subscript l slice pos) md d := Ev.item hl hi h0 hd hz.out hs

/-- what a comprehension's scope must be like -/
def compB (env : Env) (scope : Scope) (cl : List (Str × Addr)) (fv own xs : List Str) : Bool :=
  (fv.all fun y => ((relabel scope env).names.lookup y == some .cell || (relabel scope env).names.lookup y == some .free) && !(env.kindOf y == some .local)) &&
  (scope.names.all fun y => !decide (y.2 = .cell)) && decide (scope.kind = .function) && (scope.names.all fun y => !decide (y.2 = .local) || decide (scope.names.lookup y.1 = some .local)) &&
  xs.all fun q => (relabel scope env).names.lookup q == some .local && !own.contains q
def freeOf (sc : Scope) : List Str := (sc.names.filter fun y => y.2 == .free).map (·.1)
structure CompS (env : Env) (scope : Scope) (cl : List (Str × Addr)) (fv own xs : List Str) : Prop where
  fv : FvOk env scope cl fv
  cell : ∀ y ∈ scope.names, y.2 ≠ .cell
  kind : scope.kind = .function
  names : ∀ y ∈ scope.names, y.2 = .local → scope.names.lookup y.1 = some .local
  xs : (xs.all fun q => (relabel scope env).names.lookup q == some .local && !own.contains q) = true
theorem compS {scope : Scope} {cl : List (Str × Addr)} {fv xs : List Str} (h : compB env scope cl fv own xs = true) (hfl : fv.map (fun y => cl.lookup y) = fv.map (fun y => env.cells.lookup y)) : CompS env scope cl fv own xs := by
  unfold compB at h
  simp only [Bool.and_eq_true] at h
  obtain ⟨⟨⟨⟨h1, h2⟩, h3⟩, h4⟩, h5⟩ := h
  refine ⟨?_, fun y hy => ?_, of_decide_eq_true h3, fun y hy e => ?_, h5⟩
  · clear h2 h3 h4 h5
    induction fv with
    | nil => trivial
    | cons y r ih =>
      rw [List.all_cons, Bool.and_eq_true] at h1
      obtain ⟨a, b⟩ := h1
      rw [Bool.and_eq_true] at a
      rw [List.map_cons, List.map_cons] at hfl
      exact ⟨⟨a.1, by simpa using a.2, List.head_eq_of_cons_eq hfl⟩, ih (List.tail_eq_of_cons_eq hfl) b⟩
  · have := List.all_eq_true.mp h2 y hy
    simpa using this
  · have := List.all_eq_true.mp h4 y hy
    simpa [e] using this

variable {scope : Scope} {cl : List (Str × Addr)} {fv : List Str} {elt : Expr} {ifs : List Expr} {tpos spos py : Pos} {y : Str} {rest : List Stmt} {P : Out → Prop}

theorem mem_rangeD {n : Int} {d : PyData} (h : d ∈ rangeD n) : ∃ i : Nat, (i : Int) < n ∧ d = .int (i : Int) := by
  rw [rangeD, List.mem_map] at h
  obtain ⟨i, hi, e⟩ := h
  rw [List.mem_range] at hi
  exact ⟨i, by omega, e.symm⟩
theorem rangeD_length {n : Int} : (rangeD n).length = n.toNat := by rw [rangeD, List.length_map, List.length_range]

def natD (g : Nat → PyData) : PyData → PyData
  | .int i => g i.toNat
  | d => d
end
end Mine

namespace Mine
open PySem PySem.W PyProof.Rows

/-- what is known of a def of the top -/
structure Def (C : Cx) (x : Str) (j : Nat) (R : List PyData → Bool → PyData → Prop) : Prop where
  ex : ∃ f, C.mg x = some (.ref f) ∧ (∃ o fd, C.base.get? f = some o ∧ o.data = .func fd) ∧ ∀ args md d, R args md d → Fn C j f false args md d
theorem Fn.atom {C : Cx} {k : Nat} {f : Addr} {ma md md' : Bool} {args : List PyData} {d : PyData} (h : Fn C k f ma args md' d) (ha : atom d = true) : Fn C k f ma args md d :=
  fun A ok s vs Q E r u n l y q => h A ok s vs Q E r u n l y fun v h' tk u' r' => q v h' tk u' (r'.atom ha)
section
variable {C : Cx} {k j : Nat} {env : Env} {own : List Str} {ρ : DEnv} {e : Expr} {es : List Expr} {md : Bool} {d : PyData} {args : List PyData} {pos npos : Pos} {x : Str} {R : List PyData → Bool → PyData → Prop}
theorem Ev.callK (K : Def C x j R) (ha : Evs C k env own ρ (e :: es) false args) (hR : R args md d) (hj : j ≤ k) (hk : env.kindOf x = some .globalImplicit) (hd : (x == ("__debug__" : Str)) = false)
    (he : starEach (e :: es) env = (false, eval e env) :: starEach es env) : Ev C k env own ρ (.Call (.Name x npos) (e :: es) [] pos) md d := by
  obtain ⟨f, hg, X, hF⟩ := K.ex
  exact Ev.call X (EvK.glob hg hk hd) ha (hF _ _ _ hR) hj he
end
/-- a def of the top that is at its place -/
theorem Def.of {C : Cx} {x : Str} {j : Nat} {R : List PyData → Bool → PyData → Prop} {f : Addr} {fd : FuncData} {ps : List Str} {body : List Stmt} (hg : C.mg x = some (.ref f)) (X : FnAt C f fd ps body) (h : ∀ args md d, R args md d → Fn C j f false args md d) : Def C x j R :=
  ⟨f, hg, (let ⟨o, h1, h2⟩ := X.at_; ⟨o, fd, h1, h2⟩), h⟩
end Mine

namespace Mine
open PySem PySem.W PyProof.Rows

section
variable {C : Cx} {k : Nat} {env : Env} {own : List Str} {ρ : DEnv} {e t : Expr} {md : Bool} {pos npos cpos : Pos} {x : Str} {scope : Scope} {cl : List (Str × Addr)} {elt : Expr} {tpos spos py : Pos} {y : Str} {body rest : List Stmt} {P : Out → Prop} {b : Bool}

theorem Ex.ifSkip (ht : Tst C k env own ρ t b) (hb : b = false) (h : Ex C k env own ρ rest P) : Ex C k env own ρ (.If t body [] pos :: rest) P :=
  Ex.if_ ht (fun q => absurd (hb.symm.trans q) (by decide)) (fun _ => h)
end

theorem fmod_nonneg (a : Int) {b : Int} (h : 0 < b) : 0 ≤ a.fmod b := Int.fmod_nonneg_of_pos a h
theorem fmod_lt (a : Int) {b : Int} (h : 0 < b) : a.fmod b < b := Int.fmod_lt_of_pos a h
end Mine

namespace Mine
open PySem PySem.W PyProof.Rows

/-- plain data, n deep at most -/
structure Gd (n : Nat) (d : PyData) : Prop where
  lay : d.canLay0 = true
  deep : d.depth ≤ n
structure Gds (n : Nat) (ds : List PyData) : Prop where
  all : ∀ d ∈ ds, Gd n d
theorem Gd.bool {n : Nat} {b : Bool} : Gd n (.bool b) := ⟨rfl, Nat.zero_le _⟩
theorem Gd.int {n : Nat} {i : Int} : Gd n (.int i) := ⟨rfl, Nat.zero_le _⟩
theorem Gd.str {n : Nat} {x : Str} (h : PyData.strOk x = true) : Gd n (.str x) := ⟨by rw [PyData.canLay0]; exact h, Nat.zero_le _⟩
theorem Gds.lay {n : Nat} : ∀ {ds : List PyData}, Gds n ds → PyData.canLayAll0 ds = true
  | [], _ => rfl
  | d :: ds, h => by rw [PyData.canLayAll0, (h.all d (.head _)).lay, Gds.lay ⟨fun e he => h.all e (.tail _ he)⟩]; rfl
theorem Gds.deep {n : Nat} : ∀ {ds : List PyData}, Gds n ds → PyData.depthAll ds ≤ n
  | [], _ => Nat.zero_le _
  | d :: ds, h => by rw [PyData.depthAll]; exact Nat.max_le.mpr ⟨(h.all d (.head _)).deep, Gds.deep ⟨fun e he => h.all e (.tail _ he)⟩⟩
theorem Gd.list {n : Nat} {ds : List PyData} (h : Gds n ds) : Gd (n + 1) (.list ds) := ⟨by rw [PyData.canLay0]; exact h.lay, by rw [PyData.depth]; exact Nat.succ_le_succ h.deep⟩
theorem Gd.tuple {n : Nat} {ds : List PyData} (h : Gds n ds) : Gd (n + 1) (.tuple ds) := ⟨by rw [PyData.canLay0]; exact h.lay, by rw [PyData.depth]; exact Nat.succ_le_succ h.deep⟩
theorem Gds.nil {n : Nat} : Gds n [] := ⟨fun _ h => nomatch h⟩
theorem Gds.cons {n : Nat} {d : PyData} {ds : List PyData} (h : Gd n d) (t : Gds n ds) : Gds n (d :: ds) := ⟨fun e he => by
  rcases List.mem_cons.mp he with q | q
  · exact q ▸ h
  · exact t.all e q⟩
theorem Gds.ints {n : Nat} {xs : List Int} : Gds n (xs.map .int) := ⟨fun e he => by
  obtain ⟨i, _, q⟩ := List.mem_map.mp he
  exact q ▸ Gd.int⟩
theorem Gds.map {α : Type} {n : Nat} {xs : List α} {g : α → PyData} (h : ∀ x, Gd n (g x)) : Gds n (xs.map g) := ⟨fun e he => by
  obtain ⟨i, _, q⟩ := List.mem_map.mp he
  exact q ▸ h i⟩
theorem Gd.shaped {n : Nat} {d : PyData} (h : Gd n d) (hn : n ≤ 64) : SeqAt.shaped d = true := by
  unfold SeqAt.shaped
  rw [h.lay, decide_eq_true (Nat.le_trans h.deep hn)]
  rfl
theorem Gd.self {n : Nat} {d : PyData} (h : Gd n d) : PyData.eqv d d = true := SeqAt.eqv_refl d h.lay
theorem Gd.mono {n m : Nat} {d : PyData} (h : Gd n d) (hm : n ≤ m) : Gd m d := ⟨h.lay, Nat.le_trans h.deep hm⟩

section
variable {C : Cx} {k : Nat} {env : Env} {own : List Str} {ρ : DEnv} {l r : Expr} {d₁ d₂ : PyData}
theorem Cmp.neG (hl : EvB C k env own ρ l false d₁) (hr : EvB C k env own ρ r false d₂) (h1 : Gd 20 d₁) (h2 : Gd 20 d₂) : Cmp C k env own ρ l .NotEq r (!PyData.eqv d₁ d₂) := Cmp.neD hl hr (h1.shaped (by decide)) (h2.shaped (by decide))
end
end Mine

namespace Mine
open PySem PySem.W PyProof.Rows

abbrev fdOf (d : DefRec) (pm code doc dV kV : Value) : FuncData := { Calls.docDef d.name d.params d.body d.scope pm code doc with defaults := dV, kwdefaults := kV }

def bisB (p : Program) (loose : List Str) : Bool := (["len", "abs", "min", "max", "list", "tuple", "range", "type", "int", "bool", "all", "sum", "isinstance"] : List Str).all fun x =>
  !startupNames.contains x && !loose.contains x && !((recsOf p).map (·.name)).contains x && !((litsOf p).map (·.1)).contains x && !((clssOf p loose).map (·.name)).contains x
theorem bis_of {p : Program} {loose : List Str} {mean : ExcName → Option Value} {mg mb : Str → Option Value} {h : Heap} (T : Top p loose mean mg mb h) (hb : bisB p loose = true) {C : Cx} (e : C.mg = mg) : Bis C := by
  have key : ∀ x ∈ (["len", "abs", "min", "max", "list", "tuple", "range", "type", "int", "bool", "all", "sum", "isinstance"] : List Str), C.mg x = none := fun x hx => by
    have h := List.all_eq_true.mp hb x hx
    simp only [Bool.and_eq_true, Bool.not_eq_true', List.contains_eq_mem, decide_eq_false_iff_not] at h
    obtain ⟨⟨⟨⟨h1, h2⟩, h3⟩, h4⟩, h5⟩ := h
    rw [e]
    exact T.free x h1 h2 h3 h4 h5
  constructor <;> exact key _ (by simp)

theorem bits_of {ns : List Int} (h : (PyData.list (ns.map .int)).layable0 = true) : ∀ n ∈ ns, Builtin.Int.intBits n ≤ 1048576 := fun n hn => PyData.bits_item_of_ints h hn

/-- the script's object, as it lies -/
theorem lst_of {h : Heap} {a : Addr} {vs : List Value} {w : Params} {ds : List PyData} (hL : h.IsList a vs.toArray) (hw : Well w h (.ref a) (ofPy (.list ds))) : ∃ n, h.get? a = some (lst vs n) := by
  obtain ⟨o, ho, hc, n, hd⟩ := hL
  rw [ofPy] at hw
  cases hw with
  | list g _ =>
    rw [g] at ho
    cases ho
    simp only [Data.seq.injEq] at hd
    exact ⟨0, by rw [g, hd.1]⟩
end Mine

namespace Mine
open PySem PySem.W PyProof.Rows
theorem rangeD_at {n : Int} {i : Nat} {d : PyData} (hd : (rangeD n)[i]? = some d) : (i : Int) < n ∧ d = .int (i : Int) := by
  have hi : i < n.toNat := by
    rcases Nat.lt_or_ge i n.toNat with h | h
    · exact h
    · rw [List.getElem?_eq_none (by rw [rangeD_length]; exact h)] at hd; cases hd
  rw [rangeD, List.getElem?_map, List.getElem?_range hi] at hd
  cases hd
  exact ⟨by omega, rfl⟩
section
variable {C : Cx} {k : Nat} {env : Env} {own : List Str} {ρ : DEnv} {rest body : List Stmt} {P : Out → Prop} {iter : Expr} {pos tpos : Pos} {x : Str}
/-- for x in range(n) -/
theorem Ex.forN {n : Int} (hi : EvI C k env own ρ iter false (rangeD n)) (O : List Str) (Γ : Nat → DCtx) (h0 : own = O) (h0' : All ρ (Γ 0)) (hx : storable env x = true) (ho : less O x = O)
    (turn : ∀ i : Nat, (i : Int) < n → Ex C k env O (upd (mk (Γ i)) x false (.int (i : Int))) body (NxR O (Γ (i + 1)) P))
    (done : Ex C k env O (mk (Γ n.toNat)) rest P)
    (hs : ∀ x, foldedSetIterable iter env x = pure x) (hnl : noLent O = true := by rfl) : Ex C k env own ρ (.For (.Name x tpos) iter body [] pos :: rest) P := by
  refine Ex.forR (md := false) hi (fun _ => O) Γ h0 h0' (fun i d hi hd => ?_) (by rw [rangeD_length]; exact done) hs (fun _ => hnl)
  obtain ⟨h1, e⟩ := rangeD_at hd
  subst e
  refine ⟨_, _, Asg.name hx, ?_⟩
  rw [ho]
  exact turn i h1
end
end Mine

namespace Mine
open PySem PySem.W PyProof.Rows

section
variable {C : Cx} {k : Nat} {env : Env} {own : List Str} {ρ : DEnv} {e e' l r t : Expr} {es : List Expr} {md md' : Bool} {d : PyData} {ds ds' items : List PyData} {ns : List Int} {pos npos cpos tpos p : Pos} {i j : Int} {f : Addr} {x : Str} {rest body : List Stmt} {P : Out → Prop} {iter : Expr}

/-- for x in a list of things -/
theorem Ex.forM {α : Type} {xs : List α} {g : α → PyData} {mdi : Bool} (hi : EvI C k env own ρ iter mdi (xs.map g)) (O : List Str) (Γ : Nat → DCtx) (h0 : own = O) (h0' : All ρ (Γ 0)) (hx : storable env x = true) (ho : less O x = O)
    (turn : ∀ (i : Nat) (h : i < xs.length), Ex C k env O (upd (mk (Γ i)) x mdi (g xs[i])) body (NxR O (Γ (i + 1)) P))
    (done : Ex C k env O (mk (Γ xs.length)) rest P)
    (hs : ∀ x, foldedSetIterable iter env x = pure x) (hnl : noLent O = true := by rfl) : Ex C k env own ρ (.For (.Name x tpos) iter body [] pos :: rest) P := by
  refine Ex.forR (md := mdi) hi (fun _ => O) Γ h0 h0' (fun i d hi hd => ?_) (by rw [List.length_map]; exact done) hs (fun _ => hnl)
  rw [List.length_map] at hi
  rw [List.getElem?_map, List.getElem?_eq_getElem hi] at hd
  cases hd
  refine ⟨_, _, Asg.name hx, ?_⟩
  rw [ho]
  exact turn i hi

theorem Ev.ifexpI {b : Bool} {i j : Int} (h : Tst C k env own ρ t b) (h1 : Ev C k env own ρ e false (.int i)) (h2 : Ev C k env own ρ e' false (.int j)) : Ev C k env own ρ (.IfExp t e e' pos) md (.int (if b = true then i else j)) := by
  have := Ev.ifexp (md := false) (pos := pos) h (fun _ => h1) (fun _ => h2)
  cases b <;> exact EvB.at (md' := false) this.b rfl
theorem Tst.and2 {b b' : Bool} (h : Tst C k env own ρ e b) (h' : Tst C k env own ρ e' b') : Tst C k env own ρ (.BoolOp .And [e, e'] pos) (b && b') := by
  have := Tst.and_cons (pos := pos) h fun _ => Tst.and_cons h' fun _ => Tst.and_nil
  rwa [Bool.and_true] at this
theorem Tst.or2 {b b' : Bool} (h : Tst C k env own ρ e b) (h' : Tst C k env own ρ e' b') : Tst C k env own ρ (.BoolOp .Or [e, e'] pos) (b || b') := by
  have := Tst.or_cons (pos := pos) h fun _ => Tst.or_cons h' fun _ => Tst.or_nil
  rwa [Bool.or_false] at this

/-- l[:i], l[i:] -/
theorem EvF.upto (hl : EvB C k env own ρ l md (.list ds)) (hi : EvB C k env own ρ e false (.int i)) (h0 : 0 ≤ i) (hz : Sz ds.length) : EvF C k env own ρ (.Subscript l (.Slice none (some e) none p) pos) md (ds.take i.toNat) := by
  have := EvF.slice (p := p) (pos := pos) (lower := none) (upper := some e) (lo := none) (hi := some i) hl trivial hi hz.out
  have q : slD ds none (some i) = ds.take i.toNat := by
    have e1 : slB ds.length (some i) = min i.toNat ds.length := by simp only [slB, if_neg (show ¬ i < 0 by omega)]; omega
    unfold slD
    rw [e1, show slA ds.length none = 0 from rfl, List.drop_zero, Nat.sub_zero, ← List.take_take, List.take_length]
  rwa [q] at this
theorem EvF.frm (hl : EvB C k env own ρ l md (.list ds)) (hi : EvB C k env own ρ e false (.int i)) (h0 : 0 ≤ i) (hz : Sz ds.length) : EvF C k env own ρ (.Subscript l (.Slice (some e) none none p) pos) md (ds.drop i.toNat) := by
  have := EvF.slice (p := p) (pos := pos) (lower := some e) (upper := none) (lo := some i) (hi := none) hl hi trivial hz.out
  have q : slD ds (some i) none = ds.drop i.toNat := by
    have e1 : slA ds.length (some i) = min i.toNat ds.length := by simp only [slA, if_neg (show ¬ i < 0 by omega)]; omega
    unfold slD
    rw [e1, show slB ds.length none = ds.length from rfl, List.take_of_length_le (by rw [List.length_drop]; exact Nat.le_refl _)]
    rcases Nat.le_total i.toNat ds.length with h | h
    · rw [Nat.min_eq_left h]
    · rw [Nat.min_eq_right h, List.drop_length, List.drop_eq_nil_of_le h]
  rwa [q] at this
theorem EvF.uptoI (hl : EvB C k env own ρ l false (.list (ns.map .int))) (hi : EvB C k env own ρ e false (.int i)) (h0 : 0 ≤ i) (hz : Sz ns.length) : EvF C k env own ρ (.Subscript l (.Slice none (some e) none p) pos) false ((ns.take i.toNat).map .int) := by
  have := EvF.upto (p := p) (pos := pos) hl hi h0 ⟨by rw [List.length_map]; exact hz.out⟩
  rwa [← List.map_take] at this
theorem Ev.itemM {α : Type} {xs : List α} {g : α → PyData} (dflt : α) {slice : Expr} (hl : EvB C k env own ρ l md (.list (xs.map g))) (hi : EvB C k env own ρ slice false (.int i)) (h0 : 0 ≤ i ∧ i < xs.length) (hz : Sz xs.length) (hs : ∀ o i, ∃ vs, subscripted slice false o i = operate vs (getItem o i)) :
    Ev C k env own ρ (.Subscript l slice pos) md (g (xs.getD i.toNat dflt)) := Ev.item hl hi h0.1 (by
      rw [List.getElem?_map, List.getD, List.getElem?_eq_getElem (by omega)]; rfl) (by rw [List.length_map]; exact hz.out) hs

theorem seqIndex_pos {i : Int} {n : Nat} (h : 0 ≤ i ∧ i < n) : seqIndex? i n = some i.toNat := by
  unfold seqIndex?
  simp only [if_neg (show ¬ i < 0 by omega)]
  rw [if_pos (by simp; omega)]
end
end Mine

namespace Mine
open PySem PySem.W PyProof.Rows
section
variable {C : Cx} {k : Nat} {env : Env} {own : List Str} {ρ : DEnv} {md : Bool} {pos npos : Pos} {i : Int} {x : Str} {ss : List Str} {slice : Expr}
end
end Mine

namespace Mine
open PySem PySem.W PyProof.Rows

section
variable {C : Cx} {k : Nat} {env : Env} {own : List Str} {ρ : DEnv} {elt it1 it2 t1 t2 : Expr} {ifs : List Expr} {scope : Scope} {pos : Pos} {md mdi : Bool} {items : List PyData} {cl : List (Str × Addr)} {fv : List Str}

theorem comp_cur {A ok W} {s : Shared} {h : Heap} {tk : Nat} {D L : Addr} {m : Str → Option Value} {bs : List (Str × PyData)} {vs : List Value} {n : Nat}
    (c : Cur C k A ok W own env ρ s) (uS : Up s.heap h) (frD : s.heap.get? D = none) (hD : h.get? D = some (lst vs n)) (hn : h.Ns L m) (hkind : scope.kind = .function) (hfv : FvOk env scope cl fv)
    (hbs : (bs.all fun q => (relabel scope env).names.lookup q.1 == some .local && !own.contains q.1) = true)
    (hm : ∀ y d, bs.lookup y = some d → ∃ v, m y = some v ∧ Rep (fun b => okW ok W mdi b ∧ b ≠ D) h d v) :
    Cur C k A (fun m a => ok m a ∧ a ≠ D) W own (compEnvC scope cl L env) (compR bs mdi fv ρ) { s with heap := h, toks := tk } := by
  have hbs' := List.all_eq_true.mp hbs
  refine { room := c.room, top := c.top, eok := ⟨hkind, c.eok.glob, c.eok.bi⟩, up := c.up.trans uS, new := fun m a e => ⟨c.new m a (uS.none e), fun q => ?_⟩, le := fun a z => ⟨c.le a z.1, z.2⟩, inj := c.inj, own := fun x a e => ⟨(c.own x a e).1, fun q => (c.own x a e).2.1 (uS.none q), (c.own x a e).2.2, fun q => (c.own x a e).2.1 (q ▸ frD)⟩, has := fun y my dy e => ?_ }
  · have e : h.get? a = none := e
    rw [q, hD] at e; cases e
  · unfold compR at e
    cases hl : bs.lookup y with
    | some d' =>
      rw [hl] at e; cases e
      obtain ⟨vx, e1, e2⟩ := hm y dy hl
      obtain ⟨q, hq, eq⟩ := lookup_mem hl
      have hb := hbs' q hq
      simp only [Bool.and_eq_true, beq_iff_eq, Bool.not_eq_true'] at hb
      refine ⟨vx, .inl ⟨by rw [← eq]; exact hb.1, m, hn, e1⟩, ?_⟩
      have hW : W y = none := by
        cases hw : W y with
        | none => rfl
        | some a =>
          have := (c.own y a hw).1
          rw [← List.contains_iff_mem, ← eq, hb.2] at this
          cases this
      unfold Holds1
      rw [hW]
      exact e2.imp fun b o => ⟨⟨o.1.1, o.2⟩, o.1.2⟩
    | none =>
      rw [hl] at e
      dsimp only at e
      split at e
      · rename_i hc
        have hyf : y ∈ fv := by simpa using hc
        obtain ⟨q1, q2, q3⟩ := hfv.mem hyf
        obtain ⟨v', lk, z⟩ := c.has y my dy e
        refine ⟨v', ?_, ?_⟩
        · rcases lk with ⟨kl, _⟩ | ⟨kc, cc, ec, ic⟩
          · rw [kl] at q2; cases q2
          · refine .inr ⟨?_, cc, by show cl.lookup y = _; rw [q3]; exact ec, ic.keeps uS⟩
            rcases Bool.or_eq_true_iff.mp q1 with q | q
            · exact .inl (eq_of_beq q)
            · exact .inr (eq_of_beq q)
        · have av : ∀ {m : Bool} {b : Addr}, okW ok W m b ∧ s.heap.get? b ≠ none → okW (fun m a => ok m a ∧ a ≠ D) W m b := fun z => ⟨⟨z.1.1, fun q => z.2 (q ▸ frD)⟩, z.1.2⟩
          unfold Holds1 at z ⊢
          split at z
          · exact (z.there.imp fun b z => av z).up uS
          · obtain ⟨e1, ds', vs', n', e2, g, r⟩ := z
            exact ⟨e1, ds', vs', n', e2, uS _ _ g, (r.there.imp fun b z => av z).up uS⟩
      · cases e

abbrev comp2 (elt t1 it1 t2 it2 : Expr) (ifs : List Expr) (scope : Scope) (pos : Pos) : Expr := .ListComp elt [⟨t1, it1, [], 0⟩, ⟨t2, it2, ifs, 0⟩] scope pos

theorem compTurn_2a (it acc : Value) (cenv : Env) :
    compTurn (comp2 elt t1 it1 t2 it2 ifs scope pos) 0 it acc cenv = (do
      standAt it1.pos
      match ← pyNext it with
      | none => pure (.done .next)
      | some v =>
        letOwnedTupleGo t1 it v
        assign t1 cenv v
        let x ← eval it2 cenv
        standAt it2.pos
        let x ← foldedSetIterable it2 cenv x
        let _ ← runOwn (.compStart (comp2 elt t1 it1 t2 it2 ifs scope pos) 1 (← holding [x] (pyIter x)) acc cenv) cenv
        again (.compLoop (comp2 elt t1 it1 t2 it2 ifs scope pos) 0 it acc cenv)) := by rfl
theorem compTurn_2b (it acc : Value) (cenv : Env) :
    compTurn (comp2 elt t1 it1 t2 it2 ifs scope pos) 1 it acc cenv = (do
      standAt it2.pos
      match ← pyNext it with
      | none => pure (.done .next)
      | some v =>
        letOwnedTupleGo t2 it v
        assign t2 cenv v
        let mut ok := true
        for c in ifs do
          if ok then ok ← isTrue c cenv (eval c cenv)
        if ok then
          (do let _ ← call (.builtin "list.append") [acc, ← eval elt cenv])
        again (.compLoop (comp2 elt t1 it1 t2 it2 ifs scope pos) 1 it acc cenv)) := by rfl

theorem compLoop_2b {A : Around} {R : Result → Shared → Prop} {I : Addr} {acc : Value} {cenv : Env} {s : Shared} (Iv : Nat → Shared → Prop)
    (turn : ∀ n s, Iv n s → wpAny (model C.prog C.w) A (pyNext (.ref I)) (fun r s₁ => match r with
      | none => R (.ok .next) s₁
      | some v => wpAny (model C.prog C.w) A (letOwnedTupleGo t2 (.ref I) v) (fun _ s₂ => wpAny (model C.prog C.w) A (assign t2 cenv v) (fun _ s₃ =>
          wpAny (model C.prog C.w) A (forIn ifs true fun c r => if r = true then do let ok ← isTrue c cenv (eval c cenv); pure (ForInStep.yield ok) else pure (ForInStep.yield r)) (fun ok s₄ =>
            if ok = true then wpAny (model C.prog C.w) A (eval elt cenv) (fun x s₅ => wpAny (model C.prog C.w) A (call (.builtin "list.append") [acc, x]) (fun _ s₆ => ∃ m, m < n ∧ Iv m s₆) (notedBy (model C.prog C.w) A cenv fun e s' => R (.error e) s') s₅) (notedBy (model C.prog C.w) A cenv fun e s' => R (.error e) s') s₄
            else ∃ m, m < n ∧ Iv m s₄) (notedBy (model C.prog C.w) A cenv fun e s' => R (.error e) s') s₃) (notedBy (model C.prog C.w) A cenv fun e s' => R (.error e) s') s₂) (notedBy (model C.prog C.w) A cenv fun e s' => R (.error e) s') s₁)
      (notedBy (model C.prog C.w) A cenv fun e s' => R (.error e) s') s)
    (n : Nat) (h : Iv n s) : codeAny (model C.prog C.w) A (.compLoop (comp2 elt t1 it1 t2 it2 ifs scope pos) 1 (.ref I) acc cenv) R s := by
  refine codeAny_loop rfl Iv (fun n s hI => ?_) n h
  show wpAny _ A ((compTurn (comp2 elt t1 it1 t2 it2 ifs scope pos) 1 (.ref I) acc cenv).onRaise (fun x => do noteFrame x cenv; theTreesLotGoes x)) _ _ s
  refine wpAny_noted ?_
  rw [compTurn_2b]
  refine wpAny_bind (wpAny_standAt (wpAny_bind (wpAny_mono (turn n s hI) (fun r s₁ h₁ => ?_) fun _ _ h' => h')))
  cases r with
  | none => exact wpAny_pure h₁
  | some v =>
    refine wpAny_bind (wpAny_mono h₁ (fun _ s₂ h₂ => wpAny_bind (wpAny_mono h₂ (fun _ s₃ h₃ => wpAny_bind (wpAny_mono h₃ (fun ok s₄ h₄ => ?_) fun _ _ h' => h')) fun _ _ h' => h')) fun _ _ h' => h')
    cases ok with
    | false => exact wpAny_pure ⟨rfl, h₄⟩
    | true => exact wpAny_bind (wpAny_bind (wpAny_mono h₄ (fun x s₅ h₅ => wpAny_bind (wpAny_mono h₅ (fun _ s₆ h₆ => wpAny_pure (wpAny_pure ⟨rfl, h₆⟩)) fun _ _ h' => h')) fun _ _ h' => h'))

theorem compLoop_2a {A : Around} {R : Result → Shared → Prop} {I : Addr} {acc : Value} {cenv : Env} {s : Shared} (Iv : Nat → Shared → Prop) (hs2 : ∀ x, foldedSetIterable it2 cenv x = pure x)
    (turn : ∀ n s, Iv n s → wpAny (model C.prog C.w) A (pyNext (.ref I)) (fun r s₁ => match r with
      | none => R (.ok .next) s₁
      | some v => wpAny (model C.prog C.w) A (letOwnedTupleGo t1 (.ref I) v) (fun _ s₂ => wpAny (model C.prog C.w) A (assign t1 cenv v) (fun _ s₃ =>
          wpAny (model C.prog C.w) A (eval it2 cenv) (fun x s₄ => wpAny (model C.prog C.w) A (pyIter x) (fun it' s₅ =>
            codeAny (model C.prog C.w) A (.compStart (comp2 elt t1 it1 t2 it2 ifs scope pos) 1 it' acc cenv) (fun r s₆ => match r with | .ok f => ∃ m, m < n ∧ Iv m s₆ | .error e => cameBackBy (model C.prog C.w) A cenv (notedBy (model C.prog C.w) A cenv fun e s' => R (.error e) s') e s₆) s₅)
            (notedBy (model C.prog C.w) A cenv fun e s' => R (.error e) s') s₄) (notedBy (model C.prog C.w) A cenv fun e s' => R (.error e) s') s₃) (notedBy (model C.prog C.w) A cenv fun e s' => R (.error e) s') s₂) (notedBy (model C.prog C.w) A cenv fun e s' => R (.error e) s') s₁)
      (notedBy (model C.prog C.w) A cenv fun e s' => R (.error e) s') s)
    (n : Nat) (h : Iv n s) : codeAny (model C.prog C.w) A (.compLoop (comp2 elt t1 it1 t2 it2 ifs scope pos) 0 (.ref I) acc cenv) R s := by
  refine codeAny_loop rfl Iv (fun n s hI => ?_) n h
  show wpAny _ A ((compTurn (comp2 elt t1 it1 t2 it2 ifs scope pos) 0 (.ref I) acc cenv).onRaise (fun x => do noteFrame x cenv; theTreesLotGoes x)) _ _ s
  refine wpAny_noted ?_
  rw [compTurn_2a]
  refine wpAny_bind (wpAny_standAt (wpAny_bind (wpAny_mono (turn n s hI) (fun r s₁ h₁ => ?_) fun _ _ h' => h')))
  cases r with
  | none => exact wpAny_pure h₁
  | some v =>
    refine wpAny_bind (wpAny_mono h₁ (fun _ s₂ h₂ => wpAny_bind (wpAny_mono h₂ (fun _ s₃ h₃ => wpAny_bind (wpAny_mono h₃ (fun x s₄ h₄ => ?_) fun _ _ h' => h')) fun _ _ h' => h')) fun _ _ h' => h')
    refine wpAny_bind (wpAny_standAt (wpAny_bind (wpAny_of_eq (hs2 x) ?_)))
    refine wpAny_bind (wpAny_holding (wpAny_mono h₄ (fun it' s₅ h₅ => wpAny_bind (wpAny_runOwn (codeAny_mono h₅ fun r s₆ h₆ => ?_))) fun _ _ h' => h'))
    cases r with
    | ok f => exact wpAny_pure ⟨rfl, h₆⟩
    | error e => exact h₆

theorem compStart_2b {A : Around} {R : Result → Shared → Prop} {it acc : Value} {cenv : Env} {s : Shared}
    (h0 : codeAny (model C.prog C.w) A (.compLoop (comp2 elt t1 it1 t2 it2 ifs scope pos) 1 it acc cenv) R s)
    (h : wpAny (model C.prog C.w) A (pyIter it) (fun it' s' => codeAny (model C.prog C.w) A (.compLoop (comp2 elt t1 it1 t2 it2 ifs scope pos) 1 it' acc cenv) R s') (notedBy (model C.prog C.w) A cenv fun x s' => R (.error x) s') s) :
    codeAny (model C.prog C.w) A (.compStart (comp2 elt t1 it1 t2 it2 ifs scope pos) 1 it acc cenv) R s := by
  refine codeAny_of_tree ?_
  show wpAny _ _ ((compStart (comp2 elt t1 it1 t2 it2 ifs scope pos) 1 it acc cenv).onRaise (fun x => do noteFrame x cenv; standAt theWindowsPlace)) _ _ s
  refine wpAny_notedAt ?_
  unfold compStart
  show wpAny _ _ (ask >>= _) _ _ s
  refine wpAny_bind (wpAny_askSetting (wpAny_ite ?_))
  split
  · first
      | exact wpAny_bind (wpAny_pure (wpAny_pure (And.intro rfl h0)))
      | exact wpAny_pure (And.intro rfl h0)
  · first
      | exact wpAny_bind (wpAny_rule (wpAny_bind (wpAny_standAt (wpAny_bind (wpAny_mono h (fun it' s' h' => wpAny_pure (And.intro rfl h')) fun _ _ x => x)))))
      | (refine wpAny_bind (wpAny_rule ?_); show wpAny _ _ (standAt it2.pos >>= _) _ _ s; exact wpAny_bind (wpAny_standAt (wpAny_bind (wpAny_mono h (fun it' s' h' => wpAny_pure (And.intro rfl h')) fun _ _ x => x))))
end
end Mine

namespace Mine
open PySem PySem.W PyProof.Rows

theorem flatMap_len {α β : Type} {g : α → List β} {M : Nat} : ∀ (xs : List α), (∀ x ∈ xs, (g x).length ≤ M) → (xs.flatMap g).length ≤ xs.length * M
  | [], _ => Nat.zero_le _
  | x :: xs, h => by
    rw [List.flatMap_cons, List.length_append, List.length_cons, Nat.succ_mul]
    have h1 := h x (.head _)
    have h2 := flatMap_len xs fun y hy => h y (.tail _ hy)
    omega

section
variable {C : Cx} {k : Nat} {env : Env} {own : List Str} {ρ : DEnv} {elt it1 it2 : Expr} {ifs : List Expr} {scope : Scope} {pos p1 p2 : Pos} {md mdi : Bool} {items : List PyData} {cl : List (Str × Addr)} {fv : List Str} {x1 x2 : Str}

theorem comp2_core {A ok W} {s : Shared} {hp : Heap} {tkp : Nat} {E : Value → Shared → Prop} {I : Addr} {fp : List Addr} {Pv : Nat → Value → Prop} {St : Nat → Heap → Prop} {F : (Str → Option Addr) → Heap → Prop} {items2 : PyData → List PyData} {p : PyData → PyData → Bool} {f : PyData → PyData → PyData} {M : Nat}
    (c : Cur C k A ok W own env ρ s) (u : Up s.heap hp) (frI : s.heap.get? I = none) (X : Source C A ok mdi items I fp Pv St F) (F0 : F W hp) (st0 : St 0 hp) (hM : ∀ d ∈ items, (items2 d).length ≤ M) (hN : items.length * M ≤ 1000000) (hM' : M ≤ 1000000)
    (hstep : ∀ d ∈ items, ∀ L, EvI C k (compEnvC scope cl L env) own (compR [(x1, d)] mdi fv ρ) it2 mdi (items2 d) ∧ ∀ d2 ∈ items2 d, Tsts C k (compEnvC scope cl L env) own (compR [(x2, d2), (x1, d)] mdi fv ρ) ifs (p d d2) ∧
      (p d d2 = true → Ev C k (compEnvC scope cl L env) own (compR [(x2, d2), (x1, d)] mdi fv ρ) elt md (f d d2)))
    (hbs : (([x1, x2] : List Str).all fun q => (relabel scope env).names.lookup q == some .local && !own.contains q) = true) (hne : x1 ≠ x2)
    (hfv : FvOk env scope cl fv) (hcell : ∀ y ∈ scope.names, y.2 ≠ .cell) (hkind : scope.kind = .function) (hs2 : ∀ L x, foldedSetIterable it2 (compEnvC scope cl L env) x = pure x) {RR : Value → Addr → Result → Shared → Prop}
    (hRR : ∀ D L vs n h' tk m', hp.get? D = none → hp.get? L = none → D ≠ L → h'.Ns L m' → (∀ b o, b ≠ I → hp.get? b = some o → h'.get? b = some o) → h'.get? D = some (lst vs n) →
      RepAll (fun b => okW ok W md b ∧ b ≠ D) h' (items.flatMap fun d => ((items2 d).filter (p d)).map (f d)) vs → RR (.ref D) L (.ok .next) { s with heap := h', toks := tk }) :
    wpAny (model C.prog C.w) A (newList []) (fun acc s₃ => wpAny (model C.prog C.w) A (newFunctionEnv scope env.globals cl [] env.qual none .none (some env)) (fun cenv s₄ =>
      codeAny (model C.prog C.w) A (.compStart (comp2 elt (.Name x1 p1) it1 (.Name x2 p2) it2 ifs scope pos) 0 (.ref I) acc { cenv with scope := relabel scope env }) (RR acc cenv.locals) s₄) E s₃) E { s with heap := hp, toks := tkp } := by
  have hb1 : (relabel scope env).names.lookup x1 = some .local ∧ x1 ∉ own := by
    have := List.all_eq_true.mp hbs x1 (.head _); simpa using this
  have hb2 : (relabel scope env).names.lookup x2 = some .local ∧ x2 ∉ own := by
    have := List.all_eq_true.mp hbs x2 (.tail _ (.head _)); simpa using this
  refine wpAny_newObj_type (wpAny_newFunctionEnv hcell (by intro y hy; simp at hy) (fun h₁ hns₁ hsb₁ => ?_) hkind)
  dsimp only at hns₁ hsb₁ ⊢
  generalize hH2 : hp.push { cls := .type "list", dict := none, data := .seq ([] : List Value).toArray } = H2 at hns₁ hsb₁ ⊢
  generalize hDe : hp.objs.size = D at *
  generalize hLe : H2.objs.size = L at *
  have hL : L = D + 1 := by rw [← hLe, ← hH2, Heap.size_push, hDe]
  have hDL : D ≠ L := by omega
  have frD : hp.get? D = none := Heap.get?_none_of_le (by omega)
  have frL : hp.get? L = none := Heap.get?_none_of_le (by omega)
  have frDs : s.heap.get? D = none := u.none frD
  have belowD : ∀ b o, hp.get? b = some o → b ≠ D := fun b o e q => by rw [q, frD] at e; cases e
  have belowL : ∀ b o, hp.get? b = some o → b ≠ L := fun b o e q => by rw [q, frL] at e; cases e
  have old : ∀ b o, hp.get? b = some o → h₁.get? b = some o := fun b o e => hsb₁.extBut b o (belowL b o e) (Heap.get?_push_of_some _ (hH2 ▸ Heap.get?_push_of_some _ e))
  have hacc : h₁.get? D = some (lst [] 0) := hsb₁.extBut D _ hDL (Heap.get?_push_of_some _ (hH2 ▸ hDe ▸ Heap.get?_push_size _ rfl))
  obtain ⟨oI, xsI, hoI, hdI, _⟩ := X.fld _ _ st0
  have hID : I ≠ D := belowD I _ hoI
  have hIL : I ≠ L := belowL I _ hoI
  have nlI : ∀ vs n, hp.get? I ≠ some (lst vs n) := fun vs n e => by rw [hoI] at e; cases e; cases hdI
  have ntI : ∀ vs n, hp.get? I ≠ some (tup vs n) := fun vs n e => by rw [hoI] at e; cases e; cases hdI
  have upS : ∀ h', (∀ b o, b ≠ I → hp.get? b = some o → h'.get? b = some o) → Up s.heap h' := fun h' hk b o e => hk b o (fun q => by rw [q, frI] at e; cases e) (u b o e)
  have loop : ∀ s₃ : Shared, s₃ = { s with heap := h₁, toks := tkp + ([] : List (Str × Value)).length } →
      codeAny (model C.prog C.w) A (.compLoop (comp2 elt (.Name x1 p1) it1 (.Name x2 p2) it2 ifs scope pos) 0 (.ref I) (.ref D) (compEnvC scope cl L env)) (RR (.ref D) L) s₃ := by
    rintro s₃ rfl
    refine compLoop_2a (fun n s' => ∃ i h' tk m' vs c', n = items.length + 1 - i ∧ i ≤ items.length ∧ s' = { s with heap := h', toks := tk } ∧ h'.Ns L m' ∧ (∀ b o, b ≠ I → hp.get? b = some o → h'.get? b = some o) ∧ St i h' ∧ h'.get? D = some (lst vs c') ∧
      RepAll (fun b => okW ok W md b ∧ b ≠ D) h' ((items.take i).flatMap fun d => ((items2 d).filter (p d)).map (f d)) vs) (hs2 L) ?_ (items.length + 1)
      ⟨0, h₁, _, _, [], 0, by omega, Nat.zero_le _, rfl, hns₁, fun b o _ e => old b o e, X.wk.frame 0 _ _ st0 fun b hb o e => old _ _ e, hacc, by simpa using RepAll.nil⟩
    rintro n s' ⟨i, h', tk, m', vs, c', rfl, hle, rfl, hn, hk, st, hD, hr⟩
    obtain ⟨oI', xsI', hoI', hdI', _⟩ := X.fld _ _ st
    have nlI' : ∀ vs n, h'.get? I ≠ some (lst vs n) := fun vs n e => by rw [hoI'] at e; cases e; cases hdI'
    have ntI' : ∀ vs n, h'.get? I ≠ some (tup vs n) := fun vs n e => by rw [hoI'] at e; cases e; cases hdI'
    by_cases hlt : i < items.length
    · refine X.wk.item i _ _ _ hlt st fun v h₂ tk₂ hP st₂ hk₂ => ?_
      have hk₂' : ∀ b o, b ≠ I → h'.get? b = some o → h₂.get? b = some o := fun b o hb e => hk₂ b o (by simpa using hb) e
      have hd : items[i]? = some items[i] := List.getElem?_eq_getElem hlt
      have hdm : items[i] ∈ items := List.getElem_mem hlt
      refine X.go (s := { s with heap := h₂, toks := tk₂ }) (i := i + 1) st₂ ?_
      have hkA : ∀ b o, b ≠ I → hp.get? b = some o → h₂.get? b = some o := fun b o hb e => hk₂' b o hb (hk b o hb e)
      have hn₂ : h₂.Ns L m' := hn.at' fun o e => hk₂' L o (Ne.symm hIL) e
      have ri : Rep (fun b => okW ok W mdi b ∧ b ≠ D) h₂ items[i] v := by
        have r0 := (X.item i v _ W hp hP hd F0).there
        refine Rep.gen (fun b vs n e o => ⟨hkA b _ (fun q => nlI vs n (q ▸ e)) e, o.1, fun q => o.2 (q ▸ frD)⟩) (fun b vs n e => hkA b _ (fun q => ntI vs n (q ▸ e)) e) r0
      generalize items[i] = d at *
      obtain ⟨hev, hin⟩ := hstep d hdm L
      refine wpAny_assign_Name (wpAny_storeName_local (env := compEnvC scope cl L env) hb1.1 hn₂ (fun h₃ hn₃ hs₃ => ?_) (by rw [show (compEnvC scope cl L env).scope.kind = .function from hkind]; rfl))
      have hn₃ : h₃.Ns L (fun y => if y = x1 then some v else m' y) := hn₃
      have hs₃ : Heap.SameBut L h₂ h₃ := hs₃
      have nlL := ns_no_lst hn₂
      have hk₃' : ∀ b o, b ≠ L → h₂.get? b = some o → h₃.get? b = some o := fun b o hb e => hs₃.extBut b o hb e
      have hkB : ∀ b o, b ≠ I → hp.get? b = some o → h₃.get? b = some o := fun b o hb e => hk₃' b o (belowL b o e) (hkA b o hb e)
      have uS := upS h₃ hkB
      have hD₃ : h₃.get? D = some (lst vs c') := hk₃' D _ hDL (hk₂' D _ (Ne.symm hID) hD)
      have ri₃ : Rep (fun b => okW ok W mdi b ∧ b ≠ D) h₃ d v := Rep.gen (fun b vs n e o => ⟨hk₃' b _ (fun q => nlL.1 vs n (q ▸ e)) e, o⟩) (fun b vs n e => hk₃' b _ (fun q => nlL.2 vs n (q ▸ e)) e) ri
      have hr₃ : RepAll (fun b => okW ok W md b ∧ b ≠ D) h₃ ((items.take i).flatMap fun d => ((items2 d).filter (p d)).map (f d)) vs := by
        refine RepAll.gen (fun b vs n e o => ⟨?_, o⟩) (fun b vs n e => ?_) hr
        · have e2 := hk₂' b _ (fun q => nlI' vs n (q ▸ e)) e
          exact hk₃' b _ (fun q => nlL.1 vs n (q ▸ e2)) e2
        · have e2 := hk₂' b _ (fun q => ntI' vs n (q ▸ e)) e
          exact hk₃' b _ (fun q => nlL.2 vs n (q ▸ e2)) e2
      have cur₃ := comp_cur (tk := tk₂ + 1) (L := L) (mdi := mdi) (bs := [(x1, d)]) (scope := scope) (cl := cl) (fv := fv) c uS frDs hD₃ hn₃ hkind hfv (by simp [hb1.1, hb1.2]) (fun y dy hy => by
        simp only [List.lookup_cons, List.lookup_nil] at hy
        cases hb : y == x1 with
        | true =>
          rw [hb] at hy; cases hy
          have : y = x1 := by simpa using hb
          subst this
          exact ⟨v, by simp, ri₃⟩
        | false => rw [hb] at hy; cases hy)
      refine hev A _ W _ _ _ cur₃ fun I2 fp2 Pv2 St2 F2 h₄ tk₄ u₄ fr2 X2 F20 st20 => ?_
      dsimp only at fr2 u₄
      obtain ⟨o2, xs2, ho2, hd2, _⟩ := X2.fld _ _ st20
      have hD₄ : h₄.get? D = some (lst vs c') := u₄ _ _ hD₃
      have hn₄ := hn₃.keeps u₄
      have h2D : I2 ≠ D := fun q => by rw [q, hD₃] at fr2; cases fr2
      have h2L : I2 ≠ L := fun q => by obtain ⟨oL, _, _, hoL, _⟩ := hn₃; rw [q, hoL] at fr2; cases fr2
      have h2I : I2 ≠ I := fun q => by
        have : h₃.get? I = none := q ▸ fr2
        obtain ⟨oo, _, hoo, _⟩ := X.fld _ _ st₂
        rw [hk₃' I _ hIL hoo] at this; cases this
      -- the outer iterator stays
      have stay : ∀ h, (∀ b o, b ≠ I2 → b ≠ D → b ≠ L → h₄.get? b = some o → h.get? b = some o) → St (i + 1) h := fun h hh => X.wk.frame _ _ _ st₂ fun b hb o e => by
        by_cases hbI : b = I
        · subst hbI; exact hh _ _ (Ne.symm h2I) hID hIL (u₄ _ _ (hk₃' _ _ hIL e))
        · obtain ⟨vs', n', g, _⟩ := X.oth b hb hbI W _ F0
          have e3 := hkB b _ hbI g
          have q2 : b ≠ I2 := fun q => by rw [q] at e3; rw [fr2] at e3; cases e3
          exact hh _ _ q2 (belowD _ _ g) (belowL _ _ g) (u₄ _ _ (hk₃' b o (belowL _ _ g) e))
      have hlen : vs.length ≤ i * M := by
        rw [hr.length]
        refine Nat.le_trans (flatMap_len _ (M := M) fun x hx => ?_) ?_
        · rw [List.length_map]; exact Nat.le_trans (List.length_filter_le _ _) (hM x (List.mem_of_mem_take hx))
        · rw [List.length_take]; exact Nat.mul_le_mul_right _ (Nat.min_le_left _ _)
      have hi1 : i * M ≤ 1000000 := Nat.le_trans (Nat.mul_le_mul_right _ (by omega)) hN
      have etake : items.take (i + 1) = items.take i ++ [d] := by rw [List.take_add_one, hd]; rfl
      have inner : ∀ s₅ : Shared, s₅ = { s with heap := h₄, toks := tk₄ } → codeAny (model C.prog C.w) A (.compLoop (comp2 elt (.Name x1 p1) it1 (.Name x2 p2) it2 ifs scope pos) 1 (.ref I2) (.ref D) (compEnvC scope cl L env)) (fun r s₆ => match r with
          | .ok f_1 => ∃ m, m < items.length + 1 - i ∧ ∃ i h' tk m' vs c', m = items.length + 1 - i ∧ i ≤ items.length ∧ s₆ = { s with heap := h', toks := tk } ∧ h'.Ns L m' ∧ (∀ b o, b ≠ I → hp.get? b = some o → h'.get? b = some o) ∧ St i h' ∧ h'.get? D = some (lst vs c') ∧
              RepAll (fun b => okW ok W md b ∧ b ≠ D) h' ((items.take i).flatMap fun d => ((items2 d).filter (p d)).map (f d)) vs
          | .error e => cameBackBy (model C.prog C.w) A (compEnvC scope cl L env) (notedBy (model C.prog C.w) A (compEnvC scope cl L env) fun e s' => RR (.ref D) L (.error e) s') e s₆) s₅ := by
        rintro s₅ rfl
        refine compLoop_2b (fun n s' => ∃ j h' tk m' ws c', n = (items2 d).length + 1 - j ∧ j ≤ (items2 d).length ∧ s' = { s with heap := h', toks := tk } ∧ h'.Ns L m' ∧ m' x1 = some v ∧ (∀ b o, b ≠ I2 → b ≠ D → b ≠ L → h₄.get? b = some o → h'.get? b = some o) ∧ St2 j h' ∧ h'.get? D = some (lst ws c') ∧
          RepAll (fun b => okW ok W md b ∧ b ≠ D) h' (((items.take i).flatMap fun d => ((items2 d).filter (p d)).map (f d)) ++ (((items2 d).take j).filter (p d)).map (f d)) ws) ?_ ((items2 d).length + 1)
          ⟨0, h₄, tk₄, _, vs, c', by omega, Nat.zero_le _, rfl, hn₄, by simp, fun b o _ _ _ e => e, st20, hD₄, by simpa using hr₃.up u₄⟩
        rintro n₂ s' ⟨j, h₅, tk₅, m₅, ws, c₅, rfl, hle2, rfl, hn₅, hx1, hk₅, st5, hD₅, hr₅⟩
        obtain ⟨o5, xs5, ho5, hd5, _⟩ := X2.fld _ _ st5
        have nl5 : ∀ vs n, h₅.get? I2 ≠ some (lst vs n) := fun vs n e => by rw [ho5] at e; cases e; cases hd5
        have nt5 : ∀ vs n, h₅.get? I2 ≠ some (tup vs n) := fun vs n e => by rw [ho5] at e; cases e; cases hd5
        -- what is old stays old
        have nl4 : ∀ vs n, h₄.get? I2 ≠ some (lst vs n) := fun vs n e => by rw [ho2] at e; cases e; cases hd2
        have nt4 : ∀ vs n, h₄.get? I2 ≠ some (tup vs n) := fun vs n e => by rw [ho2] at e; cases e; cases hd2
        have nl4L := ns_no_lst hn₄
        have ntD : ∀ vs n, h₄.get? D ≠ some (tup vs n) := fun vs' n' e => by
          rw [hD₄] at e
          exact absurd (show Value.type "list" = Value.type "tuple" from congrArg Obj.cls (Option.some.inj e)) (by decide)
        by_cases hlt2 : j < (items2 d).length
        · refine X2.wk.item j _ _ _ hlt2 st5 fun v2 h₆ tk₆ hP2 st6 hk₆ => ?_
          have hk₆' : ∀ b o, b ≠ I2 → h₅.get? b = some o → h₆.get? b = some o := fun b o hb e => hk₆ b o (by simpa using hb) e
          have he2 : (items2 d)[j]? = some (items2 d)[j] := List.getElem?_eq_getElem hlt2
          have hm2 : (items2 d)[j] ∈ items2 d := List.getElem_mem hlt2
          refine X2.go (s := { s with heap := h₆, toks := tk₆ }) (i := j + 1) st6 ?_
          have hk46 : ∀ b o, b ≠ I2 → b ≠ D → b ≠ L → h₄.get? b = some o → h₆.get? b = some o := fun b o q1 q2 q3 e => hk₆' b o q1 (hk₅ b o q1 q2 q3 e)
          have mv46 : ∀ {okp : Addr → Prop} {dd : PyData} {vv : Value}, Rep (fun b => okp b ∧ b ≠ D) h₄ dd vv → Rep (fun b => okp b ∧ b ≠ D) h₆ dd vv := fun z => Rep.gen (fun b vs n e o => ⟨hk46 b _ (fun q => nl4 vs n (q ▸ e)) o.2 (fun q => nl4L.1 vs n (q ▸ e)) e, o⟩) (fun b vs n e => hk46 b _ (fun q => nt4 vs n (q ▸ e)) (fun q => ntD vs n (q ▸ e)) (fun q => nl4L.2 vs n (q ▸ e)) e) z
          have ri2 : Rep (fun b => okW ok W mdi b ∧ b ≠ D) h₆ (items2 d)[j] v2 := mv46 ((X2.item j v2 _ W h₄ hP2 he2 F20).imp fun b z => ⟨⟨z.1.1, z.2⟩, z.1.2⟩)
          have ri1 : Rep (fun b => okW ok W mdi b ∧ b ≠ D) h₆ d v := mv46 (ri₃.up u₄)
          have etake2 : (items2 d).take (j + 1) = (items2 d).take j ++ [(items2 d)[j]] := by rw [List.take_add_one, he2]; rfl
          generalize (items2 d)[j] = d2 at *
          obtain ⟨ht, hel⟩ := hin d2 hm2
          have hn₆ : h₆.Ns L m₅ := hn₅.at' fun o e => hk₆' L o (Ne.symm h2L) e
          refine wpAny_assign_Name (wpAny_storeName_local (env := compEnvC scope cl L env) hb2.1 hn₆ (fun h₇ hn₇ hs₇ => ?_) (by rw [show (compEnvC scope cl L env).scope.kind = .function from hkind]; rfl))
          have hn₇ : h₇.Ns L (fun y => if y = x2 then some v2 else m₅ y) := hn₇
          have hs₇ : Heap.SameBut L h₆ h₇ := hs₇
          have nl6 := ns_no_lst hn₆
          have hk₇ : ∀ b o, b ≠ L → h₆.get? b = some o → h₇.get? b = some o := fun b o hb e => hs₇.extBut b o hb e
          have mv67 : ∀ {okp : Addr → Prop} {dd : PyData} {vv : Value}, Rep okp h₆ dd vv → Rep okp h₇ dd vv := fun z => Rep.gen (fun b vs n e o => ⟨hk₇ b _ (fun q => nl6.1 vs n (q ▸ e)) e, o⟩) (fun b vs n e => hk₇ b _ (fun q => nl6.2 vs n (q ▸ e)) e) z
          have hk47 : ∀ b o, b ≠ I2 → b ≠ D → b ≠ L → h₄.get? b = some o → h₇.get? b = some o := fun b o q1 q2 q3 e => hk₇ b o q3 (hk46 b o q1 q2 q3 e)
          have hD₇ : h₇.get? D = some (lst ws c₅) := hk₇ D _ hDL (hk₆' D _ (Ne.symm h2D) hD₅)
          have hr₇ : RepAll (fun b => okW ok W md b ∧ b ≠ D) h₇ (((items.take i).flatMap fun d => ((items2 d).filter (p d)).map (f d)) ++ (((items2 d).take j).filter (p d)).map (f d)) ws := by
            refine RepAll.gen (fun b vs n e o => ⟨?_, o⟩) (fun b vs n e => ?_) hr₅
            · have e2 := hk₆' b _ (fun q => nl5 vs n (q ▸ e)) e
              exact hk₇ b _ (fun q => nl6.1 vs n (q ▸ e2)) e2
            · have e2 := hk₆' b _ (fun q => nt5 vs n (q ▸ e)) e
              exact hk₇ b _ (fun q => nl6.2 vs n (q ▸ e2)) e2
          have uS₇ : Up s.heap h₇ := fun b o e => by
            have hbI : b ≠ I := fun q => by rw [q, frI] at e; cases e
            have g := u b o e
            have e3 := hkB b o hbI g
            exact hk47 b o (fun q => by rw [q, fr2] at e3; cases e3) (belowD _ _ g) (belowL _ _ g) (u₄ _ _ e3)
          have cur₇ := comp_cur (tk := tk₆ + 1) (L := L) (mdi := mdi) (bs := [(x2, d2), (x1, d)]) (scope := scope) (cl := cl) (fv := fv) c uS₇ frDs hD₇ hn₇ hkind hfv (by simp [hb1.1, hb1.2, hb2.1, hb2.2]) (fun y dy hy => by
            simp only [List.lookup_cons, List.lookup_nil] at hy
            cases hb : y == x2 with
            | true =>
              rw [hb] at hy; cases hy
              have : y = x2 := by simpa using hb
              subst this
              exact ⟨v2, by simp, mv67 ri2⟩
            | false =>
              rw [hb] at hy
              cases hb' : y == x1 with
              | true =>
                rw [hb'] at hy; cases hy
                have : y = x1 := by simpa using hb'
                subst this
                exact ⟨v, by rw [if_neg hne]; exact hx1, mv67 ri1⟩
              | false => rw [hb'] at hy; cases hy)
          have stay2 : ∀ h, (∀ b o, b ≠ L → b ≠ D → h₆.get? b = some o → h.get? b = some o) → St2 (j + 1) h := fun h hh => X2.wk.frame _ _ _ st6 fun b hb o e => by
            by_cases hbI : b = I2
            · subst hbI; exact hh _ _ h2L h2D e
            · obtain ⟨vs', n', g, z⟩ := X2.oth b hb hbI W _ F20
              exact hh _ _ (fun q => nl4L.1 vs' n' (q ▸ g)) z.1.2 e
          refine ht.run cur₇ fun h₈ tk₈ u₈ => ?_
          cases hp' : p d d2 with
          | false =>
            rw [if_neg (by simp)]
            refine ⟨(items2 d).length + 1 - (j + 1), by omega, j + 1, h₈, tk₈, _, ws, c₅, rfl, hlt2, rfl, hn₇.keeps u₈, by rw [if_neg hne]; exact hx1, fun b o q1 q2 q3 e => u₈ _ _ (hk47 b o q1 q2 q3 e), stay2 h₈ fun b o h1 h2 e => u₈ _ _ (hk₇ b o h1 e), u₈ _ _ hD₇, ?_⟩
            rw [etake2, List.filter_append, List.filter_cons, hp']
            simpa using hr₇.up u₈
          | true =>
            rw [if_pos rfl]
            refine hel hp' A _ W _ _ _ (cur₇.on u₈ tk₈) fun y h₉ tk₉ u₉ ry => ?_
            have u89 := u₈.trans u₉
            have hlen5 : ws.length ≤ 2000000 := by
              rw [hr₅.length, List.length_append, ← hr.length, List.length_map]
              have h1 := List.length_filter_le (p d) ((items2 d).take j)
              rw [List.length_take] at h1
              have h2 := hM d hdm
              omega
            refine wpAny_list_append_plain (s := { s with heap := h₉, toks := tk₉ }) ⟨c₅, u89 _ _ hD₇⟩ (fun h₁₀ pl hs => ?_) (by rw [List.size_toArray, sizeLine_eq]; omega)
            obtain ⟨c'', g''⟩ := pl
            have g'' : h₁₀.get? D = some (lst (ws ++ [y]) c'') := by rw [g'']; simp
            have k10 : ∀ b o, b ≠ D → h₇.get? b = some o → h₁₀.get? b = some o := fun b o hb e => hs.extBut b o hb (u89 _ _ e)
            refine ⟨(items2 d).length + 1 - (j + 1), by omega, j + 1, h₁₀, tk₉, _, ws ++ [y], c'', rfl, hlt2, rfl, (hn₇.keeps u89).sameBut hs (Ne.symm hDL), by rw [if_neg hne]; exact hx1, fun b o q1 q2 q3 e => k10 b o q2 (hk47 b o q1 q2 q3 e), stay2 h₁₀ fun b o h1 h2 e => k10 b o h2 (hk₇ b o h1 e), g'', ?_⟩
            rw [etake2, List.filter_append, List.filter_cons, hp', if_pos rfl, List.map_append, ← List.append_assoc]
            have ntD9 : ∀ vs' n', h₉.get? D ≠ some (tup vs' n') := fun vs' n' e => by
              rw [u89 _ _ hD₇] at e
              exact absurd (show Value.type "list" = Value.type "tuple" from congrArg Obj.cls (Option.some.inj e)) (by decide)
            have mv : ∀ {d : PyData} {v : Value}, Rep (fun b => okW ok W md b ∧ b ≠ D) h₉ d v → Rep (fun b => okW ok W md b ∧ b ≠ D) h₁₀ d v := fun z => Rep.gen (fun b vs n e o => ⟨hs.extBut b _ o.2 e, o⟩) (fun b vs' n' e => hs.extBut b _ (fun q => ntD9 vs' n' (q ▸ e)) e) z
            have mvA : ∀ {ds : List PyData} {vs : List Value}, RepAll (fun b => okW ok W md b ∧ b ≠ D) h₉ ds vs → RepAll (fun b => okW ok W md b ∧ b ≠ D) h₁₀ ds vs := fun z => RepAll.gen (fun b vs n e o => ⟨hs.extBut b _ o.2 e, o⟩) (fun b vs' n' e => hs.extBut b _ (fun q => ntD9 vs' n' (q ▸ e)) e) z
            exact (mvA (hr₇.up u89)).append (.one (mv (ry.imp fun b z => ⟨⟨z.1.1, z.2⟩, z.1.2⟩)))
        · have hin2 : j = (items2 d).length := by omega
          subst hin2
          refine X2.wk.done _ _ _ st5 fun h₆ tk₆ hk₆ => ?_
          have hk₆' : ∀ b o, b ≠ I2 → h₅.get? b = some o → h₆.get? b = some o := fun b o hb e => hk₆ b o (by simpa using hb) e
          refine ⟨items.length + 1 - (i + 1), by omega, i + 1, h₆, tk₆, m₅, ws, c₅, rfl, hlt, rfl, hn₅.at' fun o e => hk₆' L o (Ne.symm h2L) e, fun b o hb e => ?_, stay h₆ fun b o q1 q2 q3 e => hk₆' b o q1 (hk₅ b o q1 q2 q3 e), hk₆' D _ (Ne.symm h2D) hD₅, ?_⟩
          · have e3 := hkB b o hb e
            have q1 : b ≠ I2 := fun q => by rw [q, fr2] at e3; cases e3
            exact hk₆' b o q1 (hk₅ b o q1 (belowD _ _ e) (belowL _ _ e) (u₄ _ _ e3))
          · rw [List.take_length] at hr₅
            rw [etake, List.flatMap_append, List.flatMap_cons, List.flatMap_nil, List.append_nil]
            exact RepAll.gen (fun b vs n e o => ⟨hk₆' b _ (fun q => nl5 vs n (q ▸ e)) e, o⟩) (fun b vs n e => hk₆' b _ (fun q => nt5 vs n (q ▸ e)) e) hr₅
      exact compStart_2b (inner _ rfl) (X2.wk.self 0 _ _ _ st20 (inner _ rfl))
    · have hin : i = items.length := by omega
      subst hin
      refine X.wk.done _ _ _ st fun h₂ tk₂ hk₂ => ?_
      have hk₂' : ∀ b o, b ≠ I → h'.get? b = some o → h₂.get? b = some o := fun b o hb e => hk₂ b o (by simpa using hb) e
      rw [List.take_length] at hr
      exact hRR D L vs c' h₂ tk₂ m' frD frL hDL (hn.at' fun o e => hk₂' L o (Ne.symm hIL) e) (fun b o hb e => hk₂' b o hb (hk b o hb e)) (hk₂' D _ (Ne.symm hID) hD) (RepAll.gen (fun b vs n e o => ⟨hk₂' b _ (fun q => nlI' vs n (q ▸ e)) e, o⟩) (fun b vs n e => hk₂' b _ (fun q => ntI' vs n (q ▸ e)) e) hr)
  exact codeAny_compStart_list (loop _ rfl) (X.wk.self 0 _ _ _ (X.wk.frame 0 _ _ st0 fun b hb o e => old _ _ e) (loop _ rfl))

variable {x : Str} {spos py : Pos} {rest : List Stmt} {P : Out → Prop}
/-- x = [elt for x1 in it1 for x2 in it2 if ..], on one line -/
theorem Ex.assignComp2 {items2 : PyData → List PyData} {p : PyData → PyData → Bool} {f : PyData → PyData → PyData} (M : Nat) (hi : EvI C k env own ρ it1 mdi items) (hM : ∀ d ∈ items, (items2 d).length ≤ M) (hN : items.length * M ≤ 1000000) (hM' : M ≤ 1000000) (hclos : closureFor scope env = pure cl)
    (hS : compB env scope cl (freeOf scope) own [x1, x2] = true) (hfl : (freeOf scope).map (fun y => cl.lookup y) = (freeOf scope).map (fun y => env.cells.lookup y))
    (hstep : ∀ d ∈ items, ∀ L, EvI C k (compEnvC scope cl L env) own (compR [(x1, d)] mdi (freeOf scope) ρ) it2 mdi (items2 d) ∧ ∀ d2 ∈ items2 d, Tsts C k (compEnvC scope cl L env) own (compR [(x2, d2), (x1, d)] mdi (freeOf scope) ρ) ifs (p d d2) ∧
      (p d d2 = true → Ev C k (compEnvC scope cl L env) own (compR [(x2, d2), (x1, d)] mdi (freeOf scope) ρ) elt md (f d d2)))
    (h : Ex C k env (x :: less own x) (upd ρ x md (.list (items.flatMap fun d => ((items2 d).filter (p d)).map (f d)))) rest P) (hne : x1 ≠ x2) (hs2 : ∀ L x, foldedSetIterable it2 (compEnvC scope cl L env) x = pure x)
    (hx : storable env x = true) (hsw : swapsWith (comp2 elt (.Name x1 p1) it1 (.Name x2 p2) it2 ifs scope pos) (some (.Name x py)) spos.line env = pure true) (hs : ∀ x, foldedSetIterable it1 env x = pure x) :
    Ex C k env own ρ (.Assign [.Name x py] (comp2 elt (.Name x1 p1) it1 (.Name x2 p2) it2 ifs scope pos) spos :: rest) P := by
  have S := compS hS hfl
  refine Ex.plain (fun A hN' ok s₀ Kp W s Q E St q => ?_) h
  rw [exec_Assign_Name_used _ _ _ _ hsw]
  refine wpAny_bind (wpAny_standAt (wpAny_bind ?_))
  show wpAny _ A (do let _ ← comprehension (comp2 elt (.Name x1 p1) it1 (.Name x2 p2) it2 ifs scope pos) scope env _ (newList []) false (eval it1 env) (some (PySem.assign (.Name x py) env))) _ _ s
  refine wpAny_bind (wpAny_mono (wpAny_comprehension_free (use := some (PySem.assign (.Name x py) env)) (Q := fun _ s' => Q .next s') rfl hs hclos S.kind S.names (hi A ok W s _ E St.cur fun I fp Pv Stt F h' tk u fr X F0 st0 => ?_)) (fun _ s' hq => wpAny_pure (wpAny_pure hq)) fun _ _ e => e)
  exact comp2_core (RR := fun acc L => compPost (model C.prog C.w) A E (some (PySem.assign (.Name x py) env)) (fun _ s' => Q .next s') acc L) St.cur u fr X F0 st0 hM hN hM' hstep S.xs hne S.fv S.cell S.kind hs2 fun D L vs n h₂ tk₂ m' frD frL hDL hn hk hD hr =>
    use_store St hx (fun W' s' _ S' => q W' s' S') u fr frD frL hDL hn hk hD hr
end
end Mine

namespace Mine
open PySem PySem.W PyProof.Rows PyProof.V

section
variable {C : Cx} {k : Nat} {env : Env} {own : List Str} {ρ : DEnv} {e e' : Expr} {md : Bool} {ns : List Int} {pos npos : Pos} {i j : Int} {x : Str}

end
end Mine

namespace Mine
open PySem PySem.W PyProof.Rows

section
variable {C : Cx} {k : Nat} {env : Env} {own : List Str} {ρ : DEnv} {rest : List Stmt} {P : Out → Prop} {e ix : Expr} {x : Str} {md mx : Bool} {d : PyData} {ds : List PyData} {ns : List Int} {i v : Int} {pos pos' npos : Pos}

theorem set_lst {h : Heap} {a : Addr} {vs : List Value} {n j : Nat} {v : Value} (g : h.get? a = some (lst vs n)) (hj : j < vs.length) : (h.update a (Obj.mapSeq (·.setIfInBounds j v))).get? a = some (lst (vs.set j v) n) := by
  have := Heap.get?_update_self (Obj.mapSeq (·.setIfInBounds j v)) g (by rfl)
  rw [this]
  simp [Obj.mapSeq]

/-- x[ix] = e, x owned -/
theorem Ex.setItem (he : Ev C k env own ρ e md d) (hx : ρ x = some (mx, .list ds)) (ho : own.contains x = true) (hi : EvB C k env own ρ ix false (.int i)) (h0 : 0 ≤ i ∧ i < ds.length) (hz : ds.length ≤ sizeLine) (h : Ex C k env own (upd ρ x (mx && md) (.list (ds.set i.toNat d))) rest P)
    (hd : (x == ("__debug__" : Str)) = false) (hcd : (x == ("__classdict__" : Str)) = false) (hsw : swapsWith e (some (.Subscript (.Name x npos) ix pos')) pos.line env = pure false) (hlt : lentName x = false := by rfl) :
    Ex C k env own ρ (.Assign [.Subscript (.Name x npos) ix pos'] e pos :: rest) P := by
  refine Ex.plain (fun A hN ok s₀ Kp W s Q E S q => ?_) h
  obtain ⟨a, hw⟩ : ∃ a, W x = some a := (S.own1 x).mpr (by simpa using ho)
  refine wpAny_Assign_Subscript (he A ok W s _ E S.cur fun v h' tk u y => ?_) hsw
  have S1 := S.on u tk
  obtain ⟨vx, lk, yx⟩ := S1.cur.has x mx (.list ds) hx
  unfold Holds1 at yx
  rw [hw] at yx
  obtain ⟨e1, ds₁, vs, n, e2, g, r⟩ := yx
  cases e2
  subst e1
  refine wpAny_Name (lk.load S.eok.kind ?_ hcd) hd
  refine hi A ok W _ _ E S1.cur fun vi h'' tk' u' yi => ?_
  obtain ⟨t, rfl⟩ := yi.int_inv
  have hl := r.length
  rw [sizeLine_eq] at hz
  refine ki_setAt (s := { s with heap := h'', toks := tk' }) (items := vs.toArray) (n := n) (u' _ _ g) h0.1 (by omega) (by rw [List.size_toArray]; omega) ?_
  have g2 := set_lst (v := v) (u' _ _ g) (show i.toNat < vs.length by omega)
  refine q W _ (((S1.on u' tk').mut (h' := h''.update a (Obj.mapSeq (·.setIfInBounds i.toNat v))) ⟨_, _, hx⟩ hw hlt (Heap.SameBut.update ..) g2 ?_ tk'))
  have r1 : RepAll (okW ok W (mx && md)) h'' ds vs := (r.up u').imp fun b z => okW_le S.le (md' := mx) (by cases mx <;> cases md <;> rfl) z
  have r2 : Rep (okW ok W (mx && md)) h'' d v := (y.imp fun b z => okW_le S.le (md' := md) (by cases mx <;> cases md <;> rfl) z).up u'
  exact r1.set _ r2
end
end Mine

namespace Mine
open PySem PySem.W PyProof.Rows

theorem Fn.anyMd {C : Cx} {k : Nat} {f : Addr} {ma md : Bool} {args : List PyData} {d : PyData} (h : Fn C k f ma args true d) : Fn C k f ma args md d := by
  cases md with
  | true => exact h
  | false => exact fun A ok s vs Q E r u n l y q => h A ok s vs Q E r u n l y fun v h' tk u' r' => q v h' tk u' (r'.imp l)

def natB (p : Nat → Bool) : PyData → Bool
  | .int i => p i.toNat
  | _ => false
section
variable {C : Cx} {k : Nat} {env : Env} {own : List Str} {ρ : DEnv} {e t elt : Expr} {md : Bool} {pos npos cpos tpos spos py : Pos} {x y : Str} {scope : Scope} {cl : List (Str × Addr)} {fv : List Str} {rest : List Stmt} {P : Out → Prop}
theorem comp_rangeF {n : Int} {p : Nat → Bool} {g : Nat → PyData} (S : CompS env scope cl fv own [x]) (hstep : ∀ i : Nat, (i : Int) < n → ∀ L, Tst C k (compEnvC scope cl L env) own (compR [(x, .int (i : Int))] false fv ρ) t (p i) ∧ Ev C k (compEnvC scope cl L env) own (compR [(x, .int (i : Int))] false fv ρ) elt md (g i)) :
    ∀ d ∈ rangeD n, CompStep C k env own ρ scope cl fv (.Name x tpos) elt [t] false md (natB p) (natD g) d := fun d hd => by
  obtain ⟨i, hi, e⟩ := mem_rangeD hd
  subst e
  refine ⟨_, AsgC.name, ?_, fun L => ⟨(hstep i hi L).1, fun _ => (hstep i hi L).2⟩⟩
  have := S.xs
  simpa using this
theorem rangeD_filter {n : Int} (p : Nat → Bool) (g : Nat → PyData) : ((rangeD n).filter (natB p)).map (natD g) = ((List.range n.toNat).filter p).map g := by
  unfold rangeD
  induction List.range n.toNat with
  | nil => rfl
  | cons i l ih =>
    rw [List.map_cons, List.filter_cons, List.filter_cons, show natB p (.int (i : Int)) = p i from rfl]
    cases p i with
    | true => rw [if_pos rfl, if_pos rfl, List.map_cons, List.map_cons, ih]; rfl
    | false => rw [if_neg (by decide), if_neg (by decide), ih]
/-- [elt for x in range(e) if t] -/
theorem EvF.compRF {n : Int} (p : Nat → Bool) (g : Nat → PyData) (B : Bis C) (hr : EvB C k env own ρ e false (.int n)) (hn : n ≤ 1000000) (hlo : -1000000 ≤ n) (hk : env.kindOf "range" = some .globalImplicit) (he : starEach [e] env = (false, eval e env) :: starEach [] env)
    (hcl : closureFor scope env = pure cl) (hS : compB env scope cl (freeOf scope) own [x] = true) (hfl : (freeOf scope).map (fun y => cl.lookup y) = (freeOf scope).map (fun y => env.cells.lookup y)) (hs : ∀ y, foldedSetIterable (.Call (.Name "range" npos) [e] [] cpos) env y = pure y)
    (hstep : ∀ i : Nat, (i : Int) < n → ∀ L, Tst C k (compEnvC scope cl L env) own (Mine.compR [(x, .int (i : Int))] false (freeOf scope) ρ) t (p i) ∧ Ev C k (compEnvC scope cl L env) own (Mine.compR [(x, .int (i : Int))] false (freeOf scope) ρ) elt md (g i)) :
    EvF C k env own ρ (.ListComp elt [⟨.Name x tpos, .Call (.Name "range" npos) [e] [] cpos, [t], 0⟩] scope pos) md (((List.range n.toNat).filter p).map g) := by
  have S := compS hS hfl
  have := EvF.comp (md := md) (pos := pos) (EvI.rangeB (md := false) B hr hn hk he hlo (npos := npos) (pos := cpos)) (by rw [rangeD_length, sizeLine_eq]; omega) hcl (comp_rangeF S hstep (tpos := tpos)) S.fv S.cell S.kind S.names hs
  rwa [rangeD_filter] at this
end
end Mine

namespace Mine
open PySem PySem.W PyProof.Rows
section
variable {C : Cx} {k : Nat} {env : Env} {own : List Str} {ρ : DEnv} {rest body : List Stmt} {P : Out → Prop} {t : Expr} {pos : Pos}
/-- while t: body (no break): σ is what the names tell, n how often it may turn -/
theorem Ex.whileR {α : Type} (O : List Str) (Γ : α → DCtx) (Iv : α → Prop) (μ : α → Nat) (tv : α → Bool) (a₀ : α) (h0 : own = O) (h0' : All ρ (Γ a₀)) (hI : Iv a₀)
    (test : ∀ a, Iv a → Tst C k env O (mk (Γ a)) t (tv a))
    (turn : ∀ a, Iv a → tv a = true → Ex C k env O (mk (Γ a)) body (fun o => match o with
      | .next own ρ | .cont own ρ => own = O ∧ ∃ a', μ a' < μ a ∧ Iv a' ∧ All ρ (Γ a')
      | .brk _ _ => False
      | .ret md d => P (.ret md d)))
    (done : ∀ a, Iv a → tv a = false → Ex C k env O (mk (Γ a)) rest P) : Ex C k env own ρ (.While t body [] pos :: rest) P := by
  subst h0
  intro A hN ok s₀ Kp W s Q E S f
  refine wpAny_execs_cons (wpAny_While ?_)
  refine codeAny_whileLoop (fun n s' => ∃ a W, n = μ a ∧ Iv a ∧ Sta C k A hN ok s₀ Kp env own W (mk (Γ a)) s') ?_ (μ a₀) ⟨a₀, W, rfl, hI, S.forget h0'.sub⟩
  rintro n s' ⟨a, W', rfl, hIa, S'⟩
  refine test a hIa A ok W' s' _ _ S'.cur fun h' tk u => ?_
  have S2 := S'.on u tk
  cases hb : tv a with
  | true =>
    refine turn a hIa hb A hN ok s₀ Kp W' _ _ _ S2 { next := ?_, brk := fun _ _ _ _ p => p.elim, cont := ?_, ret := ?_ }
    · rintro own' W'' ρ' s'' ⟨e, a', hm, hI', ha⟩ S''
      subst e
      exact ⟨μ a', hm, a', W'', rfl, hI', S''.forget ha.sub⟩
    · rintro own' W'' ρ' s'' ⟨e, a', hm, hI', ha⟩ S''
      subst e
      exact ⟨μ a', hm, a', W'', rfl, hI', S''.forget ha.sub⟩
    · intro md d v s'' p sm kp r
      exact f.ret md d v s'' p sm kp r
  | false =>
    exact wpAny_execs_nil (done a hIa hb A hN ok s₀ Kp W' _ Q E S2 f)
end
end Mine

namespace Mine
open PySem PySem.W PyProof.Rows
section
variable {C : Cx} {k : Nat} {env : Env} {own : List Str} {ρ : DEnv} {rest : List Stmt} {P : Out → Prop} {e : Expr} {x : Str} {md mx : Bool} {d : PyData} {ds : List PyData} {pos cpos apos npos : Pos}
/-- a list that a lent name owns, handed out -/
theorem Ev.lent (h : ρ x = some (mx, .list ds)) (hl : lentName x = true) (hd : (x == ("__debug__" : Str)) = false) (hn : (x == ("__classdict__" : Str)) = false) : Ev C k env own ρ (.Name x pos) false (.list ds) := fun A ok W s Q E c q => by
  obtain ⟨v, lk, y⟩ := c.has x mx (.list ds) h
  refine wpAny_Name (lk.load c.eok.kind (q v s.heap s.toks (Up.refl _) ?_) hn) hd
  unfold Holds1 at y
  split at y
  · exact y.imp fun b z => okW_le c.le (md := false) (md' := mx) rfl z
  · rename_i a hw
    obtain ⟨e1, ds', vs, n, e2, g, r⟩ := y
    cases e2
    subst e1
    refine .list g ⟨(c.own x a hw).2.2, fun y q => ⟨c.inj x y a hw q ▸ hl, rfl⟩⟩ (r.imp fun b z => okW_le c.le (md := false) (md' := mx) rfl z)

/-- x.append(e) where the list of x was lent out: what may hold it is forgotten -/
theorem Ex.appendLent (Γ : DCtx) (hΓ : All ρ Γ) (hΓ' : (Γ.all fun p => (p.2.1 || atom p.2.2) && p.1 != x) = true) (he : Ev C k env own ρ e md d) (hx : ρ x = some (mx, .list ds)) (ho : own = [x]) (hz : ds.length ≤ sizeLine) (h : Ex C k env [] (mk Γ) rest P)
    (hd : (x == ("__debug__" : Str)) = false := by decide) (hcd : (x == ("__classdict__" : Str)) = false := by decide)
    (hbase : attributeBase (.Name x npos) "append" env (eval (.Name x npos) env) = eval (.Name x npos) env := by rfl)
    (hfew : ((backTo cpos (starEach [e] env)).all (fun x => !x.1) && (backToKw cpos (keywordEach [] env)).all (fun x => x.1.isSome) && decide (([e] : List Expr).length + ([] : List Keyword).length + (if ([] : List Keyword).isEmpty then 0 else 1) < 30)) = true := by rfl)
    (hline : (apos.endLine == cpos.line) = true := by rfl) (htrees : backTo cpos (starEach [e] env) = [(false, eval e env)] := by rfl) (hi : interactive env = false := by rfl) :
    Ex C k env own ρ (.Expr (.Call (.Attribute (.Name x npos) "append" apos) [e] [] cpos) pos :: rest) P := by
  subst ho
  refine Ex.plain (own' := []) (ρ' := mk Γ) (fun A hN ok s₀ Kp W s Q E S q => ?_) h
  refine wpAny_Expr ?_ hi rfl
  refine wpAny_Call_append hbase hfew hline htrees ?_
  obtain ⟨a, hw⟩ : ∃ a, W x = some a := (S.own1 x).mpr (.head _)
  obtain ⟨v, lk, y⟩ := S.cur.has x mx (.list ds) hx
  refine wpAny_Name (lk.load S.eok.kind ?_ hcd) hd
  unfold Holds1 at y
  rw [hw] at y
  obtain ⟨e1, ds₁, vs, n, e2, g, r⟩ := y
  cases e2
  subst e1
  refine ⟨a, vs.toArray, rfl, ⟨_, n, g, rfl, rfl, rfl⟩, ?_⟩
  refine he A ok W s _ E S.cur fun v h' tk u y => ?_
  refine wpAny_list_append_plain (s := { s with heap := h', toks := tk }) ⟨n, u _ _ g⟩ (fun h'' pl hs => ?_) (by rw [List.size_toArray, r.length]; exact hz)
  have S1 := S.on u tk
  have ga : h'.get? a = some (lst vs n) := u _ _ g
  have nk := (S.own2 x a hw).1
  have hs : Heap.SameBut a h' h'' := hs
  obtain ⟨m, cm, hn, hc, hv⟩ := S1.frm
  have hn : h'.Ns env.locals m := hn
  have hc : ∀ n c, env.cells.lookup n = some c → h'.IsCell c (cm n) := hc
  have neL : a ≠ env.locals := fun q => (ns_no_lst hn).1 vs n (q ▸ ga)
  refine q (fun _ => none) _ { room := S.room, top := S.top, eok := S.eok, up := S.up, new := S.new, le := S.le, kpN := S.kpN, same := (let ⟨h9, t9, e9⟩ := S.same; ⟨h'', tk, by rw [e9]⟩), keep := fun b o e => hs.extBut b o (fun z => nk o (z ▸ e)) (S1.keep b o e), newL := S.newL, newC := S.newC, apart := S.apart, frm := ?_, own1 := fun z => ⟨fun ⟨_, w⟩ => (nomatch w), fun w => (nomatch w)⟩, own2 := fun _ _ w => (nomatch w), inj := fun _ _ _ w => (nomatch w) }
  refine ⟨m, cm, hn.sameBut hs (Ne.symm neL), fun n' c e => (hc n' c e).sameBut hs fun z => (cell_no_lst (hc n' c e)).1 vs n (z ▸ ga), fun y md' d' e => ?_⟩
  have hm := List.all_eq_true.mp hΓ' (y, md', d') (PySem.mem_of_lookup e)
  simp only [Bool.and_eq_true, bne_iff_ne] at hm
  obtain ⟨v', l, z⟩ := hv y md' d' (hΓ.sub _ _ e)
  refine ⟨v', l, ?_⟩
  have hWy : W y = none := by
    cases w : W y with
    | none => rfl
    | some b => exact absurd (by simpa using (S.own1 y).mp ⟨b, w⟩) hm.2
  unfold Holds1 at z ⊢
  rw [hWy] at z
  cases ha : atom d' with
  | true => exact Rep.atom z ha
  | false =>
    have hmd : md' = true := by simpa [ha] using hm.1
    subst hmd
    refine Rep.gen (fun b vs' n' e o => ⟨hs.extBut b _ (fun w => ?_) e, o.1, fun _ w => (nomatch w)⟩) (fun b vs' n' e => hs.extBut b _ (fun w => ?_) e) z
    · exact absurd (o.2 x (w ▸ hw)).2 (by decide)
    · have e : h'.get? b = some (tup vs' n') := e
      rw [w, ga] at e
      exact absurd (show Value.type "list" = Value.type "tuple" from congrArg Obj.cls (Option.some.inj e)) (by decide)
end
end Mine

namespace Mine
open PySem PySem.W PyProof.Rows
section
variable {C : Cx} {k : Nat} {env : Env} {own : List Str} {ρ : DEnv} {rest body : List Stmt} {P : Out → Prop} {iter : Expr} {pos tpos : Pos} {x : Str} {md : Bool}
/-- for x in a list of things: a is what the names tell -/
theorem Ex.forS {α β : Type} {xs : List β} {g : β → PyData} (hi : EvI C k env own ρ iter md (xs.map g)) (O : List Str) (Γ : α → DCtx) (Iv : Nat → α → Prop) (a₀ : α) (h0 : own = O) (h0' : All ρ (Γ a₀)) (hI : Iv 0 a₀) (hx : storable env x = true) (ho : less O x = O)
    (turn : ∀ (i : Nat) (h : i < xs.length) (a : α), Iv i a → Ex C k env O (upd (mk (Γ a)) x md (g xs[i])) body (fun o => match o with
      | .next own ρ | .cont own ρ => own = O ∧ ∃ a', Iv (i + 1) a' ∧ All ρ (Γ a')
      | .brk _ _ => False
      | .ret md d => P (.ret md d)))
    (done : ∀ a, Iv xs.length a → Ex C k env O (mk (Γ a)) rest P) (hs : ∀ x, foldedSetIterable iter env x = pure x) (hnl : noLent O = true := by rfl) : Ex C k env own ρ (.For (.Name x tpos) iter body [] pos :: rest) P := by
  refine Ex.for_ hi (fun i own ρ => own = O ∧ ∃ a, Iv i a ∧ All ρ (Γ a)) (fun _ _ _ => False) ⟨h0, a₀, hI, h0'⟩ (fun i d own ρ hd hI => ?_) (fun own ρ hI => ?_) (fun _ _ _ q => q.elim) hs (fun i own ρ hI => by rw [hI.1]; exact hnl)
  · obtain ⟨e, a, hIa, ha⟩ := hI
    subst e
    have hlt : i < xs.length := by
      rcases Nat.lt_or_ge i xs.length with h | h
      · exact h
      · rw [List.getElem?_eq_none (by rw [List.length_map]; exact h)] at hd; cases hd
    rw [List.getElem?_map, List.getElem?_eq_getElem hlt] at hd
    cases hd
    have asg : Asg C k env own (mk (Γ a)) (.Name x tpos) md (g xs[i]) (less own x) (upd (mk (Γ a)) x md (g xs[i])) := Asg.name hx
    refine ⟨less own x, _, ⟨asg.1, fun A hN ok s₀ Kp W s v Q E S y q => asg.2 A hN ok s₀ Kp W s v Q E (S.forget ha.sub) y q⟩, ?_⟩
    rw [ho]
    refine (turn i hlt a hIa).mono fun o ho => ?_
    cases o <;> exact ho
  · obtain ⟨e, a, hIa, ha⟩ := hI
    subst e
    rw [List.length_map] at hIa
    exact Ex.ctx _ ha (done a hIa)
end
end Mine

namespace Mine
open PySem PySem.W PyProof.Rows

section
variable {prog : Program} {w : World} {A : Around} {E : Value → Shared → Prop} {s : Shared}
end

section
variable {C : Cx} {k : Nat} {env : Env} {own : List Str} {ρ : DEnv}
end
end Mine

namespace Mine
open PySem PySem.W PyProof.Rows

theorem map_inv1 {α : Type} {xs : List α} {g : α → PyData} {inv : PyData → α} (hinv : ∀ a, inv (g a) = a) (f : α → PyData) : ((xs.map g).filter fun d => true).map (fun d => f (inv d)) = xs.map f := by
  rw [List.filter_eq_self.mpr fun _ _ => rfl, List.map_map]
  exact List.map_congr_left fun a _ => by show f (inv (g a)) = f a; rw [hinv]
theorem szl {n : Nat} (h : n ≤ 1000000) : n ≤ sizeLine := by rw [sizeLine_eq]; omega
def intOf : PyData → Int
  | .int i => i
  | _ => 0
section
variable {C : Cx} {k : Nat} {env : Env} {own : List Str} {ρ : DEnv} {e t elt iter : Expr} {md mdi : Bool} {pos npos cpos tpos spos py : Pos} {x y : Str} {scope : Scope} {cl : List (Str × Addr)} {fv : List Str} {rest : List Stmt} {P : Out → Prop} {ifs : List Expr}
theorem comp_M {α : Type} {xs : List α} {g : α → PyData} {inv : PyData → α} (hinv : ∀ a, inv (g a) = a) {p : α → Bool} {f : α → PyData} (S : CompS env scope cl fv own [x])
    (hstep : ∀ a ∈ xs, ∀ L, Tsts C k (compEnvC scope cl L env) own (compR [(x, g a)] mdi fv ρ) ifs (p a) ∧ Ev C k (compEnvC scope cl L env) own (compR [(x, g a)] mdi fv ρ) elt md (f a)) :
    ∀ d ∈ xs.map g, CompStep C k env own ρ scope cl fv (.Name x tpos) elt ifs mdi md (fun d => p (inv d)) (fun d => f (inv d)) d := fun d hd => by
  obtain ⟨a, ha, e⟩ := List.mem_map.mp hd
  subst e
  refine ⟨_, AsgC.name, ?_, fun L => ?_⟩
  · have := S.xs
    simpa using this
  · dsimp only
    rw [hinv]
    exact ⟨(hstep a ha L).1, fun _ => (hstep a ha L).2⟩
/-- [elt for x in iter] -/
theorem EvF.compL {α : Type} {xs : List α} {g : α → PyData} (inv : PyData → α) (hinv : ∀ a, inv (g a) = a) (f : α → PyData) (hi : EvI C k env own ρ iter mdi (xs.map g)) (hz : xs.length ≤ 1000000)
    (hcl : closureFor scope env = pure cl) (hS : compB env scope cl (freeOf scope) own [x] = true) (hfl : (freeOf scope).map (fun y => cl.lookup y) = (freeOf scope).map (fun y => env.cells.lookup y)) (hs : ∀ y, foldedSetIterable iter env y = pure y)
    (hstep : ∀ a ∈ xs, ∀ L, Ev C k (compEnvC scope cl L env) own (Mine.compR [(x, g a)] mdi (freeOf scope) ρ) elt md (f a)) :
    EvF C k env own ρ (.ListComp elt [⟨.Name x tpos, iter, [], 0⟩] scope pos) md (xs.map f) := by
  have S := compS hS hfl
  have := EvF.comp (md := md) (pos := pos) hi (by rw [List.length_map, sizeLine_eq]; omega) hcl (comp_M (ifs := []) (p := fun _ => true) (f := f) hinv S (fun a ha L => ⟨rfl, hstep a ha L⟩) (tpos := tpos)) S.fv S.cell S.kind S.names hs
  exact (map_inv1 hinv f (xs := xs)) ▸ this
end
end Mine

namespace Mine
open PySem PyProof.Rows

section
variable {z : Str} {C : Cx} {k : Nat} {env : Env} {own own' : List Str} {ρ ρ' : DEnv} {st : Stmt} {rest body orelse : List Stmt} {P : Out → Prop} {e iter target : Expr} {x : Str} {md md' mx : Bool} {d : PyData} {ds items : List PyData} {pos pos' cpos apos npos : Pos}

end
end Mine

namespace Mine
open PySem PyProof.Rows
section
variable {C : Cx} {k : Nat} {env : Env} {own : List Str} {ρ : DEnv} {rest : List Stmt} {P : Out → Prop} {value : Expr} {x1 x2 x3 x4 x5 : Str} {p1 p2 p3 p4 p5 tpos pos : Pos} {md : Bool} {d1 d2 d3 d4 d5 : PyData} {n : Nat}
theorem Asg.tuple2 (h1 : storable env x1 = true := by rfl) (h2 : storable env x2 = true := by rfl) (hnl : noLent own = true := by rfl) : Asg C k env own ρ (.Tuple [.Name x1 p1, .Name x2 p2] n pos) md (.tuple [d1, d2]) (less (less own x1) x2) (upd (upd ρ x1 md d1) x2 md d2) :=
  Asg.tuple (ns := [(x1, p1), (x2, p2)]) rfl (by simp [h1, h2]) hnl
theorem Asg.tuple3 (h1 : storable env x1 = true := by rfl) (h2 : storable env x2 = true := by rfl) (h3 : storable env x3 = true := by rfl) (hnl : noLent own = true := by rfl) : Asg C k env own ρ (.Tuple [.Name x1 p1, .Name x2 p2, .Name x3 p3] n pos) md (.tuple [d1, d2, d3]) (less (less (less own x1) x2) x3) (upd (upd (upd ρ x1 md d1) x2 md d2) x3 md d3) :=
  Asg.tuple (ns := [(x1, p1), (x2, p2), (x3, p3)]) rfl (by simp [h1, h2, h3]) hnl
end
end Mine

namespace Mine
open PySem PyProof.Rows
section
variable {C : Cx} {k : Nat} {env : Env} {own : List Str} {ρ : DEnv} {rest body : List Stmt} {P : Out → Prop} {iter : Expr} {pos tpos : Pos} {x : Str} {md : Bool}
end

section
variable {z : Str} {C : Cx} {k : Nat} {env : Env} {own : List Str} {ρ : DEnv} {rest body : List Stmt} {P : Out → Prop} {iter e t elt : Expr} {pos tpos npos cpos spos py : Pos} {x y : Str} {md : Bool} {scope : Scope} {cl : List (Str × Addr)}
end
end Mine

namespace Mine
open PySem PyProof.Rows

section
variable {C : Cx} {k : Nat} {env : Env} {own : List Str} {ρ : DEnv} {elt iter : Expr} {scope : Scope} {pos px : Pos} {md mdi : Bool} {items : List PyData} {cl : List (Str × Addr)} {fv : List Str} {x : Str}
end

section
variable {C : Cx} {k : Nat} {env : Env} {own : List Str} {ρ : DEnv} {e elt : Expr} {md : Bool} {pos npos cpos tpos spos py : Pos} {x y : Str} {scope : Scope} {cl : List (Str × Addr)} {rest : List Stmt} {P : Out → Prop}
end
end Mine

namespace Mine
open PySem PySem.W PyProof.Rows

section
variable {C : Cx} {k : Nat} {env : Env} {own : List Str} {ρ : DEnv} {md : Bool} {pos npos : Pos} {i : Int} {x : Str} {slice : Expr}
end
end Mine

namespace Mine
open PySem PySem.W PyProof.Rows

/-- the same top, told of a larger heap -/
def Cx.on (C : Cx) (h : Heap) (u : Up C.base h) : Cx :=
  { prog := C.prog, w := C.w, base := h, mg := C.mg, mb := C.mb, g := C.g.keeps u, b := C.b.keeps u, lim := C.lim.keeps u, bi := C.bi, tree := C.tree, seer := C.seer.keeps u }
theorem Fn.on {C : Cx} {k : Nat} {f : Addr} {ma md : Bool} {args : List PyData} {d : PyData} (x : Fn C k f ma args md d) {h : Heap} {u : Up C.base h} : Fn (C.on h u) k f ma args md d :=
  fun A ok s vs Q E r up n l y q => x A ok s vs Q E r (u.trans up) n l y q
theorem Def.on {C : Cx} {x : Str} {j : Nat} {R : List PyData → Bool → PyData → Prop} (K : Def C x j R) {h : Heap} {u : Up C.base h} : Def (C.on h u) x j R :=
  let ⟨f, h1, ⟨o, fd, h2, h3⟩, h4⟩ := K.ex; ⟨f, h1, ⟨o, fd, u _ _ h2, h3⟩, fun args md d r => (h4 args md d r).on⟩
theorem Bis.on {C : Cx} (B : Bis C) {h : Heap} {u : Up C.base h} : Bis (C.on h u) := ⟨B.len, B.abs, B.min, B.max, B.list, B.tuple, B.range, B.type, B.int, B.bool, B.all, B.sum, B.isi⟩

/-- the heap without some objects -/
def hide (h : Heap) : List Addr → Heap
  | [] => h
  | b :: bs => (hide h bs).update b fun o => { o with data := .freed }
theorem freed_none (h : Heap) (b : Addr) : (h.update b fun o => { o with data := .freed }).get? b = none := by
  cases h with
  | mk objs l =>
    simp only [Heap.update, Heap.get?, Array.getElem?_modify, if_true]
    cases objs[b]? with
    | none => rfl
    | some o => rfl
theorem hide_in {h : Heap} : ∀ {bs : List Addr} {a : Addr}, a ∈ bs → (hide h bs).get? a = none
  | b :: bs, a, hm => by
    by_cases e : a = b
    · subst e; exact freed_none _ _
    · unfold hide
      rw [Heap.get?_update_ne _ _ _ _ e]
      exact hide_in ((List.mem_cons.mp hm).resolve_left e)
theorem hide_out {h : Heap} : ∀ {bs : List Addr} {a : Addr}, a ∉ bs → (hide h bs).get? a = h.get? a
  | [], _, _ => rfl
  | b :: bs, a, hm => by
    have e : a ≠ b := fun q => hm (q ▸ List.mem_cons_self ..)
    unfold hide
    rw [Heap.get?_update_ne _ _ _ _ e]
    exact hide_out fun q => hm (List.mem_cons_of_mem _ q)

/-- the frame's own objects -/
def gone (env : Env) (own : List Str) (W : Str → Option Addr) : List Addr := env.locals :: (env.cells.filterMap (fun p => env.cells.lookup p.1) ++ own.filterMap W)
section
variable {C : Cx} {k : Nat} {A : Around} {hN : Heap} {ok : Bool → Addr → Prop} {s₀ : Shared} {Kp : Addr → Obj → Prop} {env : Env} {own own' : List Str} {W W' : Str → Option Addr} {ρ ρ' : DEnv} {s s' : Shared}
theorem mem_gone (S : Sta C k A hN ok s₀ Kp env own W ρ s) {b : Addr} : b ∈ gone env own W ↔ b = env.locals ∨ (∃ n, env.cells.lookup n = some b) ∨ ∃ x, W x = some b := by
  unfold gone
  rw [List.mem_cons, List.mem_append]
  refine or_congr Iff.rfl (or_congr ⟨fun h => ?_, fun h => ?_⟩ ⟨fun h => ?_, fun h => ?_⟩)
  · obtain ⟨p, _, e⟩ := List.mem_filterMap.mp h; exact ⟨_, e⟩
  · obtain ⟨n, e⟩ := h
    exact List.mem_filterMap.mpr ⟨(n, b), PySem.mem_of_lookup e, e⟩
  · obtain ⟨x, _, e⟩ := List.mem_filterMap.mp h; exact ⟨x, e⟩
  · obtain ⟨x, e⟩ := h
    exact List.mem_filterMap.mpr ⟨x, (S.own1 x).mp ⟨b, e⟩, e⟩
theorem Sta.not_gone (S : Sta C k A hN ok s₀ Kp env own W ρ s) {b : Addr} {o : Obj} (h : Kp b o) : b ∉ gone env own W := fun q => by
  rcases (mem_gone S).mp q with e | ⟨n, e⟩ | ⟨x, e⟩
  · exact S.newL o (e ▸ h)
  · exact S.newC n b o e h
  · exact (S.own2 x b e).1 o h
theorem Sta.reUp (S : Sta C k A hN ok s₀ Kp env own W ρ s) : Up C.base (hide s.heap (gone env own W)) := fun b o e => by
  have kb := S.kpN b o (S.up b o e)
  rw [hide_out (S.not_gone kb)]
  exact S.keep b o kb
theorem Sta.hideUp (S : Sta C k A hN ok s₀ Kp env own W ρ s) : Up (hide s.heap (gone env own W)) s.heap := fun b o e => by
  by_cases q : b ∈ gone env own W
  · rw [hide_in q] at e; cases e
  · rw [hide_out q] at e; exact e
/-- the state, told against the heap of this moment -/
theorem Sta.re (S : Sta C k A hN ok s₀ Kp env own W ρ s) : Sta (C.on _ S.reUp) k A (hide s.heap (gone env own W)) ok s (fun b o => (hide s.heap (gone env own W)).get? b = some o) env own W ρ s where
  room := S.room
  top := S.top
  eok := S.eok
  up := Up.refl _
  new := fun md a e => by
    by_cases q : a ∈ gone env own W
    · refine S.new md a ?_
      cases h : hN.get? a with
      | none => rfl
      | some o => exact absurd q (S.not_gone (S.kpN a o h))
    · rw [hide_out q] at e
      refine S.new md a ?_
      cases h : hN.get? a with
      | none => rfl
      | some o => rw [S.keep a o (S.kpN a o h)] at e; cases e
  le := S.le
  kpN := fun _ _ e => e
  same := ⟨s.heap, s.toks, rfl⟩
  keep := S.hideUp
  newL := fun o e => by rw [hide_in ((mem_gone S).mpr (.inl rfl))] at e; cases e
  newC := fun n c o h e => by rw [hide_in ((mem_gone S).mpr (.inr (.inl ⟨n, h⟩)))] at e; cases e
  apart := S.apart
  frm := S.frm
  own1 := S.own1
  own2 := fun x a h => ⟨fun o e => (by rw [hide_in ((mem_gone S).mpr (.inr (.inr ⟨x, h⟩)))] at e; cases e), (S.own2 x a h).2⟩
  inj := S.inj
theorem Sta.reKeep (S : Sta C k A hN ok s₀ Kp env own W ρ s) {b : Addr} {o : Obj} (h : Kp b o) : (hide s.heap (gone env own W)).get? b = some o := by
  rw [hide_out (S.not_gone h)]; exact S.keep b o h
/-- and back -/
theorem Sta.back (S : Sta C k A hN ok s₀ Kp env own W ρ s) {C' : Cx} (S' : Sta C' k A (hide s.heap (gone env own W)) ok s (fun b o => (hide s.heap (gone env own W)).get? b = some o) env own' W' ρ' s') : Sta C k A hN ok s₀ Kp env own' W' ρ' s' where
  room := S.room
  top := S.top
  eok := S.eok
  up := S.up
  new := S.new
  le := S.le
  kpN := S.kpN
  same := let ⟨h1, t1, e1⟩ := S'.same; let ⟨h2, t2, e2⟩ := S.same; ⟨h1, t1, by rw [e1, e2]⟩
  keep := fun b o h => S'.keep b o (S.reKeep h)
  newL := S.newL
  newC := S.newC
  apart := S.apart
  frm := S'.frm
  own1 := S'.own1
  own2 := fun x a h => ⟨fun o q => (S'.own2 x a h).1 o (S.reKeep q), (S'.own2 x a h).2⟩
  inj := S'.inj
end

-- a dict: tuples of ints to lists of ints
abbrev KV := List Int × List Int
abbrev tKind (C : Cx) : HeapKind C.prog C.w (List Int) := tupleKind (intKind C.prog C.w)
def DictH (ok : Addr → Prop) (C : Cx) (h : Heap) (d : Addr) (kvs : List KV) : Prop :=
  (d == sysModules) = false ∧ ∃ xs : List (List Int × Addr × Value), h.DictOfH (tKind C) d xs ∧ xs.map (·.1) = kvs.map (·.1) ∧ RepAll ok h (kvs.map fun p => PyData.list (p.2.map .int)) (xs.map (·.2.2)) ∧ ∀ x, x ∈ xs → Rep (fun _ => True) h (.tuple (x.1.map .int)) (.ref x.2.1)
theorem Rep.keyAt {h h' : Heap} {k : List Int} {v : Value} (x : Rep (fun _ => True) h (.tuple (k.map .int)) v) (ht : ∀ b o, h.get? b = some o → o.cls = .type "tuple" → (∃ its n, o.data = .seq its n) → h'.get? b = some o) : Rep (fun _ => True) h' (.tuple (k.map .int)) v := by
  cases x with
  | tuple g r => exact .tuple (ht _ _ g rfl ⟨_, _, rfl⟩) (r.atoms (by rw [List.all_map]; exact List.all_eq_true.mpr fun _ _ => rfl))
theorem DictH.gen {ok ok' : Addr → Prop} {C : Cx} {h h' : Heap} {d : Addr} {kvs : List KV} (x : DictH ok C h d kvs) (hd : ∀ o, h.get? d = some o → h'.get? d = some o) (hk : ∀ b vs n, h.get? b = some (lst vs n) → ok b → h'.get? b = some (lst vs n) ∧ ok' b)
    (ht : ∀ b o, h.get? b = some o → o.cls = .type "tuple" → (∃ its n, o.data = .seq its n) → h'.get? b = some o) : DictH ok' C h' d kvs := by
  obtain ⟨h1, xs, ⟨o, es, ep, g1, g2, g3, g4, g5, g6⟩, e1, r, kx⟩ := x
  refine ⟨h1, xs, ⟨o, es, ep, hd o g1, g2, g3, g4, fun x hx => ?_, g6⟩, e1, r.gen hk fun b vs n e => ht b _ e rfl ⟨_, _, rfl⟩, fun x hx => (kx x hx).keyAt ht⟩
  obtain ⟨o', items, n, q1, q2, q3, q4⟩ := g5 x hx
  exact ⟨o', items, n, ht _ _ q1 q2 ⟨_, _, q3⟩, q2, q3, q4⟩
theorem DictH.up {ok : Addr → Prop} {C : Cx} {h h' : Heap} {d : Addr} {kvs : List KV} (x : DictH ok C h d kvs) (u : Up h h') : DictH ok C h' d kvs := x.gen (fun o e => u _ _ e) (fun b vs n e o => ⟨u _ _ e, o⟩) fun b o e _ _ => u _ _ e
/-- what lies under a key -/
theorem DictH.at {ok : Addr → Prop} {C : Cx} {h : Heap} {d : Addr} {kvs : List KV} {xs : List (List Int × Addr × Value)} (hn : (xs.map (·.1)).Nodup) (e : xs.map (·.1) = kvs.map (·.1)) (r : RepAll ok h (kvs.map fun p => PyData.list (p.2.map .int)) (xs.map (·.2.2)))
    {j : Nat} {k w : List Int} (hj : kvs[j]? = some (k, w)) : ∃ p, atKey xs k = some p ∧ Rep ok h (.list (w.map .int)) p.2 := by
  have hk : (xs.map (·.1))[j]? = some k := by rw [e, List.getElem?_map, hj]; rfl
  rw [List.getElem?_map] at hk
  obtain ⟨x, hx, ex⟩ := Option.map_eq_some_iff.mp hk
  obtain ⟨v, hv, rv⟩ := r.get (k := j) (d := .list (w.map .int)) (by rw [List.getElem?_map, hj]; rfl)
  rw [List.getElem?_map, hx] at hv
  cases hv
  refine ⟨x.2, ?_, rv⟩
  have hx' : xs[j]? = some (k, x.2) := by rw [hx, ← ex]
  exact atKey_of_get hn hx'
theorem DictH.atKey_some {xs : List (List Int × Addr × Value)} {kvs : List KV} (e : xs.map (·.1) = kvs.map (·.1)) (k : List Int) : (atKey xs k).isSome = (kvs.map (·.1)).contains k := by
  rw [← e]
  clear e
  induction xs with
  | nil => rfl
  | cons x xs ih =>
    rw [List.map_cons, List.contains_cons]
    by_cases h : x.1 = k
    · simp [atKey, h]
    · have hb : (k == x.1) = false := beq_false_of_ne (Ne.symm h)
      rw [hb, Bool.false_or, ← ih]
      simp [atKey, h]
theorem key_of {C : Cx} {ok : Addr → Prop} {h : Heap} {k : List Int} {v : Value} (r : Rep ok h (.tuple (k.map .int)) v) : ∃ a, v = .ref a ∧ (tKind C).is h k a := by
  cases r with
  | @tuple a vs n _ g rr =>
    refine ⟨a, rfl, _, vs.toArray, n, g, rfl, rfl, ?_⟩
    show ItemsAre (intKind C.prog C.w) k vs.toArray.toList
    rw [List.toList_toArray]
    clear g
    induction k generalizing vs with
    | nil => cases rr; exact .nil
    | cons i k ih =>
      cases rr with
      | cons r1 r2 =>
        cases r1
        exact .cons (by simp [intKind, Value.isInt]) (ih r2)
section
variable {C : Cx} {k : Nat} {env : Env} {own : List Str} {ρ : DEnv} {md mx : Bool} {pos npos : Pos} {x : Str} {slice e : Expr} {d : Addr} {kvs : List KV} {key w : List Int} {op : CmpOp}
theorem load_opq {bs : List Addr} (hρ : ρ x = some (mx, opqs d bs)) (hd : (x == ("__debug__" : Str)) = false) (hn : (x == ("__classdict__" : Str)) = false) : EvK C k env own ρ (.Name x npos) (.ref d) := fun A ok W s Q E c q => by
  refine EvB.name (md := false) (pos := npos) hρ rfl hd hn A ok W s Q E c fun v h' tk u y => ?_
  have y : Rep _ _ (opqs d bs) v := y
  have : v = .ref d := by
    generalize hq : opqs d bs = q at y
    cases y with
    | opqs a bs' _ =>
      injection hq with hq
      injection hq with h1 _
      injection h1 with _ h2
      injection h2 with h3
      injection h3 with h4
      rw [h4]
    | _ => cases hq
  subst this
  exact q h' tk u
/-- words[s] -/
theorem EvB.dictItem (D : DictH (fun _ => True) C C.base d kvs) {bs : List Addr} (hρ : ρ x = some (mx, opqs d bs)) (hk : EvB C k env own ρ slice false (.tuple (key.map .int))) {j : Nat} (hj : kvs[j]? = some (key, w))
    (hd : (x == ("__debug__" : Str)) = false) (hn : (x == ("__classdict__" : Str)) = false) (hs : ∀ o i, ∃ vs, subscripted slice false o i = operate vs (getItem o i)) : EvB C k env own ρ (.Subscript (.Name x npos) slice pos) md (.list (w.map .int)) := fun A ok W s Q E c q => by
  refine PyProof.Rows.Subscript_ (load_opq (npos := npos) hρ hd hn A ok W s _ E c fun h₁ tk₁ u₁ => hk A ok W _ _ E (c.on u₁ tk₁) fun v h' tk u y => ?_)
  obtain ⟨a, rfl, hkey⟩ := key_of (C := C) (show Rep _ _ (.tuple (key.map .int)) v from y)
  obtain ⟨h1, xs, hx, e1, r, _⟩ := D.up (c.up.trans (u₁.trans u))
  have hnd : (xs.map (·.1)).Nodup := let ⟨_, _, _, _, _, _, _, _, n⟩ := hx; n
  obtain ⟨p, hp, rp⟩ := DictH.at (C := C) (d := d) hnd e1 r hj
  refine seqTail (s := { s with heap := h', toks := tk }) (Heap.DictOfH.typeIs (s := { s with heap := h', toks := tk }) hx) slot_dict_getitem.lookup (wpAny_getItem_heap (s := { s with heap := h', toks := tk }) (by have := c.room.units; show A.units + 1 < cLine; omega) hkey hx hp (q p.2 h' _ (u₁.trans u) ?_)) (hs _ _)
  generalize p.2 = pv at rp
  cases rp with
  | @list b ws m _ gw _ rw2 => exact ⟨b, ws, m, rfl, gw, rw2.atoms (by rw [List.all_map]; exact List.all_eq_true.mpr fun _ _ => rfl)⟩
/-- t not in words -/
theorem Cmp.notInDict (D : DictH (fun _ => True) C C.base d kvs) (hk : EvB C k env own ρ e false (.tuple (key.map .int))) {bs : List Addr} (hρ : ρ x = some (mx, opqs d bs)) (hd : (x == ("__debug__" : Str)) = false) (hn : (x == ("__classdict__" : Str)) = false) :
    Cmp C k env own ρ e .NotIn (.Name x npos) (!(kvs.map (·.1)).contains key) := fun A ok W s Q E c q => by
  refine hk A ok W s _ E c fun v h₁ tk₁ u₁ y => load_opq (npos := npos) hρ hd hn A ok W _ _ E (c.on u₁ tk₁) fun h' tk u => ?_
  obtain ⟨a, rfl, hkey⟩ := key_of (C := C) ((show Rep _ _ (.tuple (key.map .int)) v from y).up u)
  obtain ⟨h1, xs, hx, e1, r, _⟩ := D.up (c.up.trans (u₁.trans u))
  refine wpAny_notIn_heap (s := { s with heap := h', toks := tk }) (by have := c.room.units; show A.units + 1 < cLine; omega) hkey h1 hx ?_
  rw [DictH.atKey_some e1]
  exact q h' _ (u₁.trans u)
end
end Mine

namespace Mine
open PySem PySem.W PyProof.Rows

/-- the dict at d is none of the frame's own -/
structure FarD (d : Addr) (env : Env) (W : Str → Option Addr) : Prop where
  l : env.locals ≠ d
  c : ∀ n c, env.cells.lookup n = some c → c ≠ d
  w : ∀ x, W x ≠ some d
structure FitsD (d : Addr) (C : Cx) (k : Nat) (A : Around) (hN : Heap) (ok : Bool → Addr → Prop) (s₀ : Shared) (Kp : Addr → Obj → Prop) (env : Env) (P : Out → List KV → Prop) (R : List KV → Prop) (Q : Flow → Shared → Prop) : Prop where
  next : ∀ own W ρ kvs s, P (.next own ρ) kvs → Sta C k A hN ok s₀ Kp env own W ρ s → FarD d env W → DictH (okW ok W false) C s.heap d kvs → Q .next s
  cont : ∀ own W ρ kvs s, P (.cont own ρ) kvs → Sta C k A hN ok s₀ Kp env own W ρ s → FarD d env W → DictH (okW ok W false) C s.heap d kvs → Q .cont s
  ret : ∀ kvs s, R kvs → (∃ h tk, s = { s₀ with heap := h, toks := tk }) → (∀ b o, Kp b o → s.heap.get? b = some o) → DictH (ok false) C s.heap d kvs → Q (.ret (.ref d)) s
/-- as Ex; the dict at d tells kvs -/
def ExD (d : Addr) (C : Cx) (k : Nat) (env : Env) (own : List Str) (ρ : DEnv) (kvs : List KV) (body : List Stmt) (P : Out → List KV → Prop) (R : List KV → Prop) : Prop :=
  ∀ A hN ok s₀ Kp W s Q E, Sta C k A hN ok s₀ Kp env own W ρ s → (∀ o, ¬ Kp d o) → FarD d env W → DictH (okW ok W false) C s.heap d kvs → FitsD d C k A hN ok s₀ Kp env P R Q → wpAny (model C.prog C.w) A (execs body env) Q E s

section
variable {d : Addr} {C : Cx} {k : Nat} {env : Env} {own : List Str} {ρ : DEnv} {kvs : List KV} {rest body orelse : List Stmt} {P : Out → List KV → Prop} {R : List KV → Prop} {e t iter target slice : Expr} {x : Str} {md mx : Bool} {pos npos spos : Pos} {items : List PyData} {key w : List Int}
theorem ExD.nil (h : P (.next own ρ) kvs) : ExD d C k env own ρ kvs [] P R := fun A hN ok s₀ Kp W s Q E S nk far D f => wpAny_execs_nil (f.next own W ρ kvs s h S far D)
theorem ExD.forget {ρ' : DEnv} (h : ∀ x v, ρ' x = some v → ρ x = some v) (e : ExD d C k env own ρ' kvs body P R) : ExD d C k env own ρ kvs body P R := fun A hN ok s₀ Kp W s Q E S nk far D f => e A hN ok s₀ Kp W s Q E (S.forget h) nk far D f

theorem dict_no_lst {ok : Addr → Prop} {h : Heap} (D : DictH ok C h d kvs) : (∀ vs n, h.get? d ≠ some (lst vs n)) ∧ (∀ vs n, h.get? d ≠ some (tup vs n)) := by
  obtain ⟨_, xs, ⟨o, es, ep, g1, _, g3, _⟩, _⟩ := D
  exact ⟨fun vs n e => (by rw [g1] at e; cases e; cases g3), fun vs n e => (by rw [g1] at e; cases e; cases g3)⟩
/-- what a change of the heap leaves of a dict -/
structure LeavesD (d : Addr) (ok : Addr → Prop) (h : Heap) (ok' : Addr → Prop) (h' : Heap) : Prop where
  d : ∀ o, h.get? d = some o → h'.get? d = some o
  l : ∀ b vs n, h.get? b = some (lst vs n) → ok b → h'.get? b = some (lst vs n) ∧ ok' b
  t : ∀ b o, h.get? b = some o → o.cls = .type "tuple" → (∃ its n, o.data = .seq its n) → h'.get? b = some o
theorem Sta.reLeaves {A hN ok s₀ Kp W s} (S : Sta C k A hN ok s₀ Kp env own W ρ s) (hnl : Mine.noLent own = true) (far : FarD d env W) : LeavesD d (okW ok W false) s.heap (okW ok W false) (hide s.heap (gone env own W)) := by
  obtain ⟨m, cm, hn, hc, _⟩ := S.frm
  have nd : d ∉ gone env own W := fun q => by
    rcases (mem_gone S).mp q with e | ⟨n, e⟩ | ⟨y, e⟩
    · exact far.l e.symm
    · exact far.c n d e rfl
    · exact far.w y e
  refine ⟨fun o e => by rw [hide_out nd]; exact e, fun b vs n e o => ⟨?_, o⟩, fun b o e hcls hseq => ?_⟩
  · rw [hide_out fun q => ?_]
    · exact e
    · rcases (mem_gone S).mp q with z | ⟨n', z⟩ | ⟨y, z⟩
      · exact (ns_no_lst hn).1 vs n (z ▸ e)
      · exact (cell_no_lst (hc n' b z)).1 vs n e
      · have := (o.2 y z).1; rw [S.noLent hnl z] at this; cases this
  · rw [hide_out fun q => ?_]
    · exact e
    · obtain ⟨its, n, hd⟩ := hseq
      rcases (mem_gone S).mp q with z | ⟨n', z⟩ | ⟨y, z⟩
      · obtain ⟨o2, _, _, ho2, hd2, _⟩ := hn
        rw [← z, e] at ho2; cases ho2; rw [hd] at hd2; cases hd2
      · obtain ⟨o2, ho2, hd2⟩ := hc n' b z
        rw [e] at ho2; cases ho2; rw [hd] at hd2; cases hd2
      · obtain ⟨vs', n', g⟩ := (S.own2 y b z).2
        rw [e] at g; cases g; exact absurd hcls (by simp)
/-- the content, told against the heap of this moment -/
theorem Sta.reDict {A hN ok s₀ Kp W s} (S : Sta C k A hN ok s₀ Kp env own W ρ s) (hnl : Mine.noLent own = true) (far : FarD d env W) (D : DictH (okW ok W false) C s.heap d kvs) : DictH (okW ok W false) C (hide s.heap (gone env own W)) d kvs :=
  let r := S.reLeaves hnl far; D.gen r.d r.l r.t
/-- statements that leave the dict alone, then the rest -/
theorem ExD.split {pre : List Stmt} {O : List Str} {Γ : DCtx} (hnl : noLent own = true) (h : ∀ h (u : Up C.base h), DictH (fun _ => True) (C.on h u) h d kvs → Ex (C.on h u) k env own ρ pre (Nx O Γ)) (r : ExD d C k env O (mk Γ) kvs rest P R) : ExD d C k env own ρ kvs (pre ++ rest) P R := fun A hN ok s₀ Kp W s Q E S nk far D f => by
  rw [execs_append]
  have D1 := S.reDict hnl far D
  have hup := S.hideUp
  refine wpAny_bind (h _ S.reUp (D1.gen (fun o e => e) (fun b vs n e o => ⟨e, trivial⟩) fun b o e _ _ => e) A _ ok s _ W s _ E S.re { next := fun own' W' ρ' s' p S' => ?_, brk := fun _ _ _ _ q => q.elim, cont := fun _ _ _ _ q => q.elim, ret := fun _ _ _ _ q => q.elim })
  obtain ⟨e1, a⟩ := p
  subst e1
  have up' : Up (hide s.heap (gone env own W)) s'.heap := fun b o e => S'.keep b o e
  have hd : ∃ o, (hide s.heap (gone env own W)).get? d = some o := let ⟨_, xs, ⟨o, _, _, g, _⟩, _⟩ := D1; ⟨o, g⟩
  have far' : FarD d env W' := ⟨far.l, far.c, fun y q => by obtain ⟨o, g⟩ := hd; exact (S'.own2 y d q).1 o g⟩
  refine r A hN ok s₀ Kp W' s' Q E ((S.back S').forget a.sub) nk far' ?_ f
  refine D1.gen (fun o e => up' _ _ e) (fun b vs n e o => ⟨up' _ _ e, o.1, fun y q => absurd e ((S'.own2 y b q).1 _)⟩) fun b o e _ _ => up' _ _ e
theorem ExD.if_ {b : Bool} (hnl : noLent own = true) (ht : ∀ h (u : Up C.base h), DictH (fun _ => True) (C.on h u) h d kvs → Tst (C.on h u) k env own ρ t b) (h1 : b = true → ExD d C k env own ρ kvs (body ++ rest) P R) (h2 : b = false → ExD d C k env own ρ kvs (orelse ++ rest) P R) : ExD d C k env own ρ kvs (.If t body orelse pos :: rest) P R := by
  intro A hN ok s₀ Kp W s Q E S nk far D f Γ p hΓ
  have D1 := S.reDict hnl far D
  rw [execs_cons, Sem.wp_bind', exec_If, Sem.wp_bind', Sem.wp_cmd_standAt, Sem.wp_bind']
  refine ht _ S.reUp (D1.gen (fun o e => e) (fun b vs n e o => ⟨e, trivial⟩) fun b o e _ _ => e) A ok W s (fun b s' => ∀ p', Sem.wp (model C.prog C.w) Γ (if b = true then execs body env else execs orelse env) (fun x p'' s'' => Sem.wp (model C.prog C.w) Γ (match x with | .next => execs rest env | f => pure f) (fun a _ s' => Q a s') (fun e _ s' => E e s') p'' s'') (fun e _ s' => E e s') p' s') E S.re.cur (fun h' tk u p' => ?_) Γ pos hΓ |> fun z => Sem.wp_mono _ Γ _ (fun b' p' s' q => q p') (fun _ _ _ q => q) _ _ z
  cases b with
  | true =>
    have z := h1 rfl A hN ok s₀ Kp W _ Q E (S.on u tk) nk far (D.up u) f Γ p' hΓ
    rw [execs_append, Sem.wp_bind'] at z
    exact z
  | false =>
    have z := h2 rfl A hN ok s₀ Kp W _ Q E (S.on u tk) nk far (D.up u) f Γ p' hΓ
    rw [execs_append, Sem.wp_bind'] at z
    exact z
/-- return words -/
theorem ExD.ret (hρ : ρ x = some (mx, opq d)) (h : R kvs) (hd : (x == ("__debug__" : Str)) = false) (hn : (x == ("__classdict__" : Str)) = false) : ExD d C k env own ρ kvs (.Return (some (.Name x npos)) pos :: rest) P R := fun A hN ok s₀ Kp W s Q E S nk far D f =>
  wpAny_execs_cons (wpAny_Return_some (load_opq (npos := npos) hρ hd hn A ok W s _ E S.cur fun h' tk u => f.ret kvs _ h (let ⟨h0, t0, e0⟩ := S.same; ⟨h', tk, by rw [e0]⟩) (fun b o q => u b o (S.keep b o q)) ((D.gen (fun o e => e) (fun b vs n e o => ⟨e, o.1⟩) fun b o e _ _ => e).up u)))
/-- words[key] = e, the key new -/
theorem ExD.setD (he : Ev C k env own ρ e false (.list (w.map .int))) (hk : EvB C k env own ρ slice false (.tuple (key.map .int))) (hρ : ρ x = some (mx, opq d)) (hnew : (kvs.map (·.1)).contains key = false) (hz : kvs.length ≤ 1000000) (h : ExD d C k env own ρ (kvs ++ [(key, w)]) rest P R)
    (hd : (x == ("__debug__" : Str)) = false) (hn : (x == ("__classdict__" : Str)) = false) (hsw : swapsWith e (some (.Subscript (.Name x npos) slice spos)) pos.line env = pure false) : ExD d C k env own ρ kvs (.Assign [.Subscript (.Name x npos) slice spos] e pos :: rest) P R := fun A hN ok s₀ Kp W s Q E S nk far D f => by
  refine wpAny_execs_cons (wpAny_Assign_Subscript (he A ok W s _ E S.cur fun v h₁ tk₁ u₁ y => ?_) hsw)
  have S1 := S.on u₁ tk₁
  refine load_opq (npos := npos) hρ hd hn A ok W _ _ E S1.cur fun h₂ tk₂ u₂ => ?_
  have S2 := S1.on u₂ tk₂
  refine hk A ok W _ _ E S2.cur fun kv h₃ tk₃ u₃ yk => ?_
  have S3 := S2.on u₃ tk₃
  have D3 := D.up (u₁.trans (u₂.trans u₃))
  obtain ⟨a, rfl, hkey⟩ := key_of (C := C) (show Rep _ _ (.tuple (key.map .int)) kv from yk)
  obtain ⟨lo, xs, hx, e1, r, kx⟩ := id D3
  have yk0 : Rep (okW ok W false) h₃ (.tuple (key.map .int)) (.ref a) := yk
  have hxl : xs.length = kvs.length := by have := congrArg List.length e1; simpa using this
  have hnl : ¬ (atKey xs key).isSome = true := by rw [DictH.atKey_some e1, hnew]; decide
  have hnone : atKey xs key = none := by
    cases q : atKey xs key with
    | none => rfl
    | some p => rw [q] at hnl; exact absurd rfl hnl
  refine wpAny_setItem_heap (s := { s with heap := h₃, toks := tk₃ }) (by have := S.room.units; show A.units + 1 < cLine; omega) hkey hx (fun h₄ hx₄ hs₄ => ?_) (szl (by omega))
  have dl := dict_no_lst D3
  have S4 := S3.but' (c := d) dl.1 dl.2 far.l far.c nk (h' := h₄) (tk₃ + (tKind C).draws key) fun b o hb e => hs₄.extBut b o hb e
  refine h A hN ok s₀ Kp W _ Q E S4 nk far ?_ f
  rw [storedH_new hnone] at hx₄
  have kt : ∀ b o, h₃.get? b = some o → o.cls = .type "tuple" → (∃ its n, o.data = .seq its n) → h₄.get? b = some o := fun b o e hc _ => hs₄.extBut b o (fun q => by
    obtain ⟨_, xs', ⟨o', _, _, g1, g2, _⟩, _⟩ := D3
    rw [q, g1] at e; cases e; rw [g2.1] at hc; exact absurd hc (by simp)) e
  refine ⟨lo, xs ++ [(key, a, v)], hx₄, by rw [List.map_append, List.map_append, e1]; rfl, ?_, fun x hx => ?_⟩
  rotate_left
  · rcases List.mem_append.mp hx with z | z
    · exact (kx x z).keyAt kt
    · rw [List.mem_singleton.mp z]
      exact (yk0.imp fun _ _ => trivial).keyAt kt
  rw [List.map_append, List.map_append]
  have mv : ∀ {dd : PyData} {vv : Value}, Rep (okW ok W false) h₃ dd vv → Rep (okW ok W false) h₄ dd vv := fun z => z.gen (fun b vs n e o => ⟨hs₄.extBut b _ (fun q => dl.1 vs n (q ▸ e)) e, o⟩) fun b vs n e => hs₄.extBut b _ (fun q => dl.2 vs n (q ▸ e)) e
  have mvA : ∀ {ds : List PyData} {vs : List Value}, RepAll (okW ok W false) h₃ ds vs → RepAll (okW ok W false) h₄ ds vs := fun z => z.gen (fun b vs n e o => ⟨hs₄.extBut b _ (fun q => dl.1 vs n (q ▸ e)) e, o⟩) fun b vs n e => hs₄.extBut b _ (fun q => dl.2 vs n (q ▸ e)) e
  exact (mvA r).append (.one (mv (y.up (u₂.trans u₃))))
end
end Mine

namespace Mine
open PySem PySem.W PyProof.Rows

section
variable {d : Addr} {C : Cx} {k : Nat} {env : Env} {own : List Str} {ρ : DEnv} {kvs : List KV} {rest body : List Stmt} {P : Out → List KV → Prop} {R : List KV → Prop} {iter target : Expr} {md : Bool} {pos : Pos} {items : List PyData}
theorem Source.on {A : Around} {ok : Bool → Addr → Prop} {I : Addr} {fp : List Addr} {Pv : Nat → Value → Prop} {St : Nat → Heap → Prop} {F : (Str → Option Addr) → Heap → Prop} {h : Heap} {u : Up C.base h} (X : Source (C.on h u) A ok md items I fp Pv St F) : Source C A ok md items I fp Pv St F := ⟨X.wk, X.fld, X.carry, X.oth, X.item⟩
/-- lists and tuples that the frame does not own stay, where all but its own objects and the dict stay -/
theorem Sta.carryD {A hN ok s₀ Kp W W' s s'} {own' : List Str} {ρ' : DEnv} (S : Sta C k A hN ok s₀ Kp env own W ρ s) (hl : Mine.noLent own = true) (nl : ∀ vs n, s.heap.get? d ≠ some (lst vs n)) (nt : ∀ vs n, s.heap.get? d ≠ some (tup vs n))
    (S' : Sta C k A hN ok s₀ (fun b o => keepAll env W s.heap b o ∧ b ≠ d) env own' W' ρ' s') : Carry W s.heap W' s'.heap := by
  obtain ⟨m, cm, hn, hc, hv⟩ := S.frm
  have key : ∀ b o, s.heap.get? b = some o → (∃ vs n, o = lst vs n ∨ o = tup vs n) → (∀ y, W y ≠ some b) → keepAll env W s.heap b o ∧ b ≠ d := fun b o e ho hw =>
    ⟨⟨e, fun q => by
        obtain ⟨vs, n, r | r⟩ := ho
        · exact (ns_no_lst hn).1 vs n (by rw [← q, e, r])
        · exact (ns_no_lst hn).2 vs n (by rw [← q, e, r]),
      fun n c q q' => by
        obtain ⟨vs, n', r | r⟩ := ho
        · exact (cell_no_lst (hc n c q)).1 vs n' (by rw [← q', e, r])
        · exact (cell_no_lst (hc n c q)).2 vs n' (by rw [← q', e, r]), hw⟩, fun q => by
        obtain ⟨vs, n, r | r⟩ := ho
        · exact nl vs n (by rw [← q, e, r])
        · exact nt vs n (by rw [← q, e, r])⟩
  refine ⟨fun m b vs n e o => ?_, fun b vs n e => ?_⟩
  · have kb := key b _ e ⟨vs, n, .inl rfl⟩ fun y q => by have := (o y q).1; rw [S.noLent hl q] at this; cases this
    exact ⟨S'.keep _ _ kb, fun y q => absurd kb ((S'.own2 y b q).1 _)⟩
  · refine S'.keep _ _ (key b _ e ⟨vs, n, .inr rfl⟩ fun y q => ?_)
    obtain ⟨vs', n', g⟩ := (S.own2 y b q).2
    rw [g] at e
    exact absurd (show Value.type "list" = Value.type "tuple" from congrArg Obj.cls (Option.some.inj e)) (by decide)
theorem ExD.for_ (hnl0 : noLent own = true) (hi : ∀ h (u : Up C.base h), DictH (fun _ => True) (C.on h u) h d kvs → EvI (C.on h u) k env own ρ iter md items) (Inv : Nat → List Str → DEnv → List KV → Prop) (h0 : Inv 0 own ρ kvs)
    (turn : ∀ i x own ρ kvs, items[i]? = some x → Inv i own ρ kvs → ∃ own' ρ', Asg C k env own ρ target md x own' ρ' ∧ ExD d C k env own' ρ' kvs body (fun o kvs => match o with
      | .next own ρ | .cont own ρ => Inv (i + 1) own ρ kvs
      | _ => False) (fun _ => False))
    (done : ∀ own ρ kvs, Inv items.length own ρ kvs → ExD d C k env own ρ kvs rest P R)
    (hs : ∀ x, foldedSetIterable iter env x = pure x) (hnl : ∀ i own ρ kvs, Inv i own ρ kvs → noLent own = true) : ExD d C k env own ρ kvs (.For target iter body [] pos :: rest) P R := by
  intro A hN ok s₀ Kp W s Q E S nk far D f
  have D1 := S.reDict hnl0 far D
  refine wpAny_execs_cons (wpAny_For (hi _ S.reUp (D1.gen (fun o e => e) (fun b vs n e o => ⟨e, trivial⟩) fun b o e _ _ => e) A ok W s _ E S.re.cur fun I fp Pv St F h' tk u fr X0 F0 st0 => ?_) hs)
  have X := X0.on
  have kI : ∀ o, ¬ Kp I o := fun o q => by have := S.keep _ _ q; rw [fr] at this; cases this
  have dI : I ≠ d := fun q => by obtain ⟨_, xs, ⟨o, _, _, g, _⟩, _⟩ := D; rw [← q, fr] at g; cases g
  refine forLoop_rule (C := C) (fun n s' => ∃ i own W ρ kvs, n = items.length + 1 - i ∧ i ≤ items.length ∧ Inv i own ρ kvs ∧ Sta C k A hN ok s₀ Kp env own W ρ s' ∧ FarD d env W ∧ DictH (okW ok W false) C s'.heap d kvs ∧ St i s'.heap ∧ F W s'.heap) ?_ (items.length + 1) ⟨0, own, W, ρ, kvs, by omega, Nat.zero_le _, h0, S.on u tk, far, D.up u, st0, F0⟩
  rintro n s₁ ⟨i, own₁, W₁, ρ₁, kvs₁, rfl, hle, inv, S₁, far₁, D₁, st₁, F₁⟩
  obtain ⟨oI, xs, hoI, hdI, hcI⟩ := X.fld _ _ st₁
  have nl : ∀ vs n, s₁.heap.get? I ≠ some (lst vs n) := fun vs n e => by rw [hoI] at e; cases e; cases hdI
  have nt : ∀ vs n, s₁.heap.get? I ≠ some (tup vs n) := fun vs n e => by rw [hoI] at e; cases e; cases hdI
  by_cases hlt : i < items.length
  · refine X.wk.item i s₁ _ _ hlt st₁ fun v h₂ tk₂ hP st₂ hk₂ => ?_
    have hk₂' : ∀ b o, b ≠ I → s₁.heap.get? b = some o → h₂.get? b = some o := fun b o hb e => hk₂ b o (by simpa using hb) e
    have S₂ := S₁.but hoI hdI kI tk₂ hk₂'
    have D₂ : DictH (okW ok W₁ false) C h₂ d kvs₁ := D₁.gen (fun o e => hk₂' _ _ (Ne.symm dI) e) (fun b vs n e o => ⟨hk₂' b _ (fun q => nl vs n (q ▸ e)) e, o⟩) fun b o e hc hsq => hk₂' b _ (fun q => by
      obtain ⟨its, n, hd⟩ := hsq
      rw [q, hoI] at e; cases e; rw [hdI] at hd; cases hd) e
    have F₂ : F W₁ h₂ := X.carry _ _ _ _ F₁ (Carry.but hk₂' nl nt)
    refine X.go (s := { s₁ with heap := h₂, toks := tk₂ }) (i := i + 1) st₂ ?_
    have hd : items[i]? = some items[i] := List.getElem?_eq_getElem hlt
    obtain ⟨own', ρ', asg, ex⟩ := turn i items[i] own₁ ρ₁ kvs₁ hd inv
    have nl₁ := hnl _ _ _ _ inv
    have nl₃ : Mine.noLent own' = true := List.all_eq_true.mpr fun x hx => List.all_eq_true.mp nl₁ x (asg.1 x hx)
    refine asg.2 A hN ok s₀ (keepAll env W₁ h₂) W₁ _ v _ _ S₂.moreKp (X.item i v _ W₁ h₂ hP hd F₂) fun W₃ s₃ _ S₃ => ?_
    have cy₃ : Carry W₁ h₂ W₃ s₃.heap := S₂.carry nl₁ nl₃ S₃
    have F₃ : F W₃ s₃.heap := X.carry _ _ _ _ F₂ cy₃
    obtain ⟨m₂, cm₂, hn₂, hc₂, _⟩ := S₂.frm
    have kd : ∀ o, h₂.get? d = some o → keepAll env W₁ h₂ d o := fun o e => ⟨e, fun q => far₁.l q.symm, fun n c q q' => far₁.c n c q q'.symm, far₁.w⟩
    have D₃ : DictH (okW ok W₃ false) C s₃.heap d kvs₁ := D₂.gen (fun o e => S₃.keep _ _ (kd o e)) (fun b vs n e o => ⟨(cy₃.l false b vs n e o.2).1, o.1, (cy₃.l false b vs n e o.2).2⟩) fun b o e hc hsq => by
      obtain ⟨its, n, hd⟩ := hsq
      refine S₃.keep _ _ ⟨e, fun q => ?_, fun n' c q q' => ?_, fun y q => ?_⟩
      · obtain ⟨o2, _, _, ho2, hd2, _⟩ := hn₂
        have ho2 : h₂.get? env.locals = some o2 := ho2
        rw [← q, e] at ho2; cases ho2; rw [hd] at hd2; cases hd2
      · obtain ⟨o2, ho2, hd2⟩ := hc₂ n' c q
        have ho2 : h₂.get? c = some o2 := ho2
        rw [← q', e] at ho2; cases ho2; rw [hd] at hd2; cases hd2
      · obtain ⟨vs', n', g⟩ := (S₂.own2 y b q).2
        have g : h₂.get? b = some (lst vs' n') := g
        rw [e] at g; cases g; exact absurd hc (by simp)
    have far₃ : FarD d env W₃ := ⟨far₁.l, far₁.c, fun y q => by
      obtain ⟨_, xs', ⟨o, _, _, g, _⟩, _⟩ := D₂
      exact (S₃.own2 y d q).1 o (kd o g)⟩
    have dl₃ := dict_no_lst D₃
    have ownI : ∀ {W : Str → Option Addr} {own : List Str} {ρ : DEnv} {s : Shared} {Kp : Addr → Obj → Prop} {o : Obj} {xs : Array Value}, Sta C k A hN ok s₀ Kp env own W ρ s → s.heap.get? I = some o → o.data = .fields xs → keepAll env W s.heap I o := by
      intro W own ρ s Kp o xs S ho hd
      obtain ⟨m, cm, hn, hc, hv⟩ := S.frm
      refine ⟨ho, fun q => ?_, fun n c q q' => ?_, fun x q => ?_⟩
      · obtain ⟨o2, es, ep, ho2, hd2, _⟩ := hn
        rw [← q, ho] at ho2; cases ho2; rw [hd] at hd2; cases hd2
      · obtain ⟨o2, ho2, hd2⟩ := hc n c q
        rw [← q', ho] at ho2; cases ho2; rw [hd] at hd2; cases hd2
      · obtain ⟨vs, n, g⟩ := (S.own2 x I q).2
        rw [ho] at g; cases g; cases hd
    have st₃ : St (i + 1) s₃.heap := X.wk.frame _ _ _ st₂ fun b hb o e => by
      by_cases hbI : b = I
      · subst hbI
        obtain ⟨o2, xs2, ho2, hd2, _⟩ := X.fld _ _ st₂
        rw [ho2] at e; cases e
        exact S₃.keep _ _ (ownI S₂ ho2 hd2)
      · obtain ⟨vs, n, g, w⟩ := X.oth b hb hbI W₁ _ F₂
        rw [g] at e; cases e
        exact (cy₃.l _ _ _ _ g w.2).1
    have hNd : ∀ b o, hN.get? b = some o → keepAll env W₃ s₃.heap b o ∧ b ≠ d := fun b o e => ⟨S₃.kp_sub b o (S₂.kp_sub b o (S.kpN b o e)), fun q => nk o (q ▸ S.kpN b o e)⟩
    have back : ∀ b o, Kp b o → keepAll env W₃ s₃.heap b o ∧ b ≠ d := fun b o q => ⟨S₃.kp_sub b o (S₂.kp_sub b o q), fun z => nk o (z ▸ q)⟩
    have SB : Sta C k A hN ok s₀ (fun b o => keepAll env W₃ s₃.heap b o ∧ b ≠ d) env own' W₃ ρ' s₃ := S₃.moreKp.lessKp (fun b o q => q.1) hNd
    have go : ∀ own₄ W₄ ρ₄ kvs₄ s₄, Inv (i + 1) own₄ ρ₄ kvs₄ → Sta C k A hN ok s₀ (fun b o => keepAll env W₃ s₃.heap b o ∧ b ≠ d) env own₄ W₄ ρ₄ s₄ → FarD d env W₄ → DictH (okW ok W₄ false) C s₄.heap d kvs₄ →
        ∃ m, m < items.length + 1 - i ∧ ∃ i own W ρ kvs, m = items.length + 1 - i ∧ i ≤ items.length ∧ Inv i own ρ kvs ∧ Sta C k A hN ok s₀ Kp env own W ρ s₄ ∧ FarD d env W ∧ DictH (okW ok W false) C s₄.heap d kvs ∧ St i s₄.heap ∧ F W s₄.heap := by
      intro own₄ W₄ ρ₄ kvs₄ s₄ p S₄ far₄ D₄
      have cy₄ : Carry W₃ s₃.heap W₄ s₄.heap := S₃.carryD nl₃ dl₃.1 dl₃.2 S₄
      have st₄ : St (i + 1) s₄.heap := X.wk.frame _ _ _ st₃ fun b hb o e => by
        by_cases hbI : b = I
        · subst hbI
          obtain ⟨o2, xs2, ho2, hd2, _⟩ := X.fld _ _ st₃
          rw [ho2] at e; cases e
          exact S₄.keep _ _ ⟨ownI S₃ ho2 hd2, dI⟩
        · obtain ⟨vs, n, g, w⟩ := X.oth b hb hbI W₃ _ F₃
          rw [g] at e; cases e
          exact (cy₄.l _ _ _ _ g w.2).1
      exact ⟨items.length + 1 - (i + 1), by omega, i + 1, own₄, W₄, ρ₄, kvs₄, rfl, hlt, p, S₄.lessKp back S.kpN, far₄, D₄, st₄, X.carry _ _ _ _ F₃ cy₄⟩
    refine ex A hN ok s₀ _ W₃ s₃ _ _ SB (fun o q => q.2 rfl) far₃ D₃ { next := ?_, cont := ?_, ret := fun _ _ q => q.elim }
    · intro own₄ W₄ ρ₄ kvs₄ s₄ p S₄ far₄ D₄
      exact go own₄ W₄ ρ₄ kvs₄ s₄ p S₄ far₄ D₄
    · intro own₄ W₄ ρ₄ kvs₄ s₄ p S₄ far₄ D₄
      exact go own₄ W₄ ρ₄ kvs₄ s₄ p S₄ far₄ D₄
  · have hin : i = items.length := by omega
    subst hin
    refine X.wk.done s₁ _ _ st₁ fun h₂ tk₂ hk₂ => ?_
    have hk₂' : ∀ b o, b ≠ I → s₁.heap.get? b = some o → h₂.get? b = some o := fun b o hb e => hk₂ b o (by simpa using hb) e
    have S₂ := S₁.but hoI hdI kI tk₂ hk₂'
    have D₂ : DictH (okW ok W₁ false) C h₂ d kvs₁ := D₁.gen (fun o e => hk₂' _ _ (Ne.symm dI) e) (fun b vs n e o => ⟨hk₂' b _ (fun q => nl vs n (q ▸ e)) e, o⟩) fun b o e hc hsq => hk₂' b _ (fun q => by
      obtain ⟨its, n, hd⟩ := hsq
      rw [q, hoI] at e; cases e; rw [hdI] at hd; cases hd) e
    exact done own₁ ρ₁ kvs₁ inv A hN ok s₀ Kp W₁ _ Q E S₂ nk far₁ D₂ f
end
end Mine

namespace Mine
open PySem PySem.W PyProof.Rows

/-- called with such arguments, f gives a new dict -/
def FnD (C : Cx) (k : Nat) (f : Addr) (args : List PyData) (kvs : List KV) : Prop :=
  ∀ (A : Around) (ok : Bool → Addr → Prop) (s : Shared) (vs : List Value) (Q E : Value → Shared → Prop), Room k A → Up C.base s.heap → (∀ md a, s.heap.get? a = none → ok md a) → (∀ a, ok true a → ok false a) → RepAll (ok false) s.heap args vs →
    (∀ d h' tk, Up s.heap h' → s.heap.get? d = none → DictH (ok false) C h' d kvs → Q (.ref d) { s with heap := h', toks := tk }) → wpAny (model C.prog C.w) A (call (.ref f) vs) Q E s
/-- the statements end in the return of a new dict -/
def ExN (C : Cx) (k : Nat) (env : Env) (own : List Str) (ρ : DEnv) (body : List Stmt) (kvs : List KV) : Prop :=
  ∀ A hN ok s₀ Kp W s Q E, Sta C k A hN ok s₀ Kp env own W ρ s → (∀ d s', (∃ h tk, s' = { s₀ with heap := h, toks := tk }) → (∀ b o, Kp b o → s'.heap.get? b = some o) → hN.get? d = none → DictH (ok false) C s'.heap d kvs → Q (.ret (.ref d)) s') → wpAny (model C.prog C.w) A (execs body env) Q E s

theorem no_modules {C : Cx} {h : Heap} (u : Up C.base h) {D : Addr} (frD : h.get? D = none) (hD : D = h.objs.size) : (D == sysModules) = false := by
  obtain ⟨mc, hns, _⟩ := C.lim.keeps u
  obtain ⟨o2, _, _, ho2, _⟩ := hns
  have := Heap.lt_size ho2
  rw [← hD] at this
  rw [beq_eq_false_iff_ne]
  intro q
  rw [q] at this
  exact absurd this (by decide)
section
variable {C : Cx} {k : Nat} {env : Env} {own : List Str} {ρ : DEnv} {rest : List Stmt} {ke ve : Expr} {x : Str} {px dpos spos : Pos} {key w : List Int} {kvs : List KV}
/-- the content stays where a name is stored -/
theorem Sta.storeK {A hN ok s₀ Kp W s} {E : Value → Shared → Prop} {Q : Unit → Shared → Prop} {d : Addr} {bs : List Addr} (S : Sta C k A hN ok s₀ Kp env own W ρ s) (hnl : Mine.noLent own = true) (far : FarD d env W) (hbs : ∀ b, b ∈ bs → (∃ vs n, s.heap.get? b = some (lst vs n)) ∧ okW ok W false b) (hx : storable env x = true)
    (q : ∀ s', Sta C k A hN ok s₀ Kp env (less own x) (unW W x) (upd ρ x false (opqs d bs)) s' → FarD d env (unW W x) → LeavesD d (okW ok W false) s.heap (okW ok (unW W x) false) s'.heap → Q () s') : wpAny (model C.prog C.w) A (storeName env x (.ref d)) Q E s := by
  refine S.moreKp.store (md := false) (d := opqs d bs) hx (Rep.opqs d bs hbs) fun s' S' => ?_
  obtain ⟨m, cm, hn, hc, _⟩ := S.frm
  have far' : FarD d env (unW W x) := ⟨far.l, far.c, fun y e => by
    unfold unW at e
    split at e
    · cases e
    · exact far.w y e⟩
  refine q s' (S'.lessKp S.kp_sub S.kpN) far' ?_
  refine ⟨fun o e => S'.keep _ _ ⟨e, fun z => far.l z.symm, fun n c q q' => far.c n c q q'.symm, far.w⟩, fun b vs n e o => ?_, fun b o e hcls hseq => ?_⟩
  · have kb : keepAll env W s.heap b (lst vs n) := ⟨e, fun z => (ns_no_lst hn).1 vs n (z ▸ e), fun n' c z z' => (cell_no_lst (hc n' c z)).1 vs n (z' ▸ e), fun y z => by have := (o.2 y z).1; rw [S.noLent hnl z] at this; cases this⟩
    exact ⟨S'.keep _ _ kb, okW_unW o⟩
  · obtain ⟨its, n, hd⟩ := hseq
    refine S'.keep _ _ ⟨e, fun z => ?_, fun n' c z z' => ?_, fun y z => ?_⟩
    · obtain ⟨o2, _, _, ho2, hd2, _⟩ := hn
      rw [← z, e] at ho2; cases ho2; rw [hd] at hd2; cases hd2
    · obtain ⟨o2, ho2, hd2⟩ := hc n' c z
      rw [← z', e] at ho2; cases ho2; rw [hd] at hd2; cases hd2
    · obtain ⟨vs', n', g⟩ := (S.own2 y b z).2
      rw [e] at g; cases g; exact absurd hcls (by simp)
/-- as DictH; the values lie at bs -/
def DictW (ok : Addr → Prop) (C : Cx) (h : Heap) (d : Addr) (kvs : List KV) (bs : List Addr) : Prop :=
  (d == sysModules) = false ∧ ∃ xs : List (List Int × Addr × Value), h.DictOfH (tKind C) d xs ∧ xs.map (·.1) = kvs.map (·.1) ∧ RepAll ok h (kvs.map fun p => PyData.list (p.2.map .int)) (xs.map (·.2.2)) ∧ (∀ x, x ∈ xs → Rep (fun _ => True) h (.tuple (x.1.map .int)) (.ref x.2.1)) ∧ xs.map (·.2.2) = bs.map Value.ref
theorem DictW.gen {ok ok' : Addr → Prop} {h h' : Heap} {d : Addr} {bs : List Addr} (x : DictW ok C h d kvs bs) (r : LeavesD d ok h ok' h') : DictW ok' C h' d kvs bs := by
  obtain ⟨h1, xs, ⟨o, es, ep, g1, g2, g3, g4, g5, g6⟩, e1, rr, kx, eb⟩ := x
  refine ⟨h1, xs, ⟨o, es, ep, r.d o g1, g2, g3, g4, fun x hx => ?_, g6⟩, e1, rr.gen r.l fun b vs n e => r.t b _ e rfl ⟨_, _, rfl⟩, fun x hx => (kx x hx).keyAt r.t, eb⟩
  obtain ⟨o', items, n, q1, q2, q3, q4⟩ := g5 x hx
  exact ⟨o', items, n, r.t _ _ q1 q2 ⟨_, _, q3⟩, q2, q3, q4⟩
theorem refs_of {ok : Addr → Prop} {h : Heap} : ∀ {ws : List KV} {vs : List Value}, RepAll ok h (ws.map fun p => PyData.list (p.2.map .int)) vs → ∃ bs : List Addr, vs = bs.map Value.ref ∧ ∀ b, b ∈ bs → (∃ us n, h.get? b = some (lst us n)) ∧ ok b
  | [], _, r => by cases r; exact ⟨[], rfl, fun _ hb => by cases hb⟩
  | p :: ws, _, r => by
    cases r with
    | cons r1 r2 =>
      obtain ⟨bs, e, hb⟩ := refs_of (ws := ws) r2
      cases r1 with
      | @list a us n _ g o _ =>
        refine ⟨a :: bs, by rw [e]; rfl, fun b hm => ?_⟩
        rcases List.mem_cons.mp hm with z | z
        · subst z; exact ⟨⟨us, n, g⟩, o⟩
        · exact hb b z
theorem DictH.toW {ok : Addr → Prop} {h : Heap} {d : Addr} (x : DictH ok C h d kvs) : ∃ bs, DictW ok C h d kvs bs ∧ ∀ b, b ∈ bs → (∃ us n, h.get? b = some (lst us n)) ∧ ok b := by
  obtain ⟨a, xs, b, c, e, f⟩ := x
  obtain ⟨bs, eb, hb⟩ := refs_of e
  exact ⟨bs, ⟨a, xs, b, c, e, f, eb⟩, hb⟩
/-- x = {key: value} -/
theorem ExN.newDict (hk : Ev C k env own ρ ke false (.tuple (key.map .int))) (hv : Ev C k env own ρ ve false (.list (w.map .int))) (hnl : noLent own = true) (hx : storable env x = true) (hsw : swapsWith (.Dict [some ke] [ve] dpos) (some (.Name x px)) spos.line env = pure false)
    (h : ∀ d, ExD d C k env (less own x) (upd ρ x false (opq d)) [(key, w)] rest (fun _ _ => False) (fun l => l = kvs)) : ExN C k env own ρ (.Assign [.Name x px] (.Dict [some ke] [ve] dpos) spos :: rest) kvs := fun A hN ok s₀ Kp W s Q E S q => by
  refine wpAny_execs_cons (wpAny_Assign_Name ?_ hsw)
  refine wpAny_Dict_any rfl rfl (by simp) (by simp) ?_
  have u0 : Up s.heap (s.heap.push { cls := .type "dict", data := .dict #[] }) := Up.push _ _
  have S0 := S.on u0 s.toks
  have new0 : (s.heap.push { cls := .type "dict", data := .dict #[] }).DictOfH (tKind C) s.heap.objs.size [] := Heap.DictOfH.new _
  have frD : s.heap.get? s.heap.objs.size = none := Heap.get?_none_of_le (Nat.le_refl _)
  have lo := no_modules S.cur.up frD rfl
  generalize hDe : s.heap.objs.size = D at *
  refine pairTrees_cons_walk (hk A ok W _ _ E S0.cur fun kv h₁ tk₁ u₁ yk => hv A ok W _ _ E (S0.on u₁ tk₁).cur fun vv h₂ tk₂ u₂ yv => pairTrees_nil_walk ?_)
  have u12 := u₁.trans u₂
  obtain ⟨a, ea, hkey⟩ := key_of (C := C) (yk.up u₂)
  subst ea
  have hm : h₂.DictOfH (tKind C) D [] := by
    obtain ⟨o, es, ep, g1, g2, g3, g4, _, g6⟩ := new0
    exact ⟨o, es, ep, u12 _ _ g1, g2, g3, g4, fun _ hx => by simp at hx, g6⟩
  unfold storeAll
  rw [List.forIn_cons]
  refine wpAny_bind (wpAny_bind (wpAny_dictSet_heap (s := { s with heap := h₂, toks := tk₂ }) (by have := S.room.units; show A.units < cLine; omega) hkey hm (fun h₃ hm₃ hs₃ => wpAny_pure ?_) (szl (by simp))))
  dsimp only
  rw [List.forIn_nil]
  refine wpAny_pure ?_
  have up3 : Up s.heap h₃ := fun b o e => hs₃.extBut b o (fun z => by rw [z, frD] at e; cases e) (u12 b o (u0 b o e))
  have S3 := S.on up3 (tk₂ + (tKind C).draws key)
  obtain ⟨m, cm, hn, hc, _⟩ := S.frm
  have far : FarD D env W := by
    refine ⟨fun z => ?_, fun n c e z => ?_, fun y z => ?_⟩
    · obtain ⟨o2, _, _, ho2, _⟩ := hn
      rw [z, frD] at ho2; cases ho2
    · obtain ⟨o2, ho2, _⟩ := hc n c e
      rw [z, frD] at ho2; cases ho2
    · obtain ⟨vs', n', g⟩ := (S.own2 y D z).2
      rw [frD] at g; cases g
  have dl : (∀ vs n, h₂.get? D ≠ some (lst vs n)) ∧ (∀ vs n, h₂.get? D ≠ some (tup vs n)) := by
    obtain ⟨o, es, ep, g1, _, g3, _⟩ := hm
    exact ⟨fun vs n e => (by rw [g1] at e; cases e; cases g3), fun vs n e => (by rw [g1] at e; cases e; cases g3)⟩
  rw [storedH_new (by rfl)] at hm₃
  have D3 : DictH (okW ok W false) C h₃ D [(key, w)] := by
    have kt : ∀ b o, h₂.get? b = some o → o.cls = .type "tuple" → (∃ its n, o.data = .seq its n) → h₃.get? b = some o := fun b o e hc _ => hs₃.extBut b o (fun q => by
      obtain ⟨o', _, _, g1, g2, _⟩ := hm
      rw [q, g1] at e; cases e; rw [g2.1] at hc; exact absurd hc (by simp)) e
    refine ⟨lo, _, hm₃, rfl, .one ?_, fun x hx => ?_⟩
    rotate_left
    · rw [List.mem_singleton.mp hx]
      exact ((yk.up u₂).imp fun _ _ => trivial).keyAt kt
    exact yv.gen (fun b vs n e o => ⟨hs₃.extBut b _ (fun q => dl.1 vs n (q ▸ e)) e, o⟩) fun b vs n e => hs₃.extBut b _ (fun q => dl.2 vs n (q ▸ e)) e
  refine S3.storeK (bs := []) hnl far (fun b hb => by cases hb) hx fun s' S' far' lv => ?_
  have D' := D3.gen lv.d lv.l lv.t
  have nk : ∀ o, ¬ Kp D o := fun o z => by have := S.keep _ _ z; rw [frD] at this; cases this
  refine h D A hN ok s₀ Kp _ s' Q E S' nk far' D' { next := fun _ _ _ _ _ p => p.elim, cont := fun _ _ _ _ _ p => p.elim, ret := fun l s'' hR sm kp DD => ?_ }
  subst hR
  refine q D s'' sm kp ?_ DD
  cases z : hN.get? D with
  | none => rfl
  | some o => exact absurd (S.kpN _ _ z) (nk o)
end

section
variable {C : Cx} {k : Nat} {f : Addr} {fd : FuncData} {ps : List Str} {body : List Stmt} {args : List PyData} {kvs : List KV}
theorem FnD.of (X : FnAt C f fd ps body) (hlen : args.length = ps.length) (h : ∀ L, ExN C k (callEnvC fd L f) [] (entry ps false args) body kvs) : FnD C (k + 1) f args kvs := by
  intro A ok s vs Q E hr hu hnew hle hargs hQ
  obtain ⟨o, ho, hd⟩ := X.at_
  have hvl : vs.length = ps.length := by rw [hargs.length, hlen]
  have hmap : (ps.zip vs).map (·.1) = ps := by rw [List.map_fst_zip]; omega
  refine wpAny_call ?_
  refine codeAny_call_cells (by have := hr.depth; omega) (hu _ _ ho) hd (C.lim.keeps hu) (X.code.keeps hu) X.body_ (X.bind vs hvl) X.clo (fun x hx => ?_) (fun s₁ ic => ?_) X.co X.gen X.kind
  · have hm : x.1 ∈ ps := hmap ▸ List.mem_map_of_mem hx
    have := List.all_eq_true.mp (X.st s.heap.objs.size) x.1 hm
    unfold storable at this
    rcases Bool.or_eq_true_iff.mp this with q | q
    · exact .inl (eq_of_beq q)
    · obtain ⟨q1, q2⟩ := Bool.and_eq_true_iff.mp q
      exact .inr ⟨eq_of_beq q1, q2⟩
  · have hfresh : ∀ a, s.heap.objs.size ≤ a → s.heap.get? a = none := fun a ha => Heap.get?_none_of_le ha
    have S : Sta C k (A.deeper (callEnvC fd s.heap.objs.size f)) s.heap ok s (fun b o => s.heap.get? b = some o) (callEnvC fd s.heap.objs.size f) [] (fun _ => none) (entry ps false args) s₁ := by
      refine { room := hr.deeper _, top := hr.top X.gen X.co X.bi X.glob, eok := ⟨X.kind, X.glob, X.bi⟩, up := hu, new := hnew, le := hle, kpN := fun _ _ e => e, same := ic.toInCall.same, keep := ic.toInCall.keep, newL := fun o q => ?_, newC := fun n c o q q' => ?_, apart := ic.apart, frm := ?_, own1 := fun x => ?_, own2 := fun x a q => (nomatch q), inj := fun x y a q => (nomatch q) }
      · have : s.heap.get? s.heap.objs.size = some o := q
        rw [hfresh _ (Nat.le_refl _)] at this; cases this
      · have hc := ic.above n c (PySem.mem_of_lookup q)
        have : s.heap.get? c = some o := q'
        rw [hfresh _ (Nat.le_of_lt hc)] at this; cases this
      · refine ⟨_, _, ic.toInCall.ns, ic.cell, fun x md' d' e => ?_⟩
        unfold entry at e
        cases hl : (ps.zip args).lookup x with
        | none => rw [hl] at e; cases e
        | some d₀ =>
          rw [hl] at e; cases e
          have hx : x ∈ ps := by have := List.mem_map_of_mem (f := (·.1)) (PySem.mem_of_lookup hl); rw [List.map_fst_zip (by omega)] at this; exact this
          obtain ⟨v, hv, r⟩ := zip_lookup (R := fun v d => Rep (ok false) s.heap d v) ps vs args hargs.length (fun i a b h1 h2 => by
            obtain ⟨d', e', r⟩ := hargs.getV h1
            rw [h2] at e'; cases e'; exact r) hl
          refine ⟨v, bind_val (List.all_eq_true.mp (X.st s.heap.objs.size) x hx) _ _ _ (hmap.symm ▸ X.nd) hv, ?_⟩
          unfold Holds1
          exact (r.imp fun a q => ⟨q, fun _ z => nomatch z⟩).up ic.toInCall.keep
      · simp
    refine h s.heap.objs.size _ _ ok s _ _ s₁ _ _ S fun d s' sm kp fr D => ?_
    obtain ⟨h', tk, e⟩ := sm
    subst e
    exact hQ d h' tk kp fr D
/-- what is known of a def that gives a dict -/
structure DefD (C : Cx) (x : Str) (j : Nat) (R : List PyData → List KV → Prop) : Prop where
  ex : ∃ f, C.mg x = some (.ref f) ∧ (∃ o fd, C.base.get? f = some o ∧ o.data = .func fd) ∧ ∀ args kvs, R args kvs → FnD C j f args kvs
theorem DefD.of {x : Str} {j : Nat} {R : List PyData → List KV → Prop} (hg : C.mg x = some (.ref f)) (X : FnAt C f fd ps body) (h : ∀ args kvs, R args kvs → FnD C j f args kvs) : DefD C x j R :=
  ⟨f, hg, (let ⟨o, h1, h2⟩ := X.at_; ⟨o, fd, h1, h2⟩), h⟩
end
section
variable {C : Cx} {k j : Nat} {env : Env} {own : List Str} {ρ : DEnv} {rest : List Stmt} {e : Expr} {es : List Expr} {args : List PyData} {kvs : List KV} {R : List PyData → List KV → Prop} {P : Out → Prop} {x fx : Str} {px npos cpos spos : Pos}
/-- x = f(..), f gives a dict; the rest is told of its content -/
theorem Ex.callD (K : DefD C fx j R) (ha : Evs C k env own ρ (e :: es) false args) (hR : R args kvs) (hj : j ≤ k) (hk : env.kindOf fx = some .globalImplicit) (hd : (fx == ("__debug__" : Str)) = false) (he : starEach (e :: es) env = (false, eval e env) :: starEach es env)
    (hnl : noLent own = true) (hx : storable env x = true) (hsw : swapsWith (.Call (.Name fx npos) (e :: es) [] cpos) (some (.Name x px)) spos.line env = pure false)
    (h : ∀ hp (u : Up C.base hp) d bs, DictW (fun _ => True) (C.on hp u) hp d kvs bs → Ex (C.on hp u) k env (less own x) (upd ρ x false (opqs d bs)) rest P) :
    Ex C k env own ρ (.Assign [.Name x px] (.Call (.Name fx npos) (e :: es) [] cpos) spos :: rest) P := fun A hN ok s₀ Kp W s Q E S f => by
  obtain ⟨fa, hg, ⟨o, fd, ho, hdf⟩, hF⟩ := K.ex
  refine wpAny_execs_cons (wpAny_Assign_Name ?_ hsw)
  have c := S.cur
  refine Call_ ((EvK.glob (k := k) (own := own) (ρ := ρ) (pos := npos) hg hk hd) A ok W s _ E c fun h' tk u => ?_)
  refine callWith_def hdf (ha A ok W _ _ E cpos (c.on u tk) fun vs h'' tk' u' y => ⟨c.up.trans (u.trans u') _ _ ho, ?_⟩) he
  have S2 := (S.on u tk).on u' tk'
  have c' := S2.cur
  refine hF _ _ hR A (okW ok W) _ vs _ E (c'.room.le hj) c'.up (fun md a z => c'.okNew md z) (fun a z => okW_le (md := false) (md' := true) c.le rfl z) y fun d h₃ tk₃ u₃ fr D => ?_
  have S3 := S2.on u₃ tk₃
  obtain ⟨m, cm, hn, hc, _⟩ := S2.frm
  have far : FarD d env W := by
    refine ⟨fun z => ?_, fun n c e z => ?_, fun y z => ?_⟩
    · obtain ⟨o2, _, _, ho2, _⟩ := hn
      have ho2 : h''.get? env.locals = some o2 := ho2
      rw [z] at ho2; rw [show h''.get? d = none from fr] at ho2; cases ho2
    · obtain ⟨o2, ho2, _⟩ := hc n c e
      have ho2 : h''.get? c = some o2 := ho2
      rw [z] at ho2; rw [show h''.get? d = none from fr] at ho2; cases ho2
    · obtain ⟨vs', n', g⟩ := (S2.own2 y d z).2
      have g : h''.get? d = some (lst vs' n') := g
      rw [show h''.get? d = none from fr] at g; cases g
  obtain ⟨bs, DW, hbs⟩ := D.toW
  refine S3.storeK (bs := bs) hnl far hbs hx fun s' S' far' lv => ?_
  have hnl' : Mine.noLent (less own x) = true := noLent_less hnl
  have D1 := (DW.gen lv).gen (S'.reLeaves hnl' far')
  refine h _ S'.reUp d bs (D1.gen ⟨fun o e => e, fun b vs n e o => ⟨e, trivial⟩, fun b o e _ _ => e⟩) A _ ok s' _ _ s' _ E S'.re { next := fun own W ρ s p S'' => f.next own W ρ s p (S'.back S''), brk := fun own W ρ s p S'' => f.brk own W ρ s p (S'.back S''), cont := fun own W ρ s p S'' => f.cont own W ρ s p (S'.back S''), ret := fun md dd v s p sm kp r => f.ret md dd v s p ?_ (fun b o q => kp b o (S'.reKeep q)) r }
  obtain ⟨h1, t1, e1⟩ := sm
  obtain ⟨h2, t2, e2⟩ := S'.same
  exact ⟨h1, t1, by rw [e1, e2]⟩
end
end Mine

namespace Mine
open PySem PySem.W PyProof.Rows

/-- a dict with these entries, whatever its keys -/
def RawD (h : Heap) (d : Addr) (es : Array DictEntry) (ep : Nat) : Prop := ∃ o, h.get? d = some o ∧ o.ExactDict ∧ o.data = .dict es ep
theorem RawD.typeIs {s : Shared} {d : Addr} {es : Array DictEntry} {ep : Nat} (x : RawD s.heap d es ep) : s.TypeIs (.ref d) "dict" := let ⟨o, ho, hc, _⟩ := x; ⟨o, ho, hc.1⟩
theorem RawD.at {h h' : Heap} {d : Addr} {es : Array DictEntry} {ep : Nat} (x : RawD h d es ep) (u : ∀ o, h.get? d = some o → h'.get? d = some o) : RawD h' d es ep := let ⟨o, ho, r⟩ := x; ⟨o, u o ho, r⟩
theorem RawD.lt {h : Heap} {d : Addr} {es : Array DictEntry} {ep : Nat} (x : RawD h d es ep) : d < h.objs.size := let ⟨_, ho, _⟩ := x; Heap.lt_size ho
section
variable {prog : Program} {w : World} {A : Around} {E : Value → Shared → Prop} {s : Shared} {it d r : Addr} {es : Array DictEntry} {i ep : Nat}
theorem raw_iter {Q : Value → Shared → Prop} (lo : (d == sysModules) = false) (hm : RawD s.heap d es ep)
    (hQ : Q (.ref s.heap.objs.size) { s with heap := s.heap.push { cls := .type "dict_keyiterator", data := .fields #[.ref d, .int 0 0, .int es.size 0, .int ep 0] } }) : wpAny (model prog w) A (pyIter (.ref d)) Q E s := by
  obtain ⟨o, ho, hc, hdat⟩ := id hm
  refine wpAny_pyIter_slot hm.typeIs PySem.F.slot_dict_iter (wpAny_call_entry PySem.F.slot_dict_iter hm.typeIs PySem.F.entry_dict_iter ?_ (PySem.F.args_dict_iter_1 _))
  unfold Builtin.«dict.__iter__»
  refine wpAny_bind ?_
  unfold Builtin.Dict.dictSlotNone
  refine wpAny_bind (wpAny_notOrdered_dict hm.typeIs ?_)
  show wpAny _ _ (pure (Value.ref d)) _ _ s
  refine wpAny_pure ?_
  show wpAny _ _ (Builtin.Dict.showsAll d >>= _) _ _ s
  unfold Builtin.Dict.showsAll
  rw [if_neg (by rw [lo]; exact Bool.false_ne_true)]
  refine wpAny_bind (wpAny_pure (wpAny_bind (wpAny_dictEntries ho hdat (wpAny_bind (wpAny_dictEpoch ho hdat ?_)))))
  refine wpAny_bind (wpAny_newObj_type (wpAny_pure ⟨_, rfl, "dict_keyiterator", _, ⟨_, Heap.get?_push_size _ rfl, rfl⟩, PySem.F.slot_dict_keyiterator_next.lookup, ?_⟩))
  simpa [rawInt] using hQ
theorem raw_key {Q : Option Value → Shared → Prop} (hit : s.heap.IsKeyIter it d i es.size ep) (hm : RawD s.heap d es ep) {en : DictEntry} (hx : es[i]? = some en)
    (hQ : ∀ h', h'.IsKeyIter it d (i + 1) es.size ep → Heap.SameBut it s.heap h' → Q (some en.key) { s with heap := h' }) : wpAny (model prog w) A (pyNext (.ref it)) Q E s := by
  obtain ⟨o, ho, hc, hd⟩ := id hit
  obtain ⟨od, hod, hcd, hdd⟩ := id hm
  unfold pyNext
  refine wpAny_bind (wpAny_attempt (wpAny_callSpecial?_slot (name := Str.ofString "__next__") hit.typeIs PySem.F.slot_dict_keyiterator_next
    (wpAny_call_entry PySem.F.slot_dict_keyiterator_next hit.typeIs PySem.F.entry_dict_keyiterator_next ?_ (PySem.F.args_dict_keyiterator_next_1 _))))
  refine wpAny_bind (wpAny_pure (wpAny_bind (wpAny_bind ?_)))
  first | refine wpAny_bind (wpAny_typeNameOfWhole_keyiter hit.typeIs (wpAny_pure ?_)) | refine wpAny_bind (wpAny_typeNameOf_keyiter hit.typeIs (wpAny_pure ?_))
  refine wpAny_bind (wpAny_fieldsOf ho hd ?_)
  have hown : Builtin.Dict_items.ownsTuple "dict_keyiterator" = false := by decide
  simp only [hown, Bool.false_eq_true, if_false]
  show wpAny _ _ (if (Value.ref d == Value.none) = true then _ else _) _ _ s
  rw [if_neg (show ¬ ((Value.ref d == Value.none) = true) from Bool.false_ne_true)]
  refine wpAny_bind (wpAny_pure (wpAny_bind (wpAny_dictEntries hod hdd ?_)))
  rw [if_neg (by simp)]
  refine wpAny_bind (wpAny_pure (wpAny_bind (wpAny_dictEpoch hod hdd ?_)))
  rw [if_neg (by simp)]
  refine wpAny_pure ?_
  simp only [show ¬ ((i : Int) < 0) from by omega, if_false, Int.toNat_natCast, hx]
  refine wpAny_bind ?_
  first | refine wpAny_bind (wpAny_typeNameOfWhole_keyiter hit.typeIs (wpAny_pure ?_)) | refine wpAny_bind (wpAny_typeNameOf_keyiter hit.typeIs (wpAny_pure ?_))
  refine wpAny_bind (wpAny_isOneOf_keyiter hit.typeIs ?_)
  show wpAny _ _ (setField (.ref it) 1 (rawInt ((i : Int) + 1)) >>= _) _ _ s
  refine wpAny_bind (wpAny_setField ho hd (by simp) ?_)
  have hit' : (s.heap.update it (Obj.mapFields (·.setIfInBounds 1 (rawInt ((i : Int) + 1))))).IsKeyIter it d (i + 1) es.size ep :=
    ⟨_, Heap.get?_update_self _ ho (Obj.isFreed_of_fields (Obj.data_mapFields hd _)), (Obj.cls_mapFields ..).trans hc, by rw [Obj.data_mapFields hd]; simp [rawInt]⟩
  refine wpAny_bind (wpAny_holding ?_)
  refine wpAny_bind (wpAny_isOneOf_keyiter (s := { s with heap := s.heap.update it (Obj.mapFields (·.setIfInBounds 1 (rawInt ((i : Int) + 1)))) }) hit'.typeIs ?_)
  show wpAny _ _ (pure en.key) _ _ _
  exact wpAny_pure (wpAny_pure ⟨_, rfl, wpAny_pure (hQ _ hit' (Heap.SameBut.update ..))⟩)
theorem raw_key_end {Q : Option Value → Shared → Prop} (hh : A.handled = none) (hit : s.heap.IsKeyIter it d i es.size ep) (hm : RawD s.heap d es ep) (hx : es[i]? = none)
    (hQ : ∀ h', Heap.ExtBut it s.heap h' → Q none { s with heap := h' }) : wpAny (model prog w) A (pyNext (.ref it)) Q E s := by
  obtain ⟨o, ho, hc, hd⟩ := id hit
  obtain ⟨od, hod, hcd, hdd⟩ := id hm
  unfold pyNext
  refine wpAny_bind (wpAny_attempt (wpAny_callSpecial?_slot (name := Str.ofString "__next__") hit.typeIs PySem.F.slot_dict_keyiterator_next
    (wpAny_call_entry PySem.F.slot_dict_keyiterator_next hit.typeIs PySem.F.entry_dict_keyiterator_next ?_ (PySem.F.args_dict_keyiterator_next_1 _))))
  refine wpAny_bind (wpAny_pure (wpAny_bind (wpAny_bind ?_)))
  first | refine wpAny_bind (wpAny_typeNameOfWhole_keyiter hit.typeIs (wpAny_pure ?_)) | refine wpAny_bind (wpAny_typeNameOf_keyiter hit.typeIs (wpAny_pure ?_))
  refine wpAny_bind (wpAny_fieldsOf ho hd ?_)
  have hown : Builtin.Dict_items.ownsTuple "dict_keyiterator" = false := by decide
  simp only [hown, Bool.false_eq_true, if_false]
  show wpAny _ _ (if (Value.ref d == Value.none) = true then _ else _) _ _ s
  rw [if_neg (show ¬ ((Value.ref d == Value.none) = true) from Bool.false_ne_true)]
  refine wpAny_bind (wpAny_pure (wpAny_bind (wpAny_dictEntries hod hdd ?_)))
  rw [if_neg (by simp)]
  refine wpAny_bind (wpAny_pure (wpAny_bind (wpAny_dictEpoch hod hdd ?_)))
  rw [if_neg (by simp)]
  refine wpAny_pure ?_
  simp only [show ¬ ((i : Int) < 0) from by omega, if_false, Int.toNat_natCast, hx]
  refine wpAny_bind ?_
  first | refine wpAny_bind (wpAny_typeNameOfWhole_keyiter hit.typeIs (wpAny_pure ?_)) | refine wpAny_bind (wpAny_typeNameOf_keyiter hit.typeIs (wpAny_pure ?_))
  show wpAny _ _ (setField (.ref it) 0 .none >>= _) _ _ s
  refine wpAny_bind (wpAny_setField ho hd (by simp) ?_)
  show wpAny _ _ (newExc (.type "StopIteration") [] >>= _) _ _ _
  refine wpAny_bind ?_
  simp only [newExc, newTuple]
  refine wpAny_bind (wpAny_newObj_type ?_ (by size_fits))
  refine wpAny_bind (m := firstArgMember _ _) (wpAny_of_eq (a := Value.none) (by first | rfl | (simp only [firstArgMember]; rfl)) ?_)
  refine wpAny_newObj_type ?_ (by size_fits)
  simp only [raiseNew]
  refine wpAny_bind (wpAny_handled ?_)
  rw [show A.in1.handled = none from hh]
  refine wpAny_bind (wpAny_pure (wpAny_throw ?_))
  refine wpAny_bind (wpAny_isInstance (T := "StopIteration") (b := true) ⟨_, Heap.get?_push_size _ rfl, rfl⟩ isSubtype_stop ?_)
  exact wpAny_pure (hQ _ (((Heap.SameBut.update ..).extBut.push _).push _))
theorem raw_walk (hh : A.handled = none) (I : Addr) (hne : d ≠ I) (es : Array DictEntry) (ep : Nat) : Walks prog w A I [I, d] [I] es.size (fun i v => ∃ en, es[i]? = some en ∧ v = en.key) (fun i h => h.IsKeyIter I d i es.size ep ∧ RawD h d es ep) where
  sub := fun b hb => by simp at hb; simp [hb]
  frame := fun _ _ _ st hk => ⟨st.1.at fun o e => hk I (by simp) o e, st.2.at fun o e => hk d (by simp) o e⟩
  item := fun i s Q E hi st hQ => by
    refine raw_key st.1 st.2 (Array.getElem?_eq_getElem hi) fun h' hit' hs' => ?_
    exact hQ _ h' s.toks ⟨es[i], Array.getElem?_eq_getElem hi, rfl⟩ ⟨hit', st.2.at fun o e => hs'.extBut _ _ hne e⟩ fun b o hb e => hs'.extBut b o (fun h => hb (by simp [h])) e
  done := fun s Q E st hQ => raw_key_end hh st.1 st.2 (by simp) fun h' he' => hQ h' s.toks fun b o hb e => he' b o (fun h => hb (by simp [h])) e
  self := fun _ _ _ _ st hQ => wpAny_pyIter_keyiter st.1 hQ

-- values
theorem raw_values {Q : Value → Shared → Prop} (lo : (d == sysModules) = false) (hm : RawD s.heap d es ep)
    (hQ : Q (.ref s.heap.objs.size) { s with heap := s.heap.push { cls := .type "dict_values", data := .fields #[.ref d] } }) : wpAny (model prog w) A (call (.builtin "dict.values") [.ref d]) Q E s := by
  refine wpAny_call_entry PySem.F.slot_dict_values hm.typeIs PySem.F.entry_dict_values ?_ (PySem.F.args_dict_values_1 _)
  refine wpAny_bind ?_
  unfold Builtin.Dict.noArgs
  refine wpAny_bind (wpAny_notOrdered_dict hm.typeIs ?_)
  show wpAny _ _ (pure d) _ _ s
  refine wpAny_pure ?_
  show wpAny _ _ (Builtin.Dict.showsAll d >>= _) _ _ s
  unfold Builtin.Dict.showsAll
  rw [if_neg (by rw [lo]; exact Bool.false_ne_true)]
  refine wpAny_bind (wpAny_pure ?_)
  exact wpAny_bind (wpAny_newObj_type (wpAny_pure ⟨_, rfl, hQ⟩))
theorem raw_iter_values {Q : Value → Shared → Prop} (hv : s.heap.IsValuesView r d) (hm : RawD s.heap d es ep)
    (hQ : Q (.ref s.heap.objs.size) { s with heap := s.heap.push { cls := .type "dict_valueiterator", data := .fields #[.ref d, .int 0 0, .int es.size 0, .int ep 0] } }) : wpAny (model prog w) A (pyIter (.ref r)) Q E s := by
  obtain ⟨ov, hov, hcv, hdv⟩ := id hv
  obtain ⟨o, ho, hc, hdat⟩ := id hm
  refine wpAny_pyIter_slot hv.typeIs PySem.F.slot_dict_values_iter (wpAny_call_entry PySem.F.slot_dict_values_iter hv.typeIs PySem.F.entry_dict_values_iter ?_ (PySem.F.args_dict_values_iter_1 _))
  unfold Builtin.«dict_values.__iter__»
  refine wpAny_bind (wpAny_pure (wpAny_bind ?_))
  unfold Builtin.Dict_items.dictOf
  refine wpAny_bind (wpAny_field hov hdv (x := .ref d) rfl (wpAny_pure (wpAny_bind ?_)))
  unfold Builtin.Dict_items.newIterator
  refine wpAny_bind (wpAny_dictEntries ho hdat (wpAny_bind (wpAny_dictEpoch ho hdat ?_)))
  have hown : Builtin.Dict_items.ownsTuple "dict_valueiterator" = false := by decide
  simp only [hown, Bool.false_eq_true, if_false]
  refine wpAny_newObj_type (wpAny_pure ⟨_, rfl, "dict_valueiterator", _, ⟨_, Heap.get?_push_size _ rfl, rfl⟩, PySem.F.slot_dict_valueiterator_next.lookup, ?_⟩)
  simpa [rawInt] using hQ
theorem raw_val {Q : Option Value → Shared → Prop} (hit : s.heap.IsValIter it d i es.size ep) (hm : RawD s.heap d es ep) {en : DictEntry} (hx : es[i]? = some en)
    (hQ : ∀ h', h'.IsValIter it d (i + 1) es.size ep → Heap.SameBut it s.heap h' → Q (some en.val) { s with heap := h' }) : wpAny (model prog w) A (pyNext (.ref it)) Q E s := by
  obtain ⟨o, ho, hc, hd⟩ := id hit
  obtain ⟨od, hod, hcd, hdd⟩ := id hm
  unfold pyNext
  refine wpAny_bind (wpAny_attempt (wpAny_callSpecial?_slot (name := Str.ofString "__next__") hit.typeIs PySem.F.slot_dict_valueiterator_next
    (wpAny_call_entry PySem.F.slot_dict_valueiterator_next hit.typeIs PySem.F.entry_dict_valueiterator_next ?_ (PySem.F.args_dict_valueiterator_next_1 _))))
  refine wpAny_bind (wpAny_pure (wpAny_bind (wpAny_bind ?_)))
  first | refine wpAny_bind (wpAny_typeNameOfWhole_valiter hit.typeIs (wpAny_pure ?_)) | refine wpAny_bind (wpAny_typeNameOf_valiter hit.typeIs (wpAny_pure ?_))
  refine wpAny_bind (wpAny_fieldsOf ho hd ?_)
  have hown : Builtin.Dict_items.ownsTuple "dict_valueiterator" = false := by decide
  simp only [hown, Bool.false_eq_true, if_false]
  show wpAny _ _ (if (Value.ref d == Value.none) = true then _ else _) _ _ s
  rw [if_neg (show ¬ ((Value.ref d == Value.none) = true) from Bool.false_ne_true)]
  refine wpAny_bind (wpAny_pure (wpAny_bind (wpAny_dictEntries hod hdd ?_)))
  rw [if_neg (by simp)]
  refine wpAny_bind (wpAny_pure (wpAny_bind (wpAny_dictEpoch hod hdd ?_)))
  rw [if_neg (by simp)]
  refine wpAny_pure ?_
  simp only [show ¬ ((i : Int) < 0) from by omega, if_false, Int.toNat_natCast, hx]
  refine wpAny_bind ?_
  first | refine wpAny_bind (wpAny_typeNameOfWhole_valiter hit.typeIs (wpAny_pure ?_)) | refine wpAny_bind (wpAny_typeNameOf_valiter hit.typeIs (wpAny_pure ?_))
  refine wpAny_bind (wpAny_isOneOf_valiter hit.typeIs ?_)
  show wpAny _ _ (setField (.ref it) 1 (rawInt ((i : Int) + 1)) >>= _) _ _ s
  refine wpAny_bind (wpAny_setField ho hd (by simp) ?_)
  have hit' : (s.heap.update it (Obj.mapFields (·.setIfInBounds 1 (rawInt ((i : Int) + 1))))).IsValIter it d (i + 1) es.size ep :=
    ⟨_, Heap.get?_update_self _ ho (Obj.isFreed_of_fields (Obj.data_mapFields hd _)), (Obj.cls_mapFields ..).trans hc, by rw [Obj.data_mapFields hd]; simp [rawInt]⟩
  refine wpAny_bind (wpAny_holding ?_)
  refine wpAny_bind (wpAny_isOneOf_valiter (s := { s with heap := s.heap.update it (Obj.mapFields (·.setIfInBounds 1 (rawInt ((i : Int) + 1)))) }) hit'.typeIs ?_)
  refine wpAny_bind (wpAny_isOneOf_valiter (s := { s with heap := s.heap.update it (Obj.mapFields (·.setIfInBounds 1 (rawInt ((i : Int) + 1)))) }) hit'.typeIs ?_)
  show wpAny _ _ (pure en.val) _ _ _
  exact wpAny_pure (wpAny_pure ⟨_, rfl, wpAny_pure (hQ _ hit' (Heap.SameBut.update ..))⟩)
theorem raw_val_end {Q : Option Value → Shared → Prop} (hh : A.handled = none) (hit : s.heap.IsValIter it d i es.size ep) (hm : RawD s.heap d es ep) (hx : es[i]? = none)
    (hQ : ∀ h', Heap.ExtBut it s.heap h' → Q none { s with heap := h' }) : wpAny (model prog w) A (pyNext (.ref it)) Q E s := by
  obtain ⟨o, ho, hc, hd⟩ := id hit
  obtain ⟨od, hod, hcd, hdd⟩ := id hm
  unfold pyNext
  refine wpAny_bind (wpAny_attempt (wpAny_callSpecial?_slot (name := Str.ofString "__next__") hit.typeIs PySem.F.slot_dict_valueiterator_next
    (wpAny_call_entry PySem.F.slot_dict_valueiterator_next hit.typeIs PySem.F.entry_dict_valueiterator_next ?_ (PySem.F.args_dict_valueiterator_next_1 _))))
  refine wpAny_bind (wpAny_pure (wpAny_bind (wpAny_bind ?_)))
  first | refine wpAny_bind (wpAny_typeNameOfWhole_valiter hit.typeIs (wpAny_pure ?_)) | refine wpAny_bind (wpAny_typeNameOf_valiter hit.typeIs (wpAny_pure ?_))
  refine wpAny_bind (wpAny_fieldsOf ho hd ?_)
  have hown : Builtin.Dict_items.ownsTuple "dict_valueiterator" = false := by decide
  simp only [hown, Bool.false_eq_true, if_false]
  show wpAny _ _ (if (Value.ref d == Value.none) = true then _ else _) _ _ s
  rw [if_neg (show ¬ ((Value.ref d == Value.none) = true) from Bool.false_ne_true)]
  refine wpAny_bind (wpAny_pure (wpAny_bind (wpAny_dictEntries hod hdd ?_)))
  rw [if_neg (by simp)]
  refine wpAny_bind (wpAny_pure (wpAny_bind (wpAny_dictEpoch hod hdd ?_)))
  rw [if_neg (by simp)]
  refine wpAny_pure ?_
  simp only [show ¬ ((i : Int) < 0) from by omega, if_false, Int.toNat_natCast, hx]
  refine wpAny_bind ?_
  first | refine wpAny_bind (wpAny_typeNameOfWhole_valiter hit.typeIs (wpAny_pure ?_)) | refine wpAny_bind (wpAny_typeNameOf_valiter hit.typeIs (wpAny_pure ?_))
  show wpAny _ _ (setField (.ref it) 0 .none >>= _) _ _ s
  refine wpAny_bind (wpAny_setField ho hd (by simp) ?_)
  show wpAny _ _ (newExc (.type "StopIteration") [] >>= _) _ _ _
  refine wpAny_bind ?_
  simp only [newExc, newTuple]
  refine wpAny_bind (wpAny_newObj_type ?_ (by size_fits))
  refine wpAny_bind (m := firstArgMember _ _) (wpAny_of_eq (a := Value.none) (by first | rfl | (simp only [firstArgMember]; rfl)) ?_)
  refine wpAny_newObj_type ?_ (by size_fits)
  simp only [raiseNew]
  refine wpAny_bind (wpAny_handled ?_)
  rw [show A.in1.handled = none from hh]
  refine wpAny_bind (wpAny_pure (wpAny_throw ?_))
  refine wpAny_bind (wpAny_isInstance (T := "StopIteration") (b := true) ⟨_, Heap.get?_push_size _ rfl, rfl⟩ isSubtype_stop ?_)
  exact wpAny_pure (hQ _ (((Heap.SameBut.update ..).extBut.push _).push _))
theorem raw_walk_values (hh : A.handled = none) (I : Addr) (hne : d ≠ I) (es : Array DictEntry) (ep : Nat) : Walks prog w A I [I, d] [I] es.size (fun i v => ∃ en, es[i]? = some en ∧ v = en.val) (fun i h => h.IsValIter I d i es.size ep ∧ RawD h d es ep) where
  sub := fun b hb => by simp at hb; simp [hb]
  frame := fun _ _ _ st hk => ⟨st.1.at fun o e => hk I (by simp) o e, st.2.at fun o e => hk d (by simp) o e⟩
  item := fun i s Q E hi st hQ => by
    refine raw_val st.1 st.2 (Array.getElem?_eq_getElem hi) fun h' hit' hs' => ?_
    exact hQ _ h' s.toks ⟨es[i], Array.getElem?_eq_getElem hi, rfl⟩ ⟨hit', st.2.at fun o e => hs'.extBut _ _ hne e⟩ fun b o hb e => hs'.extBut b o (fun h => hb (by simp [h])) e
  done := fun s Q E st hQ => raw_val_end hh st.1 st.2 (by simp) fun h' he' => hQ h' s.toks fun b o hb e => he' b o (fun h => hb (by simp [h])) e
  self := fun _ _ _ _ st hQ => wpAny_pyIter_valiter st.1 hQ
theorem raw_src : KdlSrc prog w "dict_values" r d es.size (fun i v => ∃ en, es[i]? = some en ∧ v = en.val) (fun h => h.IsValuesView r d ∧ RawD h d es ep) where
  type := fun _ hm => hm.1.typeIs
  there := fun _ hm => ⟨let ⟨_, ho, _⟩ := hm.1; Heap.lt_size ho, hm.2.lt⟩
  keep := fun _ _ hm hk => ⟨let ⟨o, ho, x⟩ := hm.1; ⟨o, hk r (.inl rfl) o ho, x⟩, hm.2.at fun o e => hk d (.inr rfl) o e⟩
  notList := by decide
  notTuple := by decide
  hint := fun _ _ _ _ hm hq => kdl_hint_values hm.1.typeIs hq
  iter := fun _ _ hh hm => ⟨_, _, (fun _ _ hq => raw_iter_values hm.1 hm.2 hq), raw_walk_values hh _ (Nat.ne_of_lt hm.2.lt) es ep, ⟨⟨_, Heap.get?_push_size _ rfl, rfl, rfl⟩, hm.2.at fun o e => Heap.get?_push_of_some _ e⟩⟩
end
end Mine

namespace Mine
open PySem PySem.W PyProof.Rows

theorem DictW.raw {ok : Addr → Prop} {C : Cx} {h : Heap} {d : Addr} {kvs : List KV} {bs : List Addr} (x : DictW ok C h d kvs bs) : ∃ (es : Array DictEntry) (ep : Nat), RawD h d es ep ∧ es.size = kvs.length ∧ (∀ (i : Nat) (en : DictEntry), es[i]? = some en → (∃ k, (kvs.map (·.1))[i]? = some k ∧ Rep (fun _ => True) h (.tuple (k.map .int)) en.key) ∧ ((bs.map Value.ref)[i]? = some en.val)) := by
  obtain ⟨_, xs, ⟨o, es, ep, g1, g2, g3, g4, g5, g6⟩, e1, _, kx, eb⟩ := x
  refine ⟨es, ep, ⟨o, g1, g2, g3⟩, ?_, fun i en hi => ?_⟩
  · rw [← Array.length_toList, g4, List.length_map]
    have := congrArg List.length e1
    simpa using this
  · rw [← Array.getElem?_toList, g4, List.getElem?_map] at hi
    obtain ⟨x, hx, rfl⟩ := Option.map_eq_some_iff.mp hi
    refine ⟨⟨x.1, ?_, kx x (List.mem_of_getElem? hx)⟩, ?_⟩
    · rw [← e1, List.getElem?_map, hx]; rfl
    · rw [← eb, List.getElem?_map, hx]; rfl
theorem DictW.up {ok : Addr → Prop} {C : Cx} {h h' : Heap} {d : Addr} {kvs : List KV} {bs : List Addr} (x : DictW ok C h d kvs bs) (u : Up h h') : DictW ok C h' d kvs bs := x.gen ⟨fun o e => u _ _ e, fun b vs n e o => ⟨u _ _ e, o⟩, fun b o e _ _ => u _ _ e⟩
theorem DictW.lo {ok : Addr → Prop} {C : Cx} {h : Heap} {d : Addr} {kvs : List KV} {bs : List Addr} (x : DictW ok C h d kvs bs) : (d == sysModules) = false := x.1
theorem opqs_ok {ok : Addr → Prop} {h : Heap} {d : Addr} {bs : List Addr} {v : Value} (y : Rep ok h (opqs d bs) v) : ∀ b, b ∈ bs → (∃ vs n, h.get? b = some (lst vs n)) ∧ ok b := by
  generalize hq : opqs d bs = q at y
  cases y with
  | opqs a bs' hb =>
    have e : bs = bs' := by
      injection hq with hq
      injection hq with _ h2
      exact List.map_inj_right (fun x y e => by injection e with _ e; injection e with e; exact Int.ofNat.inj e) |>.mp h2
    subst e
    exact hb
  | _ => cases hq
theorem RepAll.of_refs {ok : Addr → Prop} {h : Heap} : ∀ {ws : List KV} {vs : List Value} {bs : List Addr}, RepAll (fun _ => True) h (ws.map fun p => PyData.list (p.2.map .int)) vs → vs = bs.map Value.ref → (∀ b, b ∈ bs → ok b) → RepAll ok h (ws.map fun p => PyData.list (p.2.map .int)) vs
  | [], _, _, r, _, _ => by cases r; exact .nil
  | p :: ws, _, bs, r, e, ho => by
    cases r with
    | @cons v vs _ _ r1 r2 =>
      cases bs with
      | nil => cases e
      | cons b bs =>
        rw [List.map_cons] at e
        injection e with e1 e2
        refine .cons ?_ (RepAll.of_refs (ws := ws) r2 e2 fun b' hb' => ho b' (List.mem_cons_of_mem _ hb'))
        subst e1
        generalize hv : Value.ref b = v at r1
        cases r1 with
        | @list a us n _ g _ rr =>
          injection hv with hv
          subst hv
          exact .list g (ho b (List.mem_cons_self ..)) (rr.atoms (by rw [List.all_map]; exact List.all_eq_true.mpr fun _ _ => rfl))
section
variable {C : Cx} {k : Nat} {env : Env} {own : List Str} {ρ : DEnv} {md mx : Bool} {pos npos xpos apos vpos : Pos} {x : Str} {d : Addr} {kvs : List KV} {bs : List Addr}
/-- len(words) -/
theorem Ev.lenD (B : Bis C) (D : DictW (fun _ => True) C C.base d kvs bs) (hρ : ρ x = some (mx, opqs d bs)) (hz : kvs.length ≤ 1000000) (hk : env.kindOf "len" = some .globalImplicit) (hd : (x == ("__debug__" : Str)) = false) (hn : (x == ("__classdict__" : Str)) = false)
    (he : starEach [.Name x xpos] env = (false, eval (.Name x xpos) env) :: starEach [] env) : Ev C k env own ρ (.Call (.Name "len" npos) [.Name x xpos] [] pos) md (.int kvs.length) := fun A ok W s Q E c q => by
  refine Call_ ((EvK.builtin (k := k) (own := own) (ρ := ρ) B.len bi_len (by decide) hk (by decide)) A ok W s _ E c fun h₁ tk₁ u₁ => ?_)
  refine PyProof.Rows.callWith_builtin1 (args_cons (load_opq (npos := xpos) hρ hd hn A ok W _ _ E (c.on u₁ tk₁) fun h₂ tk₂ u₂ => args_nil ?_) he) he
  obtain ⟨es, ep, hr, hsz, _⟩ := (D.up (c.up.trans (u₁.trans u₂))).raw
  refine call_len_slot (s := { s with heap := h₂, toks := tk₂ }) (n := (kvs.length : Int)) hr.typeIs PySem.F.slot_dict_len (fun Q' hq => ?_) (by omega) (by omega) (q _ h₂ _ (u₁.trans u₂) (.int _ _))
  refine wpAny_call_entry PySem.F.slot_dict_len hr.typeIs PySem.F.entry_dict_len ?_ (PySem.F.args_dict_len_1 _)
  obtain ⟨o, ho, hc, hdat⟩ := hr
  show wpAny _ _ (dictSize d >>= _) _ _ _
  unfold dictSize
  refine wpAny_bind (wpAny_bind (wpAny_dictEntries (s := { s with heap := h₂, toks := tk₂ }) ho hdat (wpAny_pure ?_)))
  show wpAny _ _ (Builtin.Dict.pendingCount d >>= _) _ _ _
  refine wpAny_bind (wpAny_pendingCount_other D.lo ?_)
  have e : ((es.size : Int) + ((0 : Nat) : Int)) = (kvs.length : Int) := by rw [hsz]; simp
  rw [e]
  exact wpAny_bind (wpAny_mkInt (wpAny_pure ⟨_, rfl, hq⟩))
/-- for s in words, in a comprehension -/
theorem EvIB.keysD (D : DictW (fun _ => True) C C.base d kvs bs) (hρ : ρ x = some (mx, opqs d bs)) (hd : (x == ("__debug__" : Str)) = false) (hn : (x == ("__classdict__" : Str)) = false) :
    EvIB C k env own ρ (.Name x npos) md (kvs.map fun p => PyData.tuple (p.1.map .int)) := fun A ok W s Q E c q => by
  refine load_opq (npos := npos) hρ hd hn A ok W s _ E c fun h₁ tk₁ u₁ => ?_
  obtain ⟨es, ep, hr, hsz, hen⟩ := (D.up (c.up.trans u₁)).raw
  refine raw_iter (s := { s with heap := h₁, toks := tk₁ }) D.lo hr ?_
  obtain ⟨oB, hoB, _⟩ : ∃ o, C.base.get? d = some o ∧ True := by obtain ⟨_, xs, ⟨o, _, _, g, _⟩, _⟩ := D; exact ⟨o, g, trivial⟩
  have hne : d ≠ h₁.objs.size := Nat.ne_of_lt hr.lt
  refine q h₁.objs.size [h₁.objs.size, d] (fun i v => ∃ en, es[i]? = some en ∧ v = en.key) (fun i h => h.IsKeyIter h₁.objs.size d i es.size ep ∧ RawD h d es ep) (fun _ h => Up h₁ h) _ _ (u₁.trans (Up.push _ _)) (u₁.none (Heap.get?_none_of_le (Nat.le_refl _))) { wk := by rw [List.length_map, ← hsz]; exact raw_walk c.room.hh _ hne es ep, fld := ?_, oth := ?_, item := ?_ } (Up.push _ _) ⟨⟨_, Heap.get?_push_size _ rfl, rfl, rfl⟩, hr.at fun o e => Heap.get?_push_of_some _ e⟩
  · rintro i h ⟨⟨o, ho, hc, hdat⟩, _⟩
    exact ⟨o, _, ho, hdat, .inr (.inr hc)⟩
  · intro b hb hbI W' h _
    simp only [List.mem_cons, List.not_mem_nil, or_false] at hb
    rcases hb with e | e
    · exact absurd e hbI
    · subst e; exact .inr ⟨oB, hoB⟩
  · rintro i v dd W' h ⟨en, hi, rfl⟩ hdd up
    obtain ⟨⟨kk, hkk, rk⟩, _⟩ := hen i en hi
    rw [List.getElem?_map] at hdd hkk
    obtain ⟨p, hp, rfl⟩ := Option.map_eq_some_iff.mp hdd
    rw [hp] at hkk
    cases hkk
    have rk := rk.up up
    generalize en.key = kv at rk
    cases rk with
    | tuple g r => exact .tuple g (r.atoms (by rw [List.all_map]; exact List.all_eq_true.mpr fun _ _ => rfl))
/-- list(words.values()) -/
theorem EvF.valuesD (B : Bis C) (D : DictW (fun _ => True) C C.base d kvs bs) (hρ : ρ x = some (mx, opqs d bs)) (hz : kvs.length ≤ 1000000) (hk : env.kindOf "list" = some .globalImplicit) (hd : (x == ("__debug__" : Str)) = false) (hn : (x == ("__classdict__" : Str)) = false)
    (hbase : attributeBase (.Name x xpos) "values" env (eval (.Name x xpos) env) = eval (.Name x xpos) env) (hline : (apos.endLine == vpos.line) = true)
    (he : starEach [.Call (.Attribute (.Name x xpos) "values" apos) [] [] vpos] env = (false, eval (.Call (.Attribute (.Name x xpos) "values" apos) [] [] vpos) env) :: starEach [] env) :
    EvF C k env own ρ (.Call (.Name "list" npos) [.Call (.Attribute (.Name x xpos) "values" apos) [] [] vpos] [] pos) false (kvs.map fun p => PyData.list (p.2.map .int)) := fun A ok W s Q E c q => by
  refine Call_ ((EvK.builtin (k := k) (own := own) (ρ := ρ) B.list bi_list (by decide) hk (by decide)) A ok W s _ E c fun h₁ tk₁ u₁ => ?_)
  refine PyProof.Rows.callWith_type1 (args_cons ?_ he) he
  refine wpAny_Call_method (T := "dict") (id := "dict.values") hbase rfl hline PySem.F.plainAttrs_dict PySem.F.slot_dict_values PySem.F.type_dict_values ?_
  have c1 := c.on u₁ tk₁
  refine load_opq (npos := xpos) hρ hd hn A ok W _ _ E c1 fun h₂ tk₂ u₂ => ?_
  have c2 := c1.on u₂ tk₂
  have D2 := D.up (c.up.trans (u₁.trans u₂))
  obtain ⟨es, ep, hr, hsz, hen⟩ := D2.raw
  refine ⟨hr.typeIs, fun a e => by injection e with e; subst e; obtain ⟨o, ho, hc, _⟩ := hr; exact ⟨o, ho, hc.2.1⟩, ?_⟩
  refine PyProof.Rows.callWith_method0 (raw_values (s := { s with heap := h₂, toks := tk₂ }) D.lo hr ?_)
  refine args_nil ?_
  have u3 : Up h₂ (h₂.push { cls := .type "dict_values", data := .fields #[.ref d] }) := Up.push _ _
  have hr3 := hr.at (h' := h₂.push { cls := .type "dict_values", data := .fields #[.ref d] }) fun o e => u3 _ _ e
  have hv3 : (h₂.push { cls := .type "dict_values", data := .fields #[.ref d] }).IsValuesView h₂.objs.size d := ⟨_, Heap.get?_push_size _ rfl, rfl, rfl⟩
  refine kdl_call (s := { s with heap := h₂.push { cls := .type "dict_values", data := .fields #[.ref d] }, toks := tk₂ }) (raw_src (es := es) (ep := ep)) c.room.hh ⟨hv3, hr3⟩ (szl (by omega)) fun h' tk acc' c' hk hnew hacc => ?_
  have up4 : Up (h₂.push { cls := .type "dict_values", data := .fields #[.ref d] }) h' := hk
  have hfr : (h₂.push { cls := .type "dict_values", data := .fields #[.ref d] }).get? (h₂.push { cls := .type "dict_values", data := .fields #[.ref d] }).objs.size = none := Heap.get?_none_of_le (Nat.le_refl _)
  have up14 := (u₁.trans u₂).trans u3
  refine q _ acc'.toList c' h' tk (up14.trans up4) (up14.none hfr) (by rw [hnew]) ?_
  have hit : acc'.toList = bs.map Value.ref := by
    refine List.ext_getElem? fun i => ?_
    rw [Array.getElem?_toList]
    have hbl : bs.length = kvs.length := by
      obtain ⟨_, xs, _, e1, _, _, eb⟩ := D
      have h1 := congrArg List.length e1
      have h2 := congrArg List.length eb
      simp only [List.length_map] at h1 h2
      omega
    cases hq : acc'[i]? with
    | none =>
      have := Array.getElem?_eq_none_iff.mp hq
      rw [hacc.1, hsz] at this
      rw [List.getElem?_eq_none (by rw [List.length_map]; omega)]
    | some v =>
      obtain ⟨en, hen1, rfl⟩ := hacc.2 i v hq
      exact ((hen i en hen1).2).symm
  rw [hit]
  obtain ⟨_, xs, _, _, rr, _, eb⟩ := D2
  rw [← eb]
  refine (rr.of_refs eb fun b hb => ?_).up (u3.trans up4)
  obtain ⟨v, lk, y⟩ := c2.has x mx _ hρ
  have hy : okW ok W false b := by
    have y := y.b
    have y : Rep (okW ok W mx) h₂ (opqs d bs) v := y
    exact okW_le c.le (by rfl) (opqs_ok y b hb).2
  refine ⟨hy, fun z => ?_⟩
  have y := y.b
  have y : Rep (okW ok W mx) h₂ (opqs d bs) v := y
  obtain ⟨⟨us, n, g⟩, _⟩ := opqs_ok y b hb
  rw [z, u3.none hfr] at g
  cases g
/-- runs.index(e) -/
theorem Ev.indexL {lx e : Expr} {ds : List PyData} {dd : PyData} {j : Nat} (hl : EvB C k env own ρ lx false (.list ds)) (hee : EvB C k env own ρ e false dd) (g1 : Gds 20 ds) (g2 : Gd 20 dd) (hj : j < ds.length) (hz : ds.length ≤ 1000000) (hit : PyData.eqv ds[j] dd = true) (hno : ∀ m (hm : m < ds.length), m < j → PyData.eqv ds[m] dd = false)
    (hbase : attributeBase lx "index" env (eval lx env) = eval lx env) (hline : (apos.endLine == vpos.line) = true)
    (he : starEach [e] env = (false, eval e env) :: starEach [] env) :
    Ev C k env own ρ (.Call (.Attribute lx "index" apos) [e] [] vpos) md (.int j) := fun A ok W s Q E c q => by
  refine wpAny_Call_method (T := "list") (id := "list.index") hbase (by rw [he]; rfl) hline PySem.F.plainAttrs_list PySem.F.slot_list_index PySem.F.type_list_index ?_
  refine hl A ok W s _ E c fun v h₁ tk₁ u₁ y => ?_
  obtain ⟨a, vs, n, rfl, g, rr⟩ := y
  refine ⟨⟨_, g, rfl⟩, fun a' e' => by injection e' with e'; subst e'; exact ⟨_, g, rfl⟩, ?_⟩
  refine PyProof.Rows.callWith_method1 (args_cons (hee A ok W _ _ E (c.on u₁ tk₁) fun w h₂ tk₂ u₂ yw => args_nil ?_) he) he
  have g2' := u₂ _ _ g
  obtain ⟨as, ra⟩ := (rr.up u₂).reads g1.lay
  obtain ⟨bs', rb⟩ := yw.reads g2.lay
  have hlen : vs.length = ds.length := rr.length
  have hmap := SeqAt.readsAll_map (h := h₂) ds vs as g1.lay ra
  have hat : ∀ m (hm : m < vs.length), SeqAt.readOf h₂ vs[m] = ds[m]'(hlen ▸ hm) := fun m hm => by
    have : (vs.map (SeqAt.readOf h₂))[m]? = ds[m]? := by rw [hmap]
    rw [List.getElem?_map, List.getElem?_eq_getElem hm, List.getElem?_eq_getElem (hlen ▸ hm)] at this
    exact Option.some.inj this
  have hd1 := g1.deep
  have hd2 := g2.deep
  have hu := c.room.units
  show wpAny _ _ (PySem.call (.builtin "list.index") [.ref a, w]) Q E { s with heap := h₂, toks := tk₂ }
  have key := PySem.SeqAt.list_indexAt a vs.toArray n Option.none #[] w (fun y => PyData.eqv (SeqAt.readOf h₂ y) dd) j (by simpa [hlen] using hj) (by omega) (by
    show PyData.eqv (SeqAt.readOf h₂ vs[j]) dd = true
    rw [hat]; exact hit) (by
    intro m hm hlt
    show PyData.eqv (SeqAt.readOf h₂ vs[m]) dd = false
    rw [hat]; exact hno m _ hlt)
  exact call_meets (s := { s with heap := h₂, toks := tk₂ }) (self := .ref a) (rest := [w]) PySem.F.slot_list_index (show Shared.TypeIs { s with heap := h₂, toks := tk₂ } (.ref a) "list" from ⟨_, g2', rfl⟩) PySem.F.entry_list_index (PySem.F.args_list_index_2 _ _) key
    ⟨g2', SeqAt.items_eqAt (s := { s with heap := h₂, toks := tk₂ }) (A := A) (by simpa using ra) rb g1.lay g2.lay (by omega), q _ h₂ _ (u₁.trans u₂) (.int _ _)⟩
end
end Mine

namespace Mine
open PySem PySem.W PyProof.Rows
section
variable {C : Cx} {k j : Nat} {env : Env} {own : List Str} {ρ : DEnv} {md mdi : Bool} {d : PyData} {pos npos cpos tpos spos py : Pos} {x x1 x2 x3 x4 y : Str} {p1 p2 p3 p4 : Pos} {R : List PyData → Bool → PyData → Prop} {elt iter l slice : Expr} {scope : Scope} {cl : List (Str × Addr)} {i : Int}
/-- f() -/
theorem Ev.callK0 (K : Def C x j R) (hR : R [] md d) (hj : j ≤ k) (hk : env.kindOf x = some .globalImplicit) (hd : (x == ("__debug__" : Str)) = false) : Ev C k env own ρ (.Call (.Name x npos) [] [] pos) md d := fun A ok W s Q E c q => by
  obtain ⟨f, hg, ⟨o, fd, ho, hdf⟩, hF⟩ := K.ex
  refine Call_ ((EvK.glob (k := k) (own := own) (ρ := ρ) (pos := npos) hg hk hd) A ok W s _ E c fun h' tk u => ?_)
  have c' := c.on u tk
  refine PySem.Calls.callWith_function (o := o) (fd := fd) (PySem.evalArgs_none ⟨⟨c.up.trans u _ _ ho, hdf⟩, ?_⟩)
  exact hF _ _ _ hR A (okW ok W) _ [] Q E (c'.room.le hj) c'.up (fun md a z => c'.okNew md z) (fun a z => okW_le (md := false) (md' := true) c.le rfl z) .nil fun v h₃ tk₃ u₃ r => q v h₃ tk₃ (u.trans u₃) r
/-- t[i], t a tuple of ints -/
theorem Ev.itemTI {ns : List Int} (hl : EvB C k env own ρ l false (.tuple (ns.map .int))) (hi : EvB C k env own ρ slice false (.int i)) (h0 : 0 ≤ i ∧ i < ns.length) (hz : Sz ns.length) (hs : ∀ o i, ∃ vs, subscripted slice false o i = operate vs (getItem o i)) : Ev C k env own ρ (.Subscript l slice pos) md (.int (ns.getD i.toNat 0)) := by
  have hz := hz.out
  rw [sizeLine_eq] at hz
  have hlt : i.toNat < ns.length := by omega
  refine EvB.at (Ev.b (Ev.itemT (md := false) (j := i.toNat) hl hi (by omega) (by omega) ?_ ?_ hs)) rfl
  · exact seqIndex_pos (by rw [List.length_map]; omega)
  · rw [List.getElem?_map, List.getElem?_eq_getElem hlt, List.getD, List.getElem?_eq_getElem hlt]; rfl
/-- a comprehension whose target is a tuple of names -/
theorem EvF.compT {α : Type} {xs : List α} {ns : List (Str × Pos)} {n : Nat} (g : α → List PyData) (inv : PyData → α) (hinv : ∀ a, inv (.tuple (g a)) = a) (f : α → PyData) (hl : ∀ a, ns.length = (g a).length) (hnd : (ns.map (·.1)).Nodup) (hi : EvI C k env own ρ iter mdi (xs.map fun a => .tuple (g a))) (hz : xs.length ≤ 1000000)
    (hcl : closureFor scope env = pure cl) (hS : compB env scope cl (freeOf scope) own (ns.map (·.1)) = true) (hfl : (freeOf scope).map (fun y => cl.lookup y) = (freeOf scope).map (fun y => env.cells.lookup y)) (hs : ∀ y, foldedSetIterable iter env y = pure y)
    (hstep : ∀ a ∈ xs, ∀ L, Ev C k (compEnvC scope cl L env) own (Mine.compR ((ns.map (·.1)).zip (g a)) mdi (freeOf scope) ρ) elt md (f a)) :
    EvF C k env own ρ (.ListComp elt [⟨.Tuple (ns.map nameE) n tpos, iter, [], 0⟩] scope pos) md (xs.map f) := by
  have S := compS hS hfl
  have := EvF.comp (md := md) (pos := pos) (target := .Tuple (ns.map nameE) n tpos) (elt := elt) (ifs := []) (p := fun _ => true) (f := fun d => f (inv d)) hi (by rw [List.length_map, sizeLine_eq]; omega) hcl (fun d hd => ?_) S.fv S.cell S.kind S.names hs
  · exact (map_inv1 hinv f (xs := xs)) ▸ this
  · obtain ⟨a, ha, e⟩ := List.mem_map.mp hd
    subst e
    refine ⟨_, AsgC.tuple (hl a) hnd, ?_, fun L => ?_⟩
    · have := S.xs
      have hz : ((ns.map (·.1)).zip (g a)).map (·.1) = ns.map (·.1) := by rw [List.map_fst_zip]; rw [List.length_map, hl a]; exact Nat.le_refl _
      rw [← hz] at this
      simpa using this
    · dsimp only
      rw [hinv]
      exact ⟨rfl, fun _ => hstep a ha L⟩
theorem EvF.compT3 {α : Type} {xs : List α} {n : Nat} (d1 d2 d3 : α → PyData) (inv : PyData → α) (hinv : ∀ a, inv (.tuple [d1 a, d2 a, d3 a]) = a) (f : α → PyData) (hnd : ([x1, x2, x3] : List Str).Nodup) (hi : EvI C k env own ρ iter mdi (xs.map fun a => .tuple [d1 a, d2 a, d3 a])) (hz : xs.length ≤ 1000000)
    (hcl : closureFor scope env = pure cl) (hS : compB env scope cl (freeOf scope) own [x1, x2, x3] = true) (hfl : (freeOf scope).map (fun y => cl.lookup y) = (freeOf scope).map (fun y => env.cells.lookup y)) (hs : ∀ y, foldedSetIterable iter env y = pure y)
    (hstep : ∀ a ∈ xs, ∀ L, Ev C k (compEnvC scope cl L env) own (Mine.compR [(x1, d1 a), (x2, d2 a), (x3, d3 a)] mdi (freeOf scope) ρ) elt md (f a)) :
    EvF C k env own ρ (.ListComp elt [⟨.Tuple [.Name x1 p1, .Name x2 p2, .Name x3 p3] n tpos, iter, [], 0⟩] scope pos) md (xs.map f) :=
  EvF.compT (ns := [(x1, p1), (x2, p2), (x3, p3)]) (fun a => [d1 a, d2 a, d3 a]) inv hinv f (fun _ => rfl) hnd hi hz hcl hS hfl hs hstep
theorem EvF.compT4 {α : Type} {xs : List α} {n : Nat} (d1 d2 d3 d4 : α → PyData) (inv : PyData → α) (hinv : ∀ a, inv (.tuple [d1 a, d2 a, d3 a, d4 a]) = a) (f : α → PyData) (hnd : ([x1, x2, x3, x4] : List Str).Nodup) (hi : EvI C k env own ρ iter mdi (xs.map fun a => .tuple [d1 a, d2 a, d3 a, d4 a])) (hz : xs.length ≤ 1000000)
    (hcl : closureFor scope env = pure cl) (hS : compB env scope cl (freeOf scope) own [x1, x2, x3, x4] = true) (hfl : (freeOf scope).map (fun y => cl.lookup y) = (freeOf scope).map (fun y => env.cells.lookup y)) (hs : ∀ y, foldedSetIterable iter env y = pure y)
    (hstep : ∀ a ∈ xs, ∀ L, Ev C k (compEnvC scope cl L env) own (Mine.compR [(x1, d1 a), (x2, d2 a), (x3, d3 a), (x4, d4 a)] mdi (freeOf scope) ρ) elt md (f a)) :
    EvF C k env own ρ (.ListComp elt [⟨.Tuple [.Name x1 p1, .Name x2 p2, .Name x3 p3, .Name x4 p4] n tpos, iter, [], 0⟩] scope pos) md (xs.map f) :=
  EvF.compT (ns := [(x1, p1), (x2, p2), (x3, p3), (x4, p4)]) (fun a => [d1 a, d2 a, d3 a, d4 a]) inv hinv f (fun _ => rfl) hnd hi hz hcl hS hfl hs hstep
theorem EvB.atoms {e : Expr} {md' : Bool} {ds : List PyData} (x : EvB C k env own ρ e md' (.list ds)) (h : ds.all Mine.atom = true) : EvB C k env own ρ e md (.list ds) := fun A ok W s Q E c q => x A ok W s Q E c fun v h' tk u y => q v h' tk u (by
  obtain ⟨a, vs, n, e1, e2, e3⟩ := y
  exact ⟨a, vs, n, e1, e2, e3.atoms h⟩)
theorem atoms_ints (ns : List Int) : (ns.map PyData.int).all Mine.atom = true := by rw [List.all_map]; exact List.all_eq_true.mpr fun _ _ => rfl
end
end Mine

namespace Mine
open PySem PySem.W PyProof.Rows
section
variable {d : Addr} {C : Cx} {k : Nat} {env : Env} {own : List Str} {ρ : DEnv} {kvs : List KV} {rest : List Stmt} {s1 s2 : Stmt} {P : Out → List KV → Prop} {R : List KV → Prop} {O : List Str}
theorem ExD.ctx (Γ : DCtx) (h : All ρ Γ) (e : ExD d C k env own (mk Γ) kvs rest P R) : ExD d C k env own ρ kvs rest P R := ExD.forget h.sub e
theorem ExD.one (O : List Str) (Γ : DCtx) (hnl : noLent own = true) (h : ∀ h (u : Up C.base h), DictH (fun _ => True) (C.on h u) h d kvs → Ex (C.on h u) k env own ρ [s1] (Nx O Γ)) (r : ExD d C k env O (mk Γ) kvs rest P R) : ExD d C k env own ρ kvs (s1 :: rest) P R := ExD.split (pre := [s1]) hnl h r
theorem ExD.two (O : List Str) (Γ : DCtx) (hnl : noLent own = true) (h : ∀ h (u : Up C.base h), DictH (fun _ => True) (C.on h u) h d kvs → Ex (C.on h u) k env own ρ [s1, s2] (Nx O Γ)) (r : ExD d C k env O (mk Γ) kvs rest P R) : ExD d C k env own ρ kvs (s1 :: s2 :: rest) P R := ExD.split (pre := [s1, s2]) hnl h r
end
end Mine

namespace Mine
open PySem PySem.W PyProof.Rows
section
variable {C : Cx} {k : Nat} {env : Env} {own : List Str} {ρ : DEnv} {e t elt iter : Expr} {md mdi : Bool} {pos npos cpos tpos spos py : Pos} {x y : Str} {scope : Scope} {cl : List (Str × Addr)} {fv : List Str} {rest : List Stmt} {P : Out → Prop} {ifs : List Expr}
/-- y = [elt for x in iter], iter maybe a dict -/
theorem Ex.asgLB {α : Type} {xs : List α} {g : α → PyData} (inv : PyData → α) (hinv : ∀ a, inv (g a) = a) (f : α → PyData) (hi : EvIB C k env own ρ iter mdi (xs.map g)) (hz : xs.length ≤ 1000000)
    (hcl : closureFor scope env = pure cl) (hS : compB env scope cl (freeOf scope) own [x] = true) (hfl : (freeOf scope).map (fun y => cl.lookup y) = (freeOf scope).map (fun y => env.cells.lookup y)) (hs : ∀ y, foldedSetIterable iter env y = pure y) (hx : storable env y = true)
    (hsw : swapsWith (.ListComp elt [⟨.Name x tpos, iter, [], 0⟩] scope pos) (some (.Name y py)) spos.line env = pure true)
    (hstep : ∀ a ∈ xs, ∀ L, Ev C k (compEnvC scope cl L env) own (Mine.compR [(x, g a)] mdi (freeOf scope) ρ) elt md (f a))
    (h : Ex C k env (y :: less own y) (upd ρ y md (.list (xs.map f))) rest P) :
    Ex C k env own ρ (.Assign [.Name y py] (.ListComp elt [⟨.Name x tpos, iter, [], 0⟩] scope pos) spos :: rest) P := by
  have S := compS hS hfl
  refine Ex.assignCompIB hi (by rw [List.length_map, sizeLine_eq]; omega) hcl (comp_M (ifs := []) (p := fun _ => true) (f := f) hinv S (fun a ha L => ⟨rfl, hstep a ha L⟩) (tpos := tpos)) ?_ S.fv S.cell S.kind S.names hx hsw hs
  rwa [map_inv1 hinv]
end
theorem slD_init {α : Type} (l : List α) : slD l none (some (-1)) = l.dropLast := by
  have e : slB l.length (some (-1)) = l.length - 1 := by unfold slB; simp only; omega
  unfold slD
  rw [e, List.dropLast_eq_take]
  rfl
end Mine

namespace Mine
open PySem PySem.W PyProof.Rows
local macro_rules | `(tactic| walk_at "comp") => `(tactic| fail)
local macro_rules | `(tactic| walk_at "gd") => `(tactic| first
  | assumption
  | exact Gd.int
  | exact Gd.bool
  | exact Gd.str (by decide)
  | exact Gd.str (by kernel_rfl)
  | exact Gds.nil
  | exact Gds.ints
  | (refine' Gd.list ?_) <;> walk_at "gd"
  | (refine' Gd.tuple ?_) <;> walk_at "gd"
  | (refine' Gds.cons ?_ ?_) <;> walk_at "gd"
  | (refine' Gds.map (fun _ => ?_)) <;> walk_at "gd")
local macro_rules | `(tactic| walk_at "call") => `(tactic| fail)
local macro_rules | `(tactic| walk_at "now") => `(tactic| first
  | (guard_target = PyData)
  | (guard_target = Int)
  | (guard_target = List PyData)
  | (guard_target = List Int)
  | (guard_target = Nat)
  | (guard_target = Bool)
  | (guard_target = Value)
  | (guard_target = List (Str × Addr))
  | ((with_reducible refine Side.mk ?_); first | assumption | omega | exact IntMulOk.of_left (by decide) | exact IntMulOk.of_right (by decide) | decide | (simp only [List.length_cons, List.length_nil, List.length_map, List.length_append, List.length_range]; omega) | skip)
  | ((with_reducible refine Sz.of ?_); first | assumption | omega | decide | (simp only [List.length_map, List.length_range, List.length_cons, List.length_nil, List.length_append, List.length_take, List.length_drop]; omega) | skip)
  | exact Now.mk rfl
  | exact Now.mk (by decide)
  | exact Now.mk (fun _ => rfl)
  | exact Now.mk (fun _ _ => ⟨_, rfl⟩)
  | exact Now.mk (by with_unfolding_all rfl))
local macro_rules | `(tactic| walk_at "ev") => `(tactic| first
  | walk_at "now"
  | (with_reducible refine' EvB.name (Now.out ?_) (Now.out ?_) (Now.out ?_) (Now.out ?_)) <;> walk_at "now"
  | (with_reducible refine' Ev.name (Now.out ?_) (Now.out ?_) (Now.out ?_) (Now.out ?_) (Now.out ?_)) <;> walk_at "now"
  | with_reducible exact Ev.int
  | with_reducible exact Ev.str
  | with_reducible exact Ev.bool
  | with_reducible exact Evs.nil
  | (with_reducible refine' Evs.cons ?_ ?_ (Now.out ?_)) <;> walk_at "ev"
  | (with_reducible refine' Ev.add ?_ ?_) <;> walk_at "ev"
  | (with_reducible refine' Ev.sub ?_ ?_) <;> walk_at "ev"
  | (with_reducible refine' Ev.neg ?_) <;> walk_at "ev"
  | (with_reducible refine' Ev.mul ?_ ?_ (Side.out ?_)) <;> walk_at "ev"
  | (with_reducible refine' Ev.mod ?_ ?_ (Side.out ?_)) <;> walk_at "ev"
  | (with_reducible refine' Ev.fdiv ?_ ?_ (Side.out ?_)) <;> walk_at "ev"
  | (with_reducible refine' Ev.itemT ?_ ?_ (Side.out ?_) (Side.out ?_) (Now.out ?_) (Now.out ?_) (Now.out ?_)) <;> walk_at "ev"
  | (with_reducible refine' Ev.itemI ?_ ?_ (Side.out ?_) ?_ (Now.out ?_)) <;> walk_at "ev"
  | (with_reducible refine' Ev.lenI (by assumption) ?_ ?_ (Now.out ?_) (Now.out ?_)) <;> walk_at "ev"
  | (with_reducible refine' Ev.lenB (by assumption) ?_ ?_ (Now.out ?_) (Now.out ?_)) <;> walk_at "ev"
  | (with_reducible refine' Ev.absB (by assumption) ?_ (Now.out ?_) (Now.out ?_)) <;> walk_at "ev"
  | (with_reducible refine' Ev.minB (by assumption) ?_ ?_ (Now.out ?_) (Now.out ?_) (Now.out ?_) (Now.out ?_)) <;> walk_at "ev"
  | (with_reducible refine' Ev.ifexpI ?_ ?_ ?_) <;> walk_at "ev"
  | (with_reducible refine' EvF.uptoI ?_ ?_ (Side.out ?_) ?_) <;> walk_at "ev"
  | (with_reducible refine' EvF.upto ?_ ?_ (Side.out ?_) ?_) <;> walk_at "ev"
  | (with_reducible refine' EvF.frm ?_ ?_ (Side.out ?_) ?_) <;> walk_at "ev"
  | (with_reducible refine' Ev.tuple ?_ (Sz.out ?_)) <;> walk_at "ev"
  | (with_reducible refine' EvF.list ?_ (Sz.out ?_)) <;> walk_at "ev"
  | (with_reducible refine' EvF.add ?_ ?_ (Sz.out ?_)) <;> walk_at "ev"
  | (with_reducible refine' EvF.copyI (by assumption) ?_ ?_ (Now.out ?_) (Now.out ?_)) <;> walk_at "ev"
  | (with_reducible refine' EvI.rangeB (by assumption) ?_ (Side.out ?_) (Now.out ?_) (Now.out ?_) (Side.out ?_)) <;> walk_at "ev"
  | (with_reducible refine' EvI.list ?_) <;> walk_at "ev"
  | (with_reducible refine' EvK.typeB (by assumption) ?_ (Now.out ?_) (Now.out ?_) (Now.out ?_)) <;> walk_at "ev"
  | (with_reducible refine' EvK.boolB (by assumption) (Now.out ?_)) <;> walk_at "ev"
  | (with_reducible refine' Tst.cmp ?_ (Now.out ?_)) <;> walk_at "ev"
  | (with_reducible refine' Tst.and2 ?_ ?_) <;> walk_at "ev"
  | (with_reducible refine' Tst.or2 ?_ ?_) <;> walk_at "ev"
  | (with_reducible refine' Cmp.eq ?_ ?_) <;> walk_at "ev"
  | (with_reducible refine' Cmp.ne ?_ ?_) <;> walk_at "ev"
  | (with_reducible refine' Cmp.lt ?_ ?_) <;> walk_at "ev"
  | (with_reducible refine' Cmp.le ?_ ?_) <;> walk_at "ev"
  | (with_reducible refine' Cmp.ge ?_ ?_) <;> walk_at "ev"
  | (with_reducible refine' Cmp.eqS ?_ ?_) <;> walk_at "ev"
  | (with_reducible refine' Cmp.neG ?_ ?_ ?_ ?_) <;> walk_at "ev"
  | walk_at "gd"
  | (with_reducible refine' Ev.cmp ?_ (Now.out ?_)) <;> walk_at "ev"
  | (with_reducible refine' Cmp.isNotK ?_ ?_ (Now.out ?_)) <;> walk_at "ev"
  | (with_reducible refine' St3.mk (fun _ _ _ => ?_)) <;> walk_at "ev"
  | walk_at "call"
  | walk_at "comp"
  | (with_reducible refine' EvF.v ?_) <;> walk_at "ev"
  | (with_reducible refine' Ev.b ?_) <;> walk_at "ev")
local macro_rules | `(tactic| walk_at "asg") => `(tactic| (refine' Ex.assign (md := false) ?_ ?_; rotate_left; walk_at "ev"))
local macro_rules | `(tactic| walk_at "ret") => `(tactic| (refine' Ex.ret (md := false) ?_ ?_; rotate_left; walk_at "ev"))
local macro_rules | `(tactic| walk_at "all") => `(tactic| repeat' (first | exact All.nil | with_reducible rfl | refine' All.put (by rfl) ?_ ?_))
local macro_rules | `(tactic| walk_at "end") => `(tactic| (refine Ex.nil ?_; refine And.intro rfl ?_; walk_at "all"))
local macro_rules | `(tactic| walk_at "own") => `(tactic| (refine' Ex.assignOwn (md := false) ?_ ?_; rotate_left; walk_at "ev"))
local macro_rules | `(tactic| walk_at "skip") => `(tactic| (refine' Ex.ifSkip ?_ ?_ ?_; rotate_left; walk_at "ev"))
local macro_rules | `(tactic| walk_at "app") => `(tactic| (refine' Ex.append (md := false) ?_ rfl rfl (Sz.out ?_) ?_; rotate_left; rotate_left; walk_at "now"; rotate_left; rotate_left; walk_at "ev"))
abbrev P36 : Program := PySem.Challenge.pw_k4_0036
abbrev dApply : DefRec := recAt P36 1
abbrev dValue : DefRec := recAt P36 2

def applyV (op : Str) (a b : Int) : Int :=
  if (op == "+") = true then a + b else if (op == "-") = true then a - b else if (op == "*") = true then a * b
  else if (op == "==") = true then (if (a == b) = true then 1 else 0) else if (op == "!=") = true then (if (a != b) = true then 1 else 0) else if (op == "<") = true then (if decide (a < b) = true then 1 else 0)
  else if (op == "and") = true then (if (a != 0 && b != 0) = true then 1 else 0) else if (op == "or") = true then (if (a != 0 || b != 0) = true then 1 else 0) else 0
inductive ApplyR : List PyData → Bool → PyData → Prop
  | mk {op : Str} {a b : Int} {md : Bool} (hm : IntMulOk a b) : ApplyR [.str op, .int a, .int b] md (.int (applyV op a b))

theorem apply_ok {C : Cx} {f : Addr} {pm code doc dV kV : Value} (X : FnAt C f (fdOf dApply pm code doc dV kV) ["op", "a", "b"] dApply.body) : ∀ args md d, ApplyR args md d → Fn C 1 f false args md d := by
  rintro _ _ _ (@⟨op, a, b, md, hm⟩)
  refine Fn.atom (md' := false) ?_ rfl
  refine Fn.of X rfl fun L => ?_
  unfold applyV
  refine Ex.if_ (b := op == "+") (by walk_at "ev") (fun h => ?_) (fun h => ?_)
  · walk_at "ret"
    rw [if_pos h]
  rw [if_neg (by rw [h]; decide)]
  refine Ex.if_ (b := op == "-") (by walk_at "ev") (fun h => ?_) (fun h => ?_)
  · walk_at "ret"
    rw [if_pos h]
  rw [if_neg (by rw [h]; decide)]
  refine Ex.if_ (b := op == "*") (by walk_at "ev") (fun h => ?_) (fun h => ?_)
  · walk_at "ret"
    rw [if_pos h]
  rw [if_neg (by rw [h]; decide)]
  refine Ex.if_ (b := op == "==") (by walk_at "ev") (fun h => ?_) (fun h => ?_)
  · walk_at "ret"
    rw [if_pos h]
  rw [if_neg (by rw [h]; decide)]
  refine Ex.if_ (b := op == "!=") (by walk_at "ev") (fun h => ?_) (fun h => ?_)
  · walk_at "ret"
    rw [if_pos h]
  rw [if_neg (by rw [h]; decide)]
  refine Ex.if_ (b := op == "<") (by walk_at "ev") (fun h => ?_) (fun h => ?_)
  · walk_at "ret"
    rw [if_pos h]
  rw [if_neg (by rw [h]; decide)]
  refine Ex.if_ (b := op == "and") (by walk_at "ev") (fun h => ?_) (fun h => ?_)
  · walk_at "ret"
    rw [if_pos h]
  rw [if_neg (by rw [h]; decide)]
  refine Ex.if_ (b := op == "or") (by walk_at "ev") (fun h => ?_) (fun h => ?_)
  · walk_at "ret"
    rw [if_pos h]
  rw [if_neg (by rw [h]; decide)]
  walk_at "ret"
  rfl

abbrev Tk := Str × Int
abbrev tokD (t : Tk) : PyData := .tuple [.str t.1, .int t.2]
def topA (s : List Int) (j : Int) : Int := s.getD ((s.length : Int) - j).toNat 0
def stepV (st s : List Int) (t : Tk) : List Int :=
  if (t.1 == "num") = true then s ++ [t.2] else if (t.1 == "var") = true then s ++ [st.getD t.2.toNat 0]
  else if (t.1 == "not") = true then s.take ((s.length : Int) - 1).toNat ++ [if (topA s 1 == 0) = true then 1 else 0]
  else s.take ((s.length : Int) - 2).toNat ++ [applyV t.1 (topA s 2) (topA s 1)]
def StepOk (st s : List Int) (t : Tk) : Prop :=
  if (t.1 == "num") = true then True else if (t.1 == "var") = true then 0 ≤ t.2 ∧ t.2 < st.length
  else if (t.1 == "not") = true then 1 ≤ s.length else 2 ≤ s.length ∧ IntMulOk (topA s 2) (topA s 1)
inductive Run (st : List Int) : List Int → List Tk → List Int → Prop
  | nil {s : List Int} : Run st s [] s
  | cons {s s' : List Int} {t : Tk} {ts : List Tk} (h : StepOk st s t) (r : Run st (stepV st s t) ts s') : Run st s (t :: ts) s'
def runV (st s : List Int) (ts : List Tk) : List Int := ts.foldl (stepV st) s
theorem Run.out {st s s' : List Int} {ts : List Tk} (r : Run st s ts s') : runV st s ts = s' := by
  induction r with
  | nil => rfl
  | cons _ _ ih => exact ih
theorem Run.ok {st s s' : List Int} {ts : List Tk} (r : Run st s ts s') : ∀ (i : Nat) (h : i < ts.length), StepOk st (runV st s (ts.take i)) ts[i] := by
  induction r with
  | nil => intro i h; cases h
  | cons h _ ih =>
    intro i hi
    cases i with
    | zero => exact h
    | succ i => exact ih i (by simpa using hi)
theorem stepV_length (st s : List Int) (t : Tk) : (stepV st s t).length ≤ s.length + 1 := by
  unfold stepV
  split
  · simp
  · split
    · simp
    · split <;> (rw [List.length_append, List.length_take, List.length_singleton]; omega)
theorem runV_length (st : List Int) : ∀ (ts : List Tk) (s : List Int), (runV st s ts).length ≤ s.length + ts.length
  | [], s => Nat.le_refl _
  | t :: ts, s => by
    have h1 := runV_length st ts (stepV st s t)
    have h2 := stepV_length st s t
    show (runV st (stepV st s t) ts).length ≤ _
    rw [List.length_cons]; omega
theorem runV_succ {st s : List Int} {ts : List Tk} {i : Nat} (h : i < ts.length) : runV st s (ts.take (i + 1)) = stepV st (runV st s (ts.take i)) ts[i] := by
  rw [runV, List.take_succ_eq_append_getElem h, List.foldl_append]
  rfl
inductive ValueR : List PyData → Bool → PyData → Prop
  | mk {ts : List Tk} {st : List Int} {v : Int} {md : Bool} (hr : Run st [] ts [v]) (h1 : ts.length ≤ 1000) (h2 : st.length ≤ 1000) : ValueR [.list (ts.map tokD), .list (st.map .int)] md (.int v)

local macro_rules | `(tactic| walk_at "call") => `(tactic| first
  | (with_reducible refine' Ev.callK (R := ApplyR) (by assumption) ?_ (ApplyR.mk (Side.out ?_)) (Now.out ?_) (Now.out ?_) (Now.out ?_) (Now.out ?_)) <;> walk_at "ev")

set_option maxHeartbeats 0 in
theorem value_ok {C : Cx} {f : Addr} {pm code doc dV kV : Value} (B : Bis C) (X : FnAt C f (fdOf dValue pm code doc dV kV) ["expr", "state"] dValue.body) (K : Def C "apply_op" 1 ApplyR) : ∀ args md d, ValueR args md d → Fn C 2 f false args md d := by
  rintro _ _ _ (@⟨ts, st, v, md, hr, h1, h2⟩)
  refine Fn.atom (md' := false) ?_ rfl
  refine Fn.of X rfl fun L => ?_
  walk_at "own"
  refine Ex.forM (xs := ts) (g := tokD) (mdi := false) ?_ ["stack"] (fun i => [("state", false, .list (st.map .int)), ("stack", false, .list ((runV st [] (ts.take i)).map .int))]) rfl ?_ rfl rfl (fun i hi => ?_) ?_ (fun _ => rfl)
  · walk_at "ev"
  · walk_at "all"
    rfl
  · have ok := hr.ok i hi
    have hlen := runV_length st (ts.take i) []
    rw [List.length_take, Nat.min_eq_left (by omega), List.length_nil, Nat.zero_add] at hlen
    rw [runV_succ hi]
    generalize ts[i] = t at *
    generalize runV st [] (ts.take i) = s at *
    obtain ⟨op, arg⟩ := t
    unfold StepOk at ok
    unfold stepV
    walk_at "asg"
    walk_at "asg"
    dsimp only at ok ⊢
    refine Ex.if_ (b := op == "num") (by walk_at "ev") (fun h => ?_) (fun h => ?_)
    · rw [if_pos h]
      walk_at "app"
      walk_at "end"
      rw [List.map_append]; rfl
    rw [if_neg (by rw [h]; decide)] at ok ⊢
    refine Ex.if_ (b := op == "var") (by walk_at "ev") (fun h => ?_) (fun h => ?_)
    · rw [if_pos h] at ok ⊢
      walk_at "app"
      walk_at "end"
      rw [List.map_append]; rfl
    rw [if_neg (by rw [h]; decide)] at ok ⊢
    refine Ex.if_ (b := op == "not") (by walk_at "ev") (fun h => ?_) (fun h => ?_)
    · rw [if_pos h] at ok ⊢
      walk_at "asg"
      walk_at "own"
      walk_at "end"
      rw [List.map_append]; rfl
    rw [if_neg (by rw [h]; decide)] at ok ⊢
    obtain ⟨ok1, ok2⟩ := ok
    have ok2 : IntMulOk (s.getD ((s.length : Int) - 2).toNat 0) (s.getD ((s.length : Int) - 1).toNat 0) := ok2
    walk_at "asg"
    walk_at "asg"
    walk_at "own"
    walk_at "end"
    rw [List.map_append]; rfl
  · rw [List.take_length, hr.out]
    walk_at "ret"
    rfl
abbrev dEnabled : DefRec := recAt P36 3
abbrev dFired : DefRec := recAt P36 4
abbrev dExplored : DefRec := recAt P36 5
abbrev listD (s : List Int) : PyData := .list (s.map .int)
-- a model: its base, the start, the rules (guard, moves)
abbrev Mv := Int × List Tk
abbrev Rl := List Tk × List Mv
abbrev moveD (m : Mv) : PyData := .tuple [.int m.1, .list (m.2.map tokD)]
abbrev ruleD (r : Rl) : PyData := .tuple [.list (r.1.map tokD), .list (r.2.map moveD)]
local macro_rules | `(tactic| walk_at "call") => `(tactic| first
  | (with_reducible refine' Ev.callK (R := ValueR) (by assumption) ?_ (ValueR.mk (Side.out ?_) (Side.out ?_) (Side.out ?_)) (Now.out ?_) (Now.out ?_) (Now.out ?_) (Now.out ?_)) <;> walk_at "ev")
local macro_rules | `(tactic| walk_at "comp") => `(tactic| first
  | (with_reducible refine' Ev.itemM (g := ruleD) (([], []) : Rl) ?_ ?_ (Side.out ?_) ?_ (Now.out ?_)) <;> walk_at "ev")

/-- the moves of a rule: where, what -/
inductive Sets (st : List Int) : List Mv → List (Int × Int) → Prop
  | nil : Sets st [] []
  | cons {i v : Int} {ts : List Tk} {ms : List Mv} {vs : List (Int × Int)} (hi : 0 ≤ i ∧ i < st.length) (hr : Run st [] ts [v]) (hl : ts.length ≤ 1000) (t : Sets st ms vs) : Sets st ((i, ts) :: ms) ((i, v) :: vs)
def setsV (base : Int) (vs : List (Int × Int)) (st : List Int) : List Int := vs.foldl (fun s p => s.set p.1.toNat (p.2.fmod base)) st
theorem Sets.length {st : List Int} {ms : List Mv} {vs : List (Int × Int)} (h : Sets st ms vs) : vs.length = ms.length := by
  induction h with
  | nil => rfl
  | cons _ _ _ _ ih => rw [List.length_cons, List.length_cons, ih]
theorem Sets.at {st : List Int} {ms : List Mv} {vs : List (Int × Int)} (h : Sets st ms vs) : ∀ (i : Nat) (hi : i < ms.length) (hi' : i < vs.length), ms[i].1 = vs[i].1 ∧ (0 ≤ vs[i].1 ∧ vs[i].1 < st.length) ∧ Run st [] ms[i].2 [vs[i].2] ∧ ms[i].2.length ≤ 1000 := by
  induction h with
  | nil => intro i hi; cases hi
  | cons hi hr hl _ ih =>
    intro j hj hj'
    cases j with
    | zero => exact ⟨rfl, hi, hr, hl⟩
    | succ j => exact ih j (by simpa using hj) (by simpa using hj')
theorem setsV_length (base : Int) : ∀ (vs : List (Int × Int)) (st : List Int), (setsV base vs st).length = st.length
  | [], st => rfl
  | v :: vs, st => by
    show (setsV base vs (st.set v.1.toNat (v.2.fmod base))).length = _
    rw [setsV_length base vs, List.length_set]
theorem setsV_succ {base : Int} {vs : List (Int × Int)} {st : List Int} {i : Nat} (h : i < vs.length) : setsV base (vs.take (i + 1)) st = (setsV base (vs.take i) st).set vs[i].1.toNat (vs[i].2.fmod base) := by
  rw [setsV, List.take_succ_eq_append_getElem h, List.foldl_append]
  rfl
inductive FiredR : List PyData → Bool → PyData → Prop
  | mk {base k : Int} {a : PyData} {rs : List Rl} {st : List Int} {vs : List (Int × Int)} {md : Bool} (hb : base ≠ 0) (hk : 0 ≤ k ∧ k < rs.length) (hs : Sets st (rs.getD k.toNat ([], [])).2 vs) (h1 : rs.length ≤ 1000) (h2 : st.length ≤ 1000) :
    FiredR [.tuple [.int base, a, .list (rs.map ruleD)], .list (st.map .int), .int k] md (.list ((setsV base vs st).map .int))
set_option maxHeartbeats 0 in
theorem fired_ok {C : Cx} {f : Addr} {pm code doc dV kV : Value} (B : Bis C) (X : FnAt C f (fdOf dFired pm code doc dV kV) ["model", "state", "k"] dFired.body) (K : Def C "value_of" 2 ValueR) : ∀ args md d, FiredR args md d → Fn C 3 f false args md d := by
  rintro _ _ _ (@⟨base, k, a, rs, st, vs, md, hb, hk, hs, h1, h2⟩)
  refine Fn.anyMd ?_
  refine Fn.of X rfl fun L => ?_
  walk_at "asg"
  refine' Ex.assignOwn (md := true) ?_ ?_
  rotate_left
  walk_at "ev"
  have hl := hs.length
  refine Ex.forM (xs := (rs.getD k.toNat ([], [])).2) (g := moveD) (mdi := false) ?_ ["new"] (fun i => [("base", false, .int base), ("state", false, .list (st.map .int)), ("new", true, .list ((setsV base (vs.take i) st).map .int))]) rfl ?_ rfl rfl (fun i hi => ?_) ?_ (fun _ => rfl)
  · walk_at "ev"
  · walk_at "all"
    rfl
  · obtain ⟨e1, e2, e3, e4⟩ := hs.at i hi (by omega)
    rw [setsV_succ (by omega)]
    have hsl := setsV_length base (vs.take i) st
    generalize (rs.getD k.toNat ([], [])).2[i] = mv at *
    generalize setsV base (vs.take i) st = cur at *
    obtain ⟨j, ts⟩ := mv
    dsimp only at e1 e3 e4
    subst e1
    refine Ex.setItem (md := true) (d := .int (vs[i].2.fmod base)) (i := vs[i].1) ?_ rfl rfl ?_ ?_ ?_ ?_ (by decide) (by decide) rfl
    · walk_at "ev"
    · walk_at "ev"
    · rw [List.length_map]; omega
    · rw [List.length_map, sizeLine_eq]; omega
    · walk_at "end"
      rw [List.map_set]
  · rw [← hl, List.take_length]
    refine Ex.drop "new" ?_
    refine Ex.ret (md := true) (Ev.name rfl rfl) rfl

inductive EnabledR : List PyData → Bool → PyData → Prop
  | mk {b a : PyData} {rs : List Rl} {st : List Int} {v : Nat → Int} {md : Bool} (hv : ∀ (i : Nat), i < rs.length → Run st [] (rs.getD i ([], [])).1 [v i] ∧ (rs.getD i ([], [])).1.length ≤ 1000) (h1 : rs.length ≤ 1000) (h2 : st.length ≤ 1000) :
    EnabledR [.tuple [b, a, .list (rs.map ruleD)], .list (st.map .int)] md (.list (((List.range rs.length).filter fun i => v i != 0).map fun i : Nat => .int (i : Int)))
set_option maxHeartbeats 0 in
theorem enabled_ok {C : Cx} {f : Addr} {pm code doc dV kV : Value} (B : Bis C) (X : FnAt C f (fdOf dEnabled pm code doc dV kV) ["model", "state"] dEnabled.body) (K : Def C "value_of" 2 ValueR) : ∀ args md d, EnabledR args md d → Fn C 3 f false args md d := by
  rintro _ _ _ (@⟨b, a, rs, st, v, md, hv, h1, h2⟩)
  refine Fn.anyMd ?_
  refine Fn.of X rfl fun L => ?_
  walk_at "asg"
  refine Ex.ret (md := true) (EvF.v (EvF.compRF (n := ((rs.map ruleD).length : Int)) (fun i => v i != 0) (fun i => .int (i : Int)) B ?_ (by rw [List.length_map]; omega) (by rw [List.length_map]; omega) rfl rfl rfl rfl rfl (fun _ => rfl) (fun i hi L => ?_))) ?_
  · walk_at "ev"
  · rw [List.length_map] at hi
    obtain ⟨e1, e2⟩ := hv i (by omega)
    refine ⟨?_, ?_⟩
    · walk_at "ev"
    · walk_at "ev"
  · rw [Int.toNat_natCast, List.length_map]
-- breadth first search: state, (parent, rule), path
abbrev Nd := List Int × (Int × Int) × List Int
def grow1 (fi : List Int → Int → List Int) (p : Nat) (nd : Nd) (k : Int) (U : List Nd) : List Nd := if (U.map (·.1)).contains (fi nd.1 k) = true then U else U ++ [(fi nd.1 k, ((p : Int), k), nd.2.2 ++ [k])]
def grows (fi : List Int → Int → List Int) (p : Nat) (nd : Nd) (ks : List Int) (U : List Nd) : List Nd := ks.foldl (fun U k => grow1 fi p nd k U) U
def bfs (en : List Int → List Int) (fi : List Int → Int → List Int) : Nat → Nat → List Nd → List Nd
  | 0, _, U => U
  | f + 1, p, U => match U[p]? with
    | none => U
    | some nd => bfs en fi f (p + 1) (grows fi p nd (en nd.1) U)
section
variable {en : List Int → List Int} {fi : List Int → Int → List Int}
theorem grow1_pre (p : Nat) (nd : Nd) (k : Int) (U : List Nd) : U <+: grow1 fi p nd k U := by
  unfold grow1; split
  · exact List.prefix_refl _
  · exact List.prefix_append _ _
theorem grows_cons (p : Nat) (nd : Nd) (k : Int) (ks : List Int) (U : List Nd) : grows fi p nd (k :: ks) U = grows fi p nd ks (grow1 fi p nd k U) := rfl
theorem grows_pre (p : Nat) (nd : Nd) : ∀ (ks : List Int) (U : List Nd), U <+: grows fi p nd ks U
  | [], U => List.prefix_refl _
  | k :: ks, U => (grow1_pre p nd k U).trans (grows_pre p nd ks _)
theorem bfs_pre : ∀ (f p : Nat) (U : List Nd), U <+: bfs en fi f p U
  | 0, _, U => List.prefix_refl _
  | f + 1, p, U => by
    rw [bfs]
    cases e : U[p]? with
    | none => exact List.prefix_refl _
    | some nd => exact (grows_pre p nd _ U).trans (bfs_pre f (p + 1) _)
theorem bfs_stop {f p : Nat} {U : List Nd} (h : U.length ≤ p) : bfs en fi f p U = U := by
  cases f with
  | zero => rfl
  | succ f => rw [bfs, List.getElem?_eq_none h]
theorem bfs_step {f p : Nat} {U : List Nd} {nd : Nd} (h : U[p]? = some nd) : bfs en fi (f + 1) p U = bfs en fi f (p + 1) (grows fi p nd (en nd.1) U) := by
  rw [bfs, h]
theorem pre_get {U V : List Nd} (h : U <+: V) {j : Nat} {x : Nd} (e : U[j]? = some x) : V[j]? = some x := by
  obtain ⟨t, rfl⟩ := h
  rw [List.getElem?_append_left (List.getElem?_eq_some_iff.mp e).1, e]
structure BInv (Good : List Int → Prop) (st0 : List Int) (U : List Nd) : Prop where
  nd : (U.map (·.1)).Nodup
  good : ∀ x ∈ U, Good x.1
  root : U[0]? = some (st0, (-1, -1), [])
  par : ∀ (j : Nat) (x : Nd), U[j]? = some x → 0 < j → ∃ (p : Nat) (y : Nd), p < j ∧ U[p]? = some y ∧ x.2.1.1 = p ∧ x.2.2 = y.2.2 ++ [x.2.1.2]
theorem BInv.start {Good : List Int → Prop} {st0 : List Int} (h : Good st0) : BInv Good st0 [(st0, (-1, -1), [])] where
  nd := by simp
  good := by intro x hx; rw [List.mem_singleton.mp hx]; exact h
  root := rfl
  par := by
    intro j x e hj
    cases j with
    | zero => omega
    | succ j => cases e
theorem BInv.grow1 {Good : List Int → Prop} {st0 : List Int} {U : List Nd} (I : BInv Good st0 U) {p : Nat} {nd : Nd} {k : Int} (hp : U[p]? = some nd) (hg : Good (fi nd.1 k)) : BInv Good st0 (grow1 fi p nd k U) := by
  unfold Mine.grow1
  split
  · exact I
  · rename_i hc
    have hc : fi nd.1 k ∉ U.map (·.1) := by simpa using hc
    have hlt := (List.getElem?_eq_some_iff.mp hp).1
    refine ⟨?_, ?_, ?_, ?_⟩
    · rw [List.map_append, List.nodup_append]
      refine ⟨I.nd, by simp, ?_⟩
      intro a ha b hb e
      rw [List.map_cons, List.map_nil, List.mem_singleton] at hb
      have hb : b = fi nd.1 k := hb
      exact hc (by rw [← hb, ← e]; exact ha)
    · intro x hx
      rcases List.mem_append.mp hx with h | h
      · exact I.good x h
      · rw [List.mem_singleton.mp h]; exact hg
    · exact pre_get (List.prefix_append _ _) I.root
    · intro j x e hj
      by_cases h : j < U.length
      · rw [List.getElem?_append_left h] at e
        obtain ⟨q, y, h1, h2, h3⟩ := I.par j x e hj
        exact ⟨q, y, h1, pre_get (List.prefix_append _ _) h2, h3⟩
      · rw [List.getElem?_append_right (by omega)] at e
        have hj0 : j - U.length = 0 := by
          have := (List.getElem?_eq_some_iff.mp e).1
          simp at this; omega
        rw [hj0] at e
        cases e
        exact ⟨p, nd, by omega, pre_get (List.prefix_append _ _) hp, rfl, rfl⟩
theorem BInv.grows {Good : List Int → Prop} {st0 : List Int} {p : Nat} {nd : Nd} : ∀ {ks : List Int} {U : List Nd}, BInv Good st0 U → U[p]? = some nd → (∀ k ∈ ks, Good (fi nd.1 k)) → BInv Good st0 (grows fi p nd ks U)
  | [], U, I, _, _ => I
  | k :: ks, U, I, hp, hg => BInv.grows (U := Mine.grow1 fi p nd k U) (I.grow1 hp (hg k (List.mem_cons_self ..))) (pre_get (grow1_pre p nd k U) hp) (fun k' h => hg k' (List.mem_cons_of_mem _ h))
theorem BInv.pos {Good : List Int → Prop} {st0 : List Int} {U : List Nd} (I : BInv Good st0 U) : 0 < U.length := (List.getElem?_eq_some_iff.mp I.root).1

theorem prefix_take {α : Type} {U V : List α} (h : U <+: V) {n : Nat} (hn : n ≤ U.length) : V.take n = U.take n := by
  obtain ⟨t, rfl⟩ := h
  rw [List.take_append_of_le_length hn]
theorem nodup_le {α : Type} [BEq α] [LawfulBEq α] : ∀ (l m : List α), l.Nodup → (∀ x ∈ l, x ∈ m) → l.length ≤ m.length
  | [], m, _, _ => Nat.zero_le _
  | a :: l, m, hn, hs => by
    have ha := hs a (List.mem_cons_self ..)
    have h1 := nodup_le l (m.erase a) (List.nodup_cons.mp hn).2 (fun x hx => by
      have hxa : x ≠ a := fun e => (List.nodup_cons.mp hn).1 (e ▸ hx)
      exact (List.mem_erase_of_ne hxa).mpr (hs x (List.mem_cons_of_mem _ hx)))
    rw [List.length_erase_of_mem ha] at h1
    have : 0 < m.length := List.length_pos_of_mem ha
    rw [List.length_cons]; omega
end
structure Lts (base : Int) (rs : List Rl) (Good : List Int → Prop) (en : List Int → List Int) (fi : List Int → Int → List Int) (N : Nat) : Prop where
  len : ∀ st, Good st → st.length ≤ 1000
  en_ : ∀ st, Good st → ∃ v : Nat → Int, (∀ (i : Nat), i < rs.length → Run st [] (rs.getD i ([], [])).1 [v i] ∧ (rs.getD i ([], [])).1.length ≤ 1000) ∧ en st = ((List.range rs.length).filter fun i => v i != 0).map fun i : Nat => (i : Int)
  fi_ : ∀ st k, Good st → k ∈ en st → ∃ vs, Sets st (rs.getD k.toNat ([], [])).2 vs ∧ fi st k = setsV base vs st ∧ Good (fi st k)
  bound : ∀ l : List (List Int), l.Nodup → (∀ s ∈ l, Good s) → l.length ≤ N
def allB (en : List Int → List Int) (fi : List Int → Int → List Int) (N : Nat) (st0 : List Int) : List Nd := bfs en fi (N + 1) 0 [(st0, (-1, -1), [])]
abbrev stD (x : Nd) : PyData := listD x.1
abbrev paD (x : Nd) : PyData := .tuple [.int x.2.1.1, .int x.2.1.2]
theorem Lts.le {base : Int} {rs : List Rl} {Good : List Int → Prop} {en : List Int → List Int} {fi : List Int → Int → List Int} {N : Nat} (T : Lts base rs Good en fi N) {st0 : List Int} {U : List Nd} (I : BInv Good st0 U) : U.length ≤ N := by
  have := T.bound (U.map (·.1)) I.nd (fun s hs => by obtain ⟨x, hx, e⟩ := List.mem_map.mp hs; exact e ▸ I.good x hx)
  rwa [List.length_map] at this
theorem Lts.k_in {base : Int} {rs : List Rl} {Good : List Int → Prop} {en : List Int → List Int} {fi : List Int → Int → List Int} {N : Nat} (T : Lts base rs Good en fi N) {st : List Int} {k : Int} (h : Good st) (hk : k ∈ en st) : 0 ≤ k ∧ k < rs.length := by
  obtain ⟨v, _, e⟩ := T.en_ st h
  rw [e] at hk
  obtain ⟨i, hi, rfl⟩ := List.mem_map.mp hk
  have := List.mem_range.mp (List.mem_filter.mp hi).1
  omega
theorem eqv_ints : ∀ (a b : List Int), PyData.eqvAll (a.map .int) (b.map .int) = (a == b)
  | [], [] => rfl
  | [], _ :: _ => rfl
  | _ :: _, [] => rfl
  | a :: as, b :: bs => by
    show (PyData.eqv (.int a) (.int b) && PyData.eqvAll (as.map .int) (bs.map .int)) = _
    rw [eqv_ints as bs]
    show (PyData.eqv (.int a) (.int b) && (as == bs)) = (a == b && as == bs)
    congr 1
theorem any_eqv (U : List Nd) (t : List Int) : ((U.map stD).any fun y => PyData.eqv y (listD t)) = (U.map (·.1)).contains t := by
  induction U with
  | nil => rfl
  | cons x U ih =>
    rw [List.map_cons, List.any_cons, List.map_cons, List.contains_cons, ih]
    congr 1
    show PyData.eqvAll (x.1.map .int) (t.map .int) = _
    rw [eqv_ints]
    cases h : (x.1 == t) with
    | true => rw [beq_iff_eq.mp h]; simp
    | false =>
      have : t ≠ x.1 := fun e => by rw [e] at h; simp at h
      simpa using this
inductive ExploredR : List PyData → Bool → PyData → Prop
  | mk {base lim : Int} {st0 : List Int} {rs : List Rl} {Good : List Int → Prop} {en : List Int → List Int} {fi : List Int → Int → List Int} {N : Nat} {md : Bool} (hb : base ≠ 0) (T : Lts base rs Good en fi N) (hg : Good st0) (h1 : rs.length ≤ 1000) (h2 : N ≤ 1000) (hl : 1 ≤ lim) :
    ExploredR [.tuple [.int base, listD st0, .list (rs.map ruleD)], .int lim] md (.tuple [.list (((allB en fi N st0).take lim.toNat).map stD), .list (((allB en fi N st0).take lim.toNat).map paD), .bool (decide (((allB en fi N st0).length : Int) ≤ lim))])
local macro_rules | `(tactic| walk_at "call") => `(tactic| fail)
set_option maxHeartbeats 0 in
theorem explored_ok {C : Cx} {f : Addr} {pm code doc dV kV : Value} (B : Bis C) (X : FnAt C f (fdOf dExplored pm code doc dV kV) ["model", "limit"] dExplored.body) (K1 : Def C "enabled" 3 EnabledR) (K2 : Def C "fired" 3 FiredR) : ∀ args md d, ExploredR args md d → Fn C 4 f false args md d := by
  rintro _ _ _ (@⟨base, lim, st0, rs, Good, en, fi, N, md, hb, T, hg, h1, h2, hl⟩)
  refine Fn.anyMd ?_
  refine Fn.of X rfl fun L => ?_
  have hsl := T.len st0 hg
  have hall : bfs en fi (N + 1) 0 [(st0, (-1, -1), [])] = allB en fi N st0 := rfl
  generalize allB en fi N st0 = all at *
  refine' Ex.assignOwn (md := true) ?_ ?_
  rotate_left
  · walk_at "ev"
  refine' Ex.assignOwn (md := true) ?_ ?_
  rotate_left
  · walk_at "ev"
  walk_at "asg"
  refine Ex.whileR (α := Nat × List Nd) ["parents", "states"] (fun a => [("model", false, .tuple [.int base, listD st0, .list (rs.map ruleD)]), ("limit", false, .int lim), ("place", false, .int (a.1 : Int)), ("states", true, .list (a.2.map stD)), ("parents", true, .list (a.2.map paD))])
    (fun a => BInv Good st0 a.2 ∧ a.1 ≤ a.2.length ∧ (a.2.length : Int) ≤ lim ∧ bfs en fi (N + 1 - a.1) a.1 a.2 = all) (fun a => N + 1 - a.1) (fun a => decide ((a.1 : Int) < ((a.2.map stD).length : Int))) (0, [(st0, (-1, -1), [])]) rfl ?_ ⟨BInv.start hg, Nat.zero_le _, by show (1 : Int) ≤ lim; exact hl, hall⟩ (fun a hI => ?_) (fun a hI ht => ?_) (fun a hI ht => ?_)
  · walk_at "all"
    all_goals rfl
  · obtain ⟨p, U⟩ := a
    have hU := T.le hI.1
    dsimp only at hU ⊢
    walk_at "ev"
  · obtain ⟨p, U⟩ := a
    obtain ⟨I, hp, hlim, hbfs⟩ := hI
    dsimp only at I hp hlim hbfs ht ⊢
    have hU := T.le I
    have ht := of_decide_eq_true ht
    rw [List.length_map] at ht
    have hpl : p < U.length := by omega
    obtain ⟨nd, hnd⟩ : ∃ nd, U[p]? = some nd := ⟨U[p], List.getElem?_eq_getElem hpl⟩
    have hgn : Good nd.1 := I.good nd (List.mem_of_getElem? hnd)
    have hnl := T.len nd.1 hgn
    rw [show N + 1 - p = (N - p) + 1 from by omega, bfs_step hnd] at hbfs
    refine' Ex.assign (md := true) (d := stD nd) ?_ ?_
    · refine' Ev.itemL (md := true) (ds := U.map stD) (i := (p : Int)) ?_ ?_ (by omega) (by rw [Int.toNat_natCast, List.getElem?_map, hnd]; rfl) ⟨szl (by rw [List.length_map]; omega)⟩ (fun _ _ => ⟨_, rfl⟩)
      · walk_at "ev"
      · walk_at "ev"
    obtain ⟨v, hv, hen⟩ := T.en_ nd.1 hgn
    have hks : ∀ k ∈ en nd.1, Good (fi nd.1 k) := fun k hk => by obtain ⟨_, _, _, g⟩ := T.fi_ nd.1 k hgn hk; exact g
    have hkin : ∀ k ∈ en nd.1, 0 ≤ k ∧ k < rs.length := fun k hk => T.k_in hgn hk
    refine Ex.forS (α := List Nd) (xs := en nd.1) (g := .int) (md := false) ?_ ["parents", "states"] (fun V => [("model", false, .tuple [.int base, listD st0, .list (rs.map ruleD)]), ("limit", false, .int lim), ("place", false, .int (p : Int)), ("here", true, stD nd), ("states", true, .list (V.map stD)), ("parents", true, .list (V.map paD))])
      (fun i V => BInv Good st0 V ∧ V[p]? = some nd ∧ (V.length : Int) ≤ lim ∧ bfs en fi (N - p) (p + 1) (grows fi p nd ((en nd.1).drop i) V) = all) U rfl ?_ ⟨I, hnd, hlim, hbfs⟩ rfl rfl (fun i hi V hV => ?_) (fun V hV => ?_) (fun _ => rfl)
    · have e : PyData.list ((en nd.1).map .int) = .list (((List.range rs.length).filter fun i => v i != 0).map fun i : Nat => .int (i : Int)) := by rw [hen, List.map_map]; rfl
      refine EvI.list ?_
      rw [e]
      exact Ev.callK (R := EnabledR) K1 (args := [.tuple [.int base, listD st0, .list (rs.map ruleD)], listD nd.1]) (by walk_at "ev") (EnabledR.mk hv h1 hnl) (by decide) rfl (by decide) rfl
    · walk_at "all"
    · obtain ⟨IV, hVp, hVl, hVb⟩ := hV
      have hVN := T.le IV
      rw [List.drop_eq_getElem_cons hi, grows_cons] at hVb
      have hkm : (en nd.1)[i] ∈ en nd.1 := List.getElem_mem hi
      generalize (en nd.1)[i] = kk at *
      obtain ⟨vs, hs1, hs2, hs3⟩ := T.fi_ nd.1 kk hgn hkm
      have hk2 := hkin kk hkm
      have htl := T.len _ hs3
      refine' Ex.assign (md := true) (d := listD (fi nd.1 kk)) ?_ ?_
      · rw [hs2]
        exact Ev.callK (R := FiredR) K2 (args := [.tuple [.int base, listD st0, .list (rs.map ruleD)], listD nd.1, .int kk]) (by walk_at "ev") (FiredR.mk hb hk2 hs1 h1 hnl) (by decide) rfl (by decide) rfl
      have hgrow := IV.grow1 (k := kk) hVp hs3
      have hpre : grow1 fi p nd kk V <+: all := by
        rw [← hVb]; exact (grows_pre p nd _ _).trans (bfs_pre _ _ _)
      refine Ex.if_ (b := !(V.map (·.1)).contains (fi nd.1 kk)) ?_ (fun h => ?_) (fun h => ?_)
      · rw [← any_eqv]
        refine Tst.cmp (Cmp.notInL (by walk_at "ev") (by walk_at "ev") ?_ ?_ ?_) rfl
        · exact (show Gd 20 (listD (fi nd.1 kk)) from Gd.list Gds.ints).lay
        · exact (show Gds 20 (V.map stD) from Gds.map fun _ => Gd.list Gds.ints).lay
        · exact Nat.le_trans (show Gd 20 (listD (fi nd.1 kk)) from Gd.list Gds.ints).deep (by decide)
      · have hc : (V.map (·.1)).contains (fi nd.1 kk) = false := by simpa using h
        have hg1 : grow1 fi p nd kk V = V ++ [(fi nd.1 kk, ((p : Int), kk), nd.2.2 ++ [kk])] := by unfold grow1; rw [if_neg (by rw [hc]; decide)]
        refine Ex.if_ (b := decide (((V.map stD).length : Int) ≥ lim)) ?_ (fun h' => ?_) (fun h' => ?_)
        · walk_at "ev"
        · have h' := of_decide_eq_true h'
          rw [List.length_map] at h'
          have e1 : all.take lim.toNat = V := by
            rw [prefix_take ((grow1_pre p nd kk V).trans hpre) (by omega), List.take_of_length_le (by omega)]
          have e2 : decide ((all.length : Int) ≤ lim) = false := by
            refine decide_eq_false ?_
            have := hpre.length_le
            rw [hg1, List.length_append, List.length_singleton] at this
            omega
          refine Ex.free ?_
          refine Ex.ret (md := true) (d := .tuple [.list (V.map stD), .list (V.map paD), .bool false]) ?_ ?_
          · walk_at "ev"
          · rw [e1, e2]
        · have h' := of_decide_eq_false h'
          rw [List.length_map] at h'
          refine' Ex.append (md := true) (d := listD (fi nd.1 kk)) (by walk_at "ev") rfl rfl (szl (by rw [List.length_map]; omega)) ?_
          refine' Ex.append (md := true) (d := .tuple [.int (p : Int), .int kk]) (by walk_at "ev") rfl rfl (szl (by rw [List.length_map]; omega)) ?_
          refine Ex.nil ?_
          refine And.intro rfl ⟨grow1 fi p nd kk V, ⟨hgrow, pre_get (grow1_pre p nd kk V) hVp, by rw [hg1, List.length_append, List.length_singleton]; omega, hVb⟩, ?_⟩
          rw [hg1]
          walk_at "all"
          all_goals (rw [List.map_append]; rfl)
      · have hc : (V.map (·.1)).contains (fi nd.1 kk) = true := by simpa using h
        have hg1 : grow1 fi p nd kk V = V := by unfold grow1; rw [if_pos hc]
        rw [hg1] at hVb
        refine Ex.nil ?_
        refine And.intro rfl ⟨V, ⟨IV, hVp, hVl, hVb⟩, ?_⟩
        walk_at "all"
    · obtain ⟨IV, hVp, hVl, hVb⟩ := hV
      have hVN := T.le IV
      have hplv := (List.getElem?_eq_some_iff.mp hVp).1
      rw [List.drop_length] at hVb
      walk_at "asg"
      refine Ex.nil ?_
      refine And.intro rfl ⟨(p + 1, V), by show N + 1 - (p + 1) < N + 1 - p; omega, ⟨IV, by show p + 1 ≤ V.length; omega, hVl, by show bfs en fi (N + 1 - (p + 1)) (p + 1) V = all; rw [show N + 1 - (p + 1) = N - p from by omega]; exact hVb⟩, ?_⟩
      walk_at "all"
      all_goals rfl
  · obtain ⟨p, U⟩ := a
    obtain ⟨I, hp, hlim, hbfs⟩ := hI
    dsimp only at I hp hlim hbfs ht ⊢
    have ht := of_decide_eq_false ht
    rw [List.length_map] at ht
    rw [bfs_stop (by omega)] at hbfs
    subst hbfs
    refine Ex.free ?_
    refine Ex.ret (md := true) (d := .tuple [.list (U.map stD), .list (U.map paD), .bool true]) ?_ ?_
    · walk_at "ev"
    · rw [List.take_of_length_le (by omega), decide_eq_true hlim]
abbrev dOps : DefRec := recAt P36 7
abbrev dCell : DefRec := recAt P36 8
abbrev dPlain : DefRec := recAt P36 9
abbrev dData : DefRec := recAt P36 10
abbrev dHolds : DefRec := recAt P36 11
abbrev dAfter : DefRec := recAt P36 12
abbrev dWords : DefRec := recAt P36 13
abbrev dLaw : DefRec := recAt P36 14
local macro_rules | `(tactic| walk_at "call") => `(tactic| fail)
local macro_rules | `(tactic| walk_at "comp") => `(tactic| fail)
abbrev opsL : List Str := ["!=", "<", "-", "=="]
inductive OpsR : List PyData → Bool → PyData → Prop
  | mk {md : Bool} : OpsR [] md (.list (opsL.map .str))
theorem ops_ok {C : Cx} {f : Addr} {pm code doc dV kV : Value} (X : FnAt C f (fdOf dOps pm code doc dV kV) [] dOps.body) : ∀ args md d, OpsR args md d → Fn C 1 f false args md d := by
  rintro _ _ _ (@⟨md⟩)
  refine Fn.anyMd ?_
  refine Fn.of X rfl fun L => ?_
  refine Ex.ret (md := true) (d := .list [.str "!=", .str "<", .str "-", .str "=="]) ?_ rfl
  walk_at "ev"
def cellV (ns : List Int) (i : Int) : Int := if i < ns.length then ns.getD i.toNat 0 else 0
inductive CellR : List PyData → Bool → PyData → Prop
  | mk {ns : List Int} {i : Int} {md : Bool} (h0 : 0 ≤ i) (hn : ns.length ≤ 63) : CellR [.list (ns.map .int), .int i] md (.int (cellV ns i))
theorem cell_ok {C : Cx} {f : Addr} {pm code doc dV kV : Value} (B : Bis C) (X : FnAt C f (fdOf dCell pm code doc dV kV) ["script", "i"] dCell.body) : ∀ args md d, CellR args md d → Fn C 1 f false args md d := by
  rintro _ _ _ (@⟨ns, i, md, h0, hn⟩)
  refine Fn.atom (md' := false) ?_ rfl
  refine Fn.of X rfl fun L => ?_
  refine Ex.if_ (b := decide (i < ns.length)) ?_ (fun h => ?_) (fun h => ?_)
  · walk_at "ev"
  · have h := of_decide_eq_true h
    walk_at "ret"
    rw [cellV, if_pos h]
  · have h := of_decide_eq_false h
    walk_at "ret"
    rw [cellV, if_neg h]
-- a rule: the guard's variable, operator and number, the moves
abbrev S3 := Int × Int × Int
abbrev s3D (s : S3) : PyData := .tuple [.int s.1, .int s.2.1, .int s.2.2]
def s3Of : PyData → S3
  | .tuple [.int a, .int b, .int c] => (a, b, c)
  | _ => (0, 0, 0)
theorem s3_inv (s : S3) : s3Of (s3D s) = s := rfl
abbrev R4 := Int × Str × Int × List S3
abbrev r4D (r : R4) : PyData := .tuple [.int r.1, .str r.2.1, .int r.2.2.1, .list (r.2.2.2.map s3D)]
abbrev r0 : R4 := (0, "", 0, [])
def r4Of : PyData → R4
  | .tuple [.int a, .str b, .int c, .list l] => (a, b, c, l.map s3Of)
  | _ => r0
theorem r4_inv (r : R4) : r4Of (r4D r) = r := by
  obtain ⟨a, b, c, l⟩ := r
  show (a, b, c, (l.map s3D).map s3Of) = _
  rw [List.map_map]
  have : (s3Of ∘ s3D) = id := funext fun s => s3_inv s
  rw [this, List.map_id]
def setsP (ns : List Int) (nv : Int) (r : Nat) : List S3 :=
  if ((cellV ns (6 + 3 * (r : Int))).fmod 3 == 0) = true then [(((cellV ns (5 + 3 * (r : Int))).fdiv 4).fmod nv, ((cellV ns (6 + 3 * (r : Int))).fdiv 2).fmod nv, ((cellV ns (6 + 3 * (r : Int))).natAbs : Int)), (((cellV ns (6 + 3 * (r : Int))).fdiv 2).fmod nv, ((cellV ns (5 + 3 * (r : Int))).fdiv 4).fmod nv, 1)]
  else [(((cellV ns (5 + 3 * (r : Int))).fdiv 4).fmod nv, ((cellV ns (6 + 3 * (r : Int))).fdiv 2).fmod nv, ((cellV ns (6 + 3 * (r : Int))).natAbs : Int))]
def plainV (ns : List Int) (nv : Int) (r : Nat) : R4 := ((cellV ns (4 + 3 * (r : Int))).fmod nv, opsL.getD ((cellV ns (5 + 3 * (r : Int))).fmod 4).toNat "", ((cellV ns (4 + 3 * (r : Int))).fdiv 2 + 1).fmod 4, setsP ns nv r)
inductive PlainR : List PyData → Bool → PyData → Prop
  | mk {ns : List Int} {nv cnt : Int} (hn : ns.length ≤ 63) (hv : nv ≠ 0) (hc : 0 ≤ cnt ∧ cnt ≤ 3) : PlainR [.list (ns.map .int), .int nv, .int cnt] false (.list (((List.range cnt.toNat).map (plainV ns nv)).map r4D))
local macro_rules | `(tactic| walk_at "call") => `(tactic| first
  | (with_reducible refine' Ev.callK (R := CellR) (by assumption) ?_ (CellR.mk (Side.out ?_) (Side.out ?_)) (Now.out ?_) (Now.out ?_) (Now.out ?_) (Now.out ?_)) <;> walk_at "ev")
set_option maxHeartbeats 0 in
theorem plain_ok {C : Cx} {f : Addr} {pm code doc dV kV : Value} (B : Bis C) (X : FnAt C f (fdOf dPlain pm code doc dV kV) ["script", "nvars", "count"] dPlain.body) (K : Def C "_law_cell" 1 CellR) (K2 : Def C "_law_ops" 1 OpsR) : ∀ args md d, PlainR args md d → Fn C 2 f false args md d := by
  rintro _ _ _ (@⟨ns, nv, cnt, hn, hv, hc⟩)
  refine Fn.of X rfl fun L => ?_
  walk_at "own"
  refine' Ex.forN (n := cnt) ?_ ["plain"] (fun i => [("script", false, .list (ns.map .int)), ("nvars", false, .int nv), ("count", false, .int cnt), ("plain", false, .list (((List.range i).map (plainV ns nv)).map r4D))]) rfl ?_ rfl rfl (fun i hi => ?_) ?_ (fun _ => rfl)
  · walk_at "ev"
  · walk_at "all"
    all_goals rfl
  · walk_at "asg"
    walk_at "asg"
    walk_at "asg"
    walk_at "asg"
    walk_at "asg"
    have hs : setsP ns nv i = if ((cellV ns (6 + 3 * (i : Int))).fmod 3 == 0) = true then [(((cellV ns (5 + 3 * (i : Int))).fdiv 4).fmod nv, ((cellV ns (6 + 3 * (i : Int))).fdiv 2).fmod nv, ((cellV ns (6 + 3 * (i : Int))).natAbs : Int)), (((cellV ns (6 + 3 * (i : Int))).fdiv 2).fmod nv, ((cellV ns (5 + 3 * (i : Int))).fdiv 4).fmod nv, 1)]
      else [(((cellV ns (5 + 3 * (i : Int))).fdiv 4).fmod nv, ((cellV ns (6 + 3 * (i : Int))).fdiv 2).fmod nv, ((cellV ns (6 + 3 * (i : Int))).natAbs : Int))] := rfl
    have hp : plainV ns nv i = ((cellV ns (4 + 3 * (i : Int))).fmod nv, opsL.getD ((cellV ns (5 + 3 * (i : Int))).fmod 4).toNat "", ((cellV ns (4 + 3 * (i : Int))).fdiv 2 + 1).fmod 4, setsP ns nv i) := rfl
    generalize cellV ns (4 + 3 * (i : Int)) = g at *
    generalize cellV ns (5 + 3 * (i : Int)) = h at *
    generalize cellV ns (6 + 3 * (i : Int)) = b at *
    walk_at "asg"
    refine Ex.ifJ (b := b.fmod 3 == 0) (by walk_at "ev") ["plain"] [("script", false, .list (ns.map .int)), ("nvars", false, .int nv), ("count", false, .int cnt), ("plain", false, .list (((List.range i).map (plainV ns nv)).map r4D)), ("g", false, .int g), ("h", false, .int h), ("sets", false, .list ((setsP ns nv i).map s3D))] (fun hq => ?_) (fun hq => ?_) ?_
    · refine' Ex.assign (md := false) (d := .list ([.tuple [.int ((h.fdiv 4).fmod nv), .int ((b.fdiv 2).fmod nv), .int (b.natAbs : Int)]] ++ [.tuple [.int ((b.fdiv 2).fmod nv), .int ((h.fdiv 4).fmod nv), .int 1]])) ?_ ?_
      · walk_at "ev"
      walk_at "end"
      rw [hs, if_pos hq]
      rfl
    · walk_at "end"
      rw [hs, if_neg (by rw [hq]; decide)]
      rfl
    have k0 := fmod_nonneg h (b := 4) (by decide)
    have k1 := fmod_lt h (b := 4) (by decide)
    refine' Ex.append (md := false) (d := r4D (plainV ns nv i)) ?_ rfl rfl (szl (by simp; omega)) ?_
    · rw [hp]
      show Ev _ _ _ _ _ _ false (.tuple [.int (g.fmod nv), .str (opsL.getD (h.fmod 4).toNat ""), .int ((g.fdiv 2 + 1).fmod 4), .list ((setsP ns nv i).map s3D)])
      refine Ev.tuple (Evs.cons (by walk_at "ev") (Evs.cons ?_ (Evs.cons (by walk_at "ev") (Evs.cons (by walk_at "ev") Evs.nil rfl) rfl) rfl) rfl) (szl (by simp))
      refine Ev.itemM (xs := opsL) (g := .str) "" (Ev.b (Ev.callK0 (R := OpsR) K2 OpsR.mk (by decide) rfl (by decide))) (by walk_at "ev") ⟨k0, k1⟩ ⟨szl (by simp)⟩ (fun _ _ => ⟨_, rfl⟩)
    refine Ex.nil ?_
    refine And.intro rfl ?_
    walk_at "all"
    rw [List.range_succ, List.map_append, List.map_append]
    rfl
  · refine Ex.drop "plain" ?_
    exact Ex.ret (md := false) (Ev.name rfl rfl) rfl
def ruleOf (r : R4) : Rl := ([("var", r.1), ("num", r.2.2.1), (r.2.1, 0)], r.2.2.2.map fun s => (s.1, [("var", s.2.1), ("num", s.2.2), ("-", 0)]))
inductive DataR : List PyData → Bool → PyData → Prop
  | mk {pl : List R4} (h1 : pl.length ≤ 1000) (h2 : ∀ r ∈ pl, r.2.2.2.length ≤ 1000) : DataR [.list (pl.map r4D)] false (.list ((pl.map ruleOf).map ruleD))
set_option maxHeartbeats 0 in
theorem data_ok {C : Cx} {f : Addr} {pm code doc dV kV : Value} (B : Bis C) (X : FnAt C f (fdOf dData pm code doc dV kV) ["plain"] dData.body) : ∀ args md d, DataR args md d → Fn C 1 f false args md d := by
  rintro _ _ _ (@⟨pl, h1, h2⟩)
  refine Fn.of X rfl fun L => ?_
  refine Ex.ret (md := false) (d := .list (pl.map fun r => ruleD (ruleOf r))) ?_ (by rw [List.map_map]; rfl)
  refine EvF.v (EvF.compT4 (xs := pl) (mdi := false) (fun r : R4 => .int r.1) (fun r : R4 => .str r.2.1) (fun r : R4 => .int r.2.2.1) (fun r : R4 => .list (r.2.2.2.map s3D)) r4Of r4_inv (fun r => ruleD (ruleOf r)) (by decide) ?_ (by omega) rfl rfl rfl (fun _ => rfl) (fun r hr L => ?_))
  · walk_at "ev"
  have hl := h2 r hr
  have e : ruleD (ruleOf r) = .tuple [.list [.tuple [.str "var", .int r.1], .tuple [.str "num", .int r.2.2.1], .tuple [.str r.2.1, .int 0]], .list (r.2.2.2.map fun s => .tuple [.int s.1, .list [.tuple [.str "var", .int s.2.1], .tuple [.str "num", .int s.2.2], .tuple [.str "-", .int 0]]])] := by
    unfold ruleOf
    dsimp only [ruleD]
    rw [List.map_map]
    rfl
  rw [e]
  refine Ev.tuple (Evs.cons ?_ (Evs.cons ?_ Evs.nil rfl) rfl) (szl (by simp))
  · walk_at "ev"
  refine EvF.v (EvF.compT3 (xs := r.2.2.2) (mdi := false) (fun s : S3 => .int s.1) (fun s : S3 => .int s.2.1) (fun s : S3 => .int s.2.2) s3Of s3_inv (fun s => .tuple [.int s.1, .list [.tuple [.str "var", .int s.2.1], .tuple [.str "num", .int s.2.2], .tuple [.str "-", .int 0]]]) (by decide) ?_ (by omega) rfl rfl rfl (fun _ => rfl) (fun s hs L => ?_))
  · walk_at "ev"
  walk_at "ev"
def holdsV (op : Str) (x n : Int) : Bool := if (op == "<") = true then decide (x < n) else if (op == "==") = true then x == n else x != n
inductive HoldsR : List PyData → Bool → PyData → Prop
  | mk {op : Str} {x n : Int} {md : Bool} : HoldsR [.str op, .int x, .int n] md (.bool (holdsV op x n))
theorem holds_ok {C : Cx} {f : Addr} {pm code doc dV kV : Value} (X : FnAt C f (fdOf dHolds pm code doc dV kV) ["op", "x", "n"] dHolds.body) : ∀ args md d, HoldsR args md d → Fn C 1 f false args md d := by
  rintro _ _ _ (@⟨op, x, n, md⟩)
  refine Fn.atom (md' := false) ?_ rfl
  refine Fn.of X rfl fun L => ?_
  unfold holdsV
  refine Ex.if_ (b := op == "<") (by walk_at "ev") (fun h => ?_) (fun h => ?_)
  · rw [if_pos h]
    walk_at "ret"
    rfl
  rw [if_neg (by rw [h]; decide)]
  refine Ex.if_ (b := op == "==") (by walk_at "ev") (fun h => ?_) (fun h => ?_)
  · rw [if_pos h]
    walk_at "ret"
    rfl
  rw [if_neg (by rw [h]; decide)]
  walk_at "ret"
  rfl
def afterV (base : Int) (old : List Int) (sets : List S3) (new : List Int) : List Int := sets.foldl (fun new s => new.set s.1.toNat ((old.getD s.2.1.toNat 0 - s.2.2).fmod base)) new
theorem afterV_length (base : Int) (old : List Int) : ∀ (sets : List S3) (new : List Int), (afterV base old sets new).length = new.length
  | [], new => rfl
  | s :: sets, new => by
    show (afterV base old sets (new.set s.1.toNat _)).length = _
    rw [afterV_length base old sets, List.length_set]
theorem afterV_succ {base : Int} {old new : List Int} {sets : List S3} {i : Nat} (h : i < sets.length) : afterV base old (sets.take (i + 1)) new = (afterV base old (sets.take i) new).set sets[i].1.toNat ((old.getD sets[i].2.1.toNat 0 - sets[i].2.2).fmod base) := by
  rw [afterV, List.take_succ_eq_append_getElem h, List.foldl_append]
  rfl
inductive AfterR : List PyData → Bool → PyData → Prop
  | mk {old : List Int} {sets : List S3} {base : Int} {md : Bool} (hb : base ≠ 0) (hs : ∀ s ∈ sets, (0 ≤ s.1 ∧ s.1 < old.length) ∧ (0 ≤ s.2.1 ∧ s.2.1 < old.length)) (hl : old.length ≤ 1000) : AfterR [.tuple (old.map .int), .list (sets.map s3D), .int base] md (.tuple ((afterV base old sets old).map .int))
set_option maxHeartbeats 0 in
theorem after_ok {C : Cx} {f : Addr} {pm code doc dV kV : Value} (B : Bis C) (X : FnAt C f (fdOf dAfter pm code doc dV kV) ["old", "sets", "base"] dAfter.body) : ∀ args md d, AfterR args md d → Fn C 1 f false args md d := by
  rintro _ _ _ (@⟨old, sets, base, md, hb, hs, hl⟩)
  refine Fn.anyMd ?_
  refine Fn.of X rfl fun L => ?_
  refine' Ex.assignOwn (md := false) (ds := old.map .int) (EvF.copyTB B (by walk_at "ev") ⟨szl (by rw [List.length_map]; omega)⟩ rfl rfl) ?_
  refine Ex.forR (md := false) (items := sets.map s3D) ?_ (fun _ => ["new"]) (fun i => [("old", false, .tuple (old.map .int)), ("base", false, .int base), ("new", false, .list ((afterV base old (sets.take i) old).map .int))]) rfl ?_ (fun i d hi hd => ?_) ?_
  · walk_at "ev"
  · walk_at "all"
    rfl
  · rw [List.length_map] at hi
    rw [List.getElem?_map, List.getElem?_eq_getElem hi] at hd
    cases hd
    obtain ⟨q1, q2⟩ := hs sets[i] (List.getElem_mem hi)
    have hal := afterV_length base old (sets.take i) old
    have hsu := afterV_succ (base := base) (old := old) (new := old) hi
    refine ⟨_, _, Asg.tuple3, ?_⟩
    show Ex C 0 _ ["new"] _ _ _
    generalize sets[i] = s at *
    generalize afterV base old (sets.take i) old = cur at *
    rw [hsu]
    refine Ex.setItem (md := false) (d := .int ((old.getD s.2.1.toNat 0 - s.2.2).fmod base)) (i := s.1) ?_ rfl rfl ?_ ?_ ?_ ?_ (by decide) (by decide) rfl
    · refine Ev.mod (Ev.b (Ev.sub (Ev.b (Ev.itemTI (ns := old) (by walk_at "ev") (by walk_at "ev") q2 ⟨szl (by omega)⟩ (fun _ _ => ⟨_, rfl⟩))) (by walk_at "ev"))) (by walk_at "ev") hb
    · walk_at "ev"
    · rw [List.length_map]; omega
    · exact szl (by rw [List.length_map]; omega)
    · walk_at "end"
      rw [List.map_set]
  · rw [List.length_map, List.take_length]
    have hal := afterV_length base old sets old
    refine Ex.ret (md := true) (d := .tuple ((afterV base old sets old).map .int)) ?_ rfl
    refine Ev.totupleB (md := true) B (EvB.atoms (md' := false) ?_ (atoms_ints _)) ⟨szl (by rw [List.length_map]; omega)⟩ rfl rfl
    walk_at "ev"
-- the search of the law
def holdR (r : R4) (st : List Int) : Bool := holdsV r.2.1 (st.getD r.1.toNat 0) r.2.2.1
abbrev enV (pl : List R4) (st : List Int) : List Int := ((List.range pl.length).filter fun i => holdR (pl.getD i r0) st).map fun i : Nat => (i : Int)
abbrev fiV (pl : List R4) (base : Int) (st : List Int) (k : Int) : List Int := afterV base st (pl.getD k.toNat r0).2.2.2 st
def mkN (fi : List Int → Int → List Int) (p : Nat) (nd : Nd) (k : Int) : Nd := (fi nd.1 k, ((p : Int), k), nd.2.2 ++ [k])
def ins (U : List Nd) (x : Nd) : List Nd := if (U.map (·.1)).contains x.1 = true then U else U ++ [x]
def layN (en : List Int → List Int) (fi : List Int → Int → List Int) : Nat → List Nd → List Nd
  | _, [] => []
  | p, nd :: l => (en nd.1).map (mkN fi p nd) ++ layN en fi (p + 1) l
section
variable {en : List Int → List Int} {fi : List Int → Int → List Int}
theorem ins_pre (U : List Nd) (x : Nd) : U <+: ins U x := by
  unfold ins; split
  · exact List.prefix_refl _
  · exact List.prefix_append _ _
theorem insAll_pre : ∀ (R U : List Nd), U <+: R.foldl ins U
  | [], U => List.prefix_refl _
  | x :: R, U => (ins_pre U x).trans (insAll_pre R _)
theorem grows_ins (p : Nat) (nd : Nd) (ks : List Int) (U : List Nd) : grows fi p nd ks U = (ks.map (mkN fi p nd)).foldl ins U := by
  rw [List.foldl_map]; rfl
theorem bfs_lay : ∀ (l : List Nd) (q f : Nat) (U : List Nd), (∀ (i : Nat) (x : Nd), l[i]? = some x → U[q + i]? = some x) → bfs en fi (f + l.length) q U = bfs en fi f (q + l.length) ((layN en fi q l).foldl ins U)
  | [], q, f, U, _ => rfl
  | nd :: l, q, f, U, h => by
    have h0 : U[q]? = some nd := h 0 nd rfl
    rw [List.length_cons, show f + (l.length + 1) = (f + l.length) + 1 from by omega, bfs_step h0, grows_ins, bfs_lay l (q + 1) f]
    · rw [layN, List.foldl_append, show q + 1 + l.length = q + (l.length + 1) from by omega]
    · intro i x e
      exact pre_get (insAll_pre _ _) (by rw [show q + 1 + i = q + (i + 1) from by omega]; exact h (i + 1) x e)
theorem layN_mem : ∀ {l : List Nd} {q : Nat} {x : Nd}, x ∈ layN en fi q l → ∃ (i : Nat) (nd : Nd) (k : Int), l[i]? = some nd ∧ k ∈ en nd.1 ∧ x = mkN fi (q + i) nd k
  | [], _, _, h => by cases h
  | nd :: l, q, x, h => by
    rcases List.mem_append.mp h with h | h
    · obtain ⟨k, hk, e⟩ := List.mem_map.mp h
      exact ⟨0, nd, k, rfl, hk, e.symm⟩
    · obtain ⟨i, nd', k, h1, h2, h3⟩ := layN_mem h
      exact ⟨i + 1, nd', k, h1, h2, by rw [h3, show q + 1 + i = q + (i + 1) from by omega]⟩
end
theorem BInv.path {Good : List Int → Prop} {st0 : List Int} {U : List Nd} (I : BInv Good st0 U) : ∀ (n j : Nat) (x : Nd), j ≤ n → U[j]? = some x → x.2.2.length ≤ j
  | n, 0, x, _, hx => by
    have := I.root
    rw [hx] at this; cases this; exact Nat.le_refl _
  | 0, j + 1, x, hj, _ => by omega
  | n + 1, j + 1, x, hj, hx => by
    obtain ⟨q, y, h1, h2, h3, h4⟩ := I.par (j + 1) x hx (by omega)
    have := I.path n q y (by omega) h2
    rw [h4, List.length_append, List.length_singleton]; omega
theorem bfs_inv {base : Int} {rs : List Rl} {Good : List Int → Prop} {en : List Int → List Int} {fi : List Int → Int → List Int} {N : Nat} (T : Lts base rs Good en fi N) {st0 : List Int} : ∀ (f p : Nat) (U : List Nd), BInv Good st0 U → BInv Good st0 (bfs en fi f p U)
  | 0, _, U, I => I
  | f + 1, p, U, I => by
    rw [bfs]
    cases e : U[p]? with
    | none => exact I
    | some nd =>
      have hgn := I.good nd (List.mem_of_getElem? e)
      exact bfs_inv T f (p + 1) _ (I.grows e fun k hk => by obtain ⟨_, _, _, g⟩ := T.fi_ nd.1 k hgn hk; exact g)
abbrev kvOf (x : Nd) : KV := (x.1, x.2.2)
abbrev tD (x : Nd) : PyData := .tuple (x.1.map .int)
abbrev rD (x : Nd) : PyData := .tuple [.list (x.2.2.map .int), .tuple (x.1.map .int)]
def stOf : PyData → List Int
  | .tuple l => l.map intOf
  | _ => []
theorem stOf_tD (x : Nd) : stOf (tD x) = x.1 := by
  show (x.1.map PyData.int).map intOf = _
  rw [List.map_map]
  have : (intOf ∘ PyData.int) = id := funext fun _ => rfl
  rw [this, List.map_id]
abbrev pF (pl : List R4) (d d2 : PyData) : Bool := holdR (pl.getD (intOf d2).toNat r0) (stOf d)
abbrev fF (pl : List R4) (base : Int) (kvs : List KV) (d d2 : PyData) : PyData := .tuple [.list (((kvs.lookup (stOf d)).getD [] ++ [intOf d2]).map .int), .tuple ((fiV pl base (stOf d) (intOf d2)).map .int)]
theorem flat_lay {pl : List R4} {base : Int} {kvs : List KV} : ∀ (l : List Nd) (q : Nat), (∀ nd ∈ l, kvs.lookup nd.1 = some nd.2.2) → ((l.map tD).flatMap fun d => ((rangeD (pl.length : Int)).filter (pF pl d)).map (fF pl base kvs d)) = (layN (enV pl) (fiV pl base) q l).map rD
  | [], _, _ => rfl
  | nd :: l, q, h => by
    rw [List.map_cons, List.flatMap_cons, layN, List.map_append, flat_lay l (q + 1) (fun x hx => h x (List.mem_cons_of_mem _ hx))]
    congr 1
    rw [rangeD, List.filter_map, List.map_map, Int.toNat_natCast]
    unfold enV
    rw [List.map_map, List.map_map]
    have e1 : (pF pl (tD nd) ∘ fun i : Nat => PyData.int (i : Int)) = fun i => holdR (pl.getD i r0) nd.1 := funext fun i => by
      show holdR (pl.getD (i : Int).toNat r0) (stOf (tD nd)) = _
      rw [stOf_tD, Int.toNat_natCast]
    have hk := h nd (List.mem_cons_self ..)
    rw [e1]
    refine List.map_congr_left fun i _ => ?_
    show fF pl base kvs (tD nd) (.int (i : Int)) = rD (mkN (fiV pl base) q nd (i : Int))
    show PyData.tuple [.list (((kvs.lookup (stOf (tD nd))).getD [] ++ [(i : Int)]).map .int), .tuple ((fiV pl base (stOf (tD nd)) (i : Int)).map .int)] = _
    rw [stOf_tD, hk]
    rfl
theorem lookup_nd {U : List Nd} (hn : (U.map (·.1)).Nodup) : ∀ nd ∈ U, (U.map kvOf).lookup nd.1 = some nd.2.2 := by
  induction U with
  | nil => intro nd h; cases h
  | cons x U ih =>
    intro nd h
    rw [List.map_cons, List.nodup_cons] at hn
    rw [List.map_cons, List.lookup_cons]
    rcases List.mem_cons.mp h with e | h
    · subst e
      rw [beq_self_eq_true]
    · have hne : (nd.1 == x.1) = false := beq_false_of_ne fun e => hn.1 (e ▸ List.mem_map_of_mem h)
      show (match nd.1 == x.1 with | true => some x.2.2 | false => (U.map kvOf).lookup nd.1) = _
      rw [hne]
      exact ih hn.2 nd h
inductive WordsR : List PyData → List KV → Prop
  | mk {base : Int} {st0 : List Int} {pl : List R4} {rs : List Rl} {Good : List Int → Prop} (hb : base ≠ 0) (T : Lts base rs Good (enV pl) (fiV pl base) 9) (hg : Good st0) (h1 : pl.length ≤ 1000)
      (hv : ∀ st, Good st → ∀ (i : Nat), i < pl.length → (0 ≤ (pl.getD i r0).1 ∧ (pl.getD i r0).1 < st.length) ∧ ∀ s ∈ (pl.getD i r0).2.2.2, (0 ≤ s.1 ∧ s.1 < st.length) ∧ (0 ≤ s.2.1 ∧ s.2.1 < st.length)) :
    WordsR [.list (pl.map r4D), listD st0, .int base] ((allB (enV pl) (fiV pl base) 9 st0).map kvOf)
abbrev wCtx (d : Addr) (pl : List R4) (base : Int) (lv : List Nd) : DCtx := [("plain", false, .list (pl.map r4D)), ("base", false, .int base), ("words", false, opq d), ("level", false, .list (lv.map tD))]
local macro_rules | `(tactic| walk_at "comp") => `(tactic| first
  | (with_reducible refine' Ev.itemM (g := r4D) r0 ?_ ?_ (Side.out ?_) ?_ (Now.out ?_)) <;> walk_at "ev")
set_option maxHeartbeats 0 in
theorem words_ok {C : Cx} {f : Addr} {pm code doc dV kV : Value} (B : Bis C) (X : FnAt C f (fdOf dWords pm code doc dV kV) ["plain", "start", "base"] dWords.body) (K1 : Def C "_law_holds" 1 HoldsR) (K2 : Def C "_law_after" 1 AfterR) : ∀ args kvs, WordsR args kvs → FnD C 2 f args kvs := by
  rintro _ _ (@⟨base, st0, pl, rs, Good, hb, T, hg, h1, hv⟩)
  refine FnD.of X rfl fun L => ?_
  have hall : bfs (enV pl) (fiV pl base) (9 + 1) 0 [(st0, (-1, -1), [])] = allB (enV pl) (fiV pl base) 9 st0 := rfl
  generalize allB (enV pl) (fiV pl base) 9 st0 = all at *
  have hsl := T.len st0 hg
  refine ExN.newDict (key := st0) (w := []) ?_ ?_ rfl rfl rfl fun d => ?_
  · refine Ev.totupleB (md := false) B ?_ ⟨szl (by rw [List.length_map]; omega)⟩ rfl rfl
    walk_at "ev"
  · show Ev _ _ _ _ _ _ false (.list [])
    walk_at "ev"
  refine ExD.one ["level"] (wCtx d pl base [(st0, (-1, -1), [])]) rfl (fun h u D => ?_) ?_
  · refine' Ex.assignOwn (md := false) (ds := [.tuple (st0.map .int)]) ?_ ?_
    · refine EvF.list (Evs.cons ?_ Evs.nil rfl) (szl (by simp))
      refine Ev.totupleB (md := false) B.on ?_ ⟨szl (by rw [List.length_map]; omega)⟩ rfl rfl
      walk_at "ev"
    walk_at "end"
    all_goals rfl
  refine ExD.for_ (md := false) (items := rangeD 9) rfl (fun h u D => ?_) (fun i own ρ kvs => own = (["level"] : List Str) ∧ ∃ (U : List Nd) (q : Nat), All ρ (wCtx d pl base (U.drop q)) ∧ kvs = U.map kvOf ∧ BInv Good st0 U ∧ q ≤ U.length ∧ bfs (enV pl) (fiV pl base) (9 + 1 - q) q U = all ∧ (i ≤ q ∨ q = U.length)) ?_ (fun i x own ρ kvs hx hI => ?_) (fun own ρ kvs hI => ?_) (fun _ => rfl) (fun i own ρ kvs hI => by rw [hI.1]; rfl)
  · exact EvI.rangeB B.on (by walk_at "ev") (by decide) rfl rfl (by decide)
  · refine ⟨rfl, [(st0, (-1, -1), [])], 0, ?_, rfl, BInv.start hg, Nat.zero_le _, hall, .inl (Nat.le_refl _)⟩
    walk_at "all"
    rfl
  rotate_left
  · obtain ⟨e, U, q, hA, ek, I, hq, hbfs, hiq⟩ := hI
    have hU := T.le I
    have hqU : q = U.length := by
      have : (rangeD 9).length = 9 := by decide
      rw [this] at hiq
      omega
    rw [bfs_stop (by omega)] at hbfs
    refine ExD.ret (hA.sub "words" _ rfl) ?_ (by decide) (by decide)
    rw [ek, hbfs]
  obtain ⟨e, U, q, hA, ek, I, hq, hbfs, hiq⟩ := hI
  subst e
  have hU := T.le I
  refine ⟨_, _, Asg.name rfl, ?_⟩
  show ExD d C 1 _ ["level"] _ _ _ _ _
  refine ExD.ctx (wCtx d pl base (U.drop q)) ?_ ?_
  · refine All.put (d := .list (pl.map r4D)) (hA.sub "plain" _ rfl) rfl (All.put (d := .int base) (hA.sub "base" _ rfl) rfl (All.put (d := opq d) (hA.sub "words" _ rfl) rfl (All.put (d := .list ((U.drop q).map tD)) (hA.sub "level" _ rfl) rfl All.nil)))
  obtain ⟨R, hR⟩ : ∃ R, R = layN (enV pl) (fiV pl base) q (U.drop q) := ⟨_, rfl⟩
  have hlen : (U.drop q).length = U.length - q := List.length_drop
  have hat : ∀ (i : Nat) (x : Nd), (U.drop q)[i]? = some x → U[q + i]? = some x := fun i x e => by rw [List.getElem?_drop] at e; exact e
  have hbfs' : bfs (enV pl) (fiV pl base) (9 + 1 - U.length) U.length (R.foldl ins U) = all := by
    have := bfs_lay (en := enV pl) (fi := fiV pl base) (U.drop q) q (9 + 1 - U.length) U hat
    rw [hlen, show 9 + 1 - U.length + (U.length - q) = 9 + 1 - q from by omega, show q + (U.length - q) = U.length from by omega, ← hR] at this
    rw [← this, hbfs]
  have hRm : ∀ x ∈ R, ∃ (p : Nat) (nd : Nd) (k : Int), U[p]? = some nd ∧ k ∈ enV pl nd.1 ∧ x = mkN (fiV pl base) p nd k := fun x hx => by
    rw [hR] at hx
    obtain ⟨i, nd, k, h1, h2, h3⟩ := layN_mem hx
    exact ⟨q + i, nd, k, hat i nd h1, h2, h3⟩
  have hRi : ∀ i, BInv Good st0 ((R.take i).foldl ins U) := fun i => by
    have key : ∀ (l : List Nd) (V : List Nd), (∀ x ∈ l, x ∈ R) → U <+: V → BInv Good st0 V → BInv Good st0 (l.foldl ins V) := by
      intro l
      induction l with
      | nil => intro V _ _ IV; exact IV
      | cons x l ih =>
        intro V hl hp IV
        refine ih (ins V x) (fun y hy => hl y (List.mem_cons_of_mem _ hy)) (hp.trans (ins_pre V x)) ?_
        obtain ⟨p, nd, kk, h1, h2, h3⟩ := hRm x (hl x (List.mem_cons_self ..))
        subst h3
        have hgn := I.good nd (List.mem_of_getElem? h1)
        obtain ⟨_, _, _, g⟩ := T.fi_ nd.1 kk hgn h2
        exact IV.grow1 (pre_get hp h1) g
    exact key _ U (fun x hx => List.mem_of_mem_take hx) (List.prefix_refl _) I
  have hnd : ∀ nd ∈ U.drop q, kvs.lookup nd.1 = some nd.2.2 := fun nd h => by rw [ek]; exact lookup_nd I.nd nd (List.mem_of_mem_drop h)
  have hflat := flat_lay (pl := pl) (base := base) (U.drop q) q hnd
  rw [← hR] at hflat
  have hz : kvs.length ≤ 1000000 := by rw [ek, List.length_map]; omega
  refine ExD.two ["level"] [("plain", false, .list (pl.map r4D)), ("base", false, .int base), ("words", false, opq d), ("reached", false, .list (R.map rD)), ("level", false, .list [])] rfl (fun h u D => ?_) ?_
  · refine Ex.drop "level" ?_
    refine Ex.assignComp2 (md := false) (mdi := false) (items := (U.drop q).map tD) (items2 := fun _ => rangeD (pl.length : Int)) (p := pF pl) (f := fF pl base kvs) 1000 ?_ (fun d hd => ?_) ?_ (by decide) rfl rfl rfl (fun dd hdd L => ⟨?_, fun d2 hd2 => ?_⟩) ?_ (by decide) (fun _ _ => rfl) rfl rfl (fun _ => rfl)
    · walk_at "ev"
    · rw [rangeD_length]; omega
    · rw [List.length_map, hlen]; omega
    · have e : ((pl.map r4D).length : Int) = (pl.length : Int) := by rw [List.length_map]
      rw [← e]
      have B' : Bis (C.on h u) := B.on
      have hpl : (pl.map r4D).length ≤ 1000 := by rw [List.length_map]; exact h1
      walk_at "ev"
    · obtain ⟨nd, hndm, rfl⟩ := List.mem_map.mp hdd
      obtain ⟨j, hj, rfl⟩ : ∃ j : Nat, j < pl.length ∧ d2 = .int (j : Int) := by
        rw [rangeD] at hd2
        obtain ⟨j, hj, e⟩ := List.mem_map.mp hd2
        exact ⟨j, by have := List.mem_range.mp hj; omega, e.symm⟩
      have hndU := List.mem_of_mem_drop hndm
      have hgn := I.good nd hndU
      have hnl := T.len nd.1 hgn
      obtain ⟨hv1, hv2⟩ := hv nd.1 hgn j hj
      have hj0 : (0 : Int) ≤ (j : Int) ∧ (j : Int) < pl.length := by omega
      have hk := hnd nd hndm
      have hpe : pF pl (tD nd) (.int (j : Int)) = holdR (pl.getD (j : Int).toNat r0) nd.1 := by
        show holdR (pl.getD (j : Int).toNat r0) (stOf (tD nd)) = _
        rw [stOf_tD]
      have hfe : fF pl base kvs (tD nd) (.int (j : Int)) = .tuple [.list (nd.2.2.map .int ++ [.int (j : Int)]), .tuple ((afterV base nd.1 (pl.getD (j : Int).toNat r0).2.2.2 nd.1).map .int)] := by
        show PyData.tuple [.list (((kvs.lookup (stOf (tD nd))).getD [] ++ [(j : Int)]).map .int), .tuple ((fiV pl base (stOf (tD nd)) (j : Int)).map .int)] = _
        rw [stOf_tD, hk, List.map_append]
        rfl
      rw [hpe, hfe]
      have ejt : (j : Int).toNat = j := Int.toNat_natCast j
      rw [← ejt] at hv1 hv2
      obtain ⟨iu, hiu⟩ := List.getElem?_of_mem hndU
      have hpd : nd.2.2.length ≤ 1000 := by
        have := I.path iu iu nd (Nat.le_refl _) hiu
        have := (List.getElem?_eq_some_iff.mp hiu).1
        omega
      have hkv : kvs[iu]? = some (nd.1, nd.2.2) := by rw [ek, List.getElem?_map, hiu]; rfl
      refine ⟨Tst.val (Ev.callK (R := HoldsR) K1.on (args := [.str (pl.getD (j : Int).toNat r0).2.1, .int (nd.1.getD (pl.getD (j : Int).toNat r0).1.toNat 0), .int (pl.getD (j : Int).toNat r0).2.2.1]) (Evs.cons ?_ (Evs.cons ?_ (Evs.cons ?_ Evs.nil rfl) rfl) rfl) HoldsR.mk (by decide) rfl (by decide) rfl) rfl, fun _ => ?_⟩
      · walk_at "ev"
      · refine Ev.itemTI (ns := nd.1) (by walk_at "ev") (by walk_at "ev") hv1 ⟨szl (by omega)⟩ (fun _ _ => ⟨_, rfl⟩)
      · walk_at "ev"
      refine Ev.tuple (Evs.cons ?_ (Evs.cons ?_ Evs.nil rfl) rfl) (szl (by simp))
      · refine EvF.v (EvF.add ?_ (by walk_at "ev") (szl (by rw [List.length_map]; simp; omega)))
        exact EvB.dictItem (key := nd.1) (w := nd.2.2) D (show _ = some (false, opqs d []) from rfl) (by walk_at "ev") hkv (by decide) (by decide) (fun _ _ => ⟨_, rfl⟩)
      · exact Ev.callK (R := AfterR) K2.on (args := [.tuple (nd.1.map .int), .list ((pl.getD (j : Int).toNat r0).2.2.2.map s3D), .int base]) (by walk_at "ev") (AfterR.mk hb hv2 hnl) (by decide) rfl (by decide) rfl
    rw [hflat]
    refine' Ex.assignOwn (md := false) (ds := []) (by walk_at "ev") ?_
    refine Ex.drop "reached" ?_
    walk_at "end"
  refine ExD.for_ (md := false) (items := R.map rD) rfl (fun h u D => ?_) (fun i own ρ kvs => own = (["level"] : List Str) ∧ ∃ V : List Nd, V = (R.take i).foldl ins U ∧ All ρ (wCtx d pl base (V.drop U.length)) ∧ kvs = V.map kvOf) ?_ (fun i x own ρ kvs hx hI => ?_) (fun own ρ kvs hI => ?_) (fun _ => rfl) (fun i own ρ kvs hI => by rw [hI.1]; rfl)
  · walk_at "ev"
  · refine ⟨rfl, U, rfl, ?_, ek⟩
    walk_at "all"
    rw [List.drop_length]
    rfl
  · obtain ⟨e, V, eV, hA', ek'⟩ := hI
    subst e
    rw [List.getElem?_map] at hx
    obtain ⟨nx, hnx, rfl⟩ := Option.map_eq_some_iff.mp hx
    have hlt := (List.getElem?_eq_some_iff.mp hnx).1
    have hRe : R[i] = nx := (List.getElem?_eq_some_iff.mp hnx).2
    have hsucc : (R.take (i + 1)).foldl ins U = ins V nx := by rw [List.take_succ_eq_append_getElem hlt, List.foldl_append, ← eV, hRe]; rfl
    have IV := hRi i
    rw [← eV] at IV
    have hVl := T.le IV
    have hUV : U <+: V := by rw [eV]; exact insAll_pre _ _
    have hUVl := hUV.length_le
    have hzV : kvs.length ≤ 1000000 := by rw [ek', List.length_map]; omega
    have hkc : (kvs.map (·.1)).contains nx.1 = (V.map (·.1)).contains nx.1 := by rw [ek', List.map_map]; rfl
    refine ⟨_, _, Asg.tuple2 (d1 := .list (nx.2.2.map .int)) (d2 := .tuple (nx.1.map .int)), ?_⟩
    show ExD d C 1 _ ["level"] _ _ _ _ _
    refine ExD.ctx [("plain", false, .list (pl.map r4D)), ("base", false, .int base), ("words", false, opq d), ("level", false, .list ((V.drop U.length).map tD)), ("word", false, .list (nx.2.2.map .int)), ("t", false, .tuple (nx.1.map .int))] ?_ ?_
    · refine All.put (d := .list (pl.map r4D)) (hA'.sub "plain" _ rfl) rfl (All.put (d := .int base) (hA'.sub "base" _ rfl) rfl (All.put (d := opq d) (hA'.sub "words" _ rfl) rfl (All.put (d := .list ((V.drop U.length).map tD)) (hA'.sub "level" _ rfl) rfl (All.put rfl rfl (All.put rfl rfl All.nil)))))
    refine ExD.if_ (b := !(kvs.map (·.1)).contains nx.1) rfl (fun h u D => ?_) (fun hc => ?_) (fun hc => ?_)
    · exact Tst.cmp (Cmp.notInDict D (by walk_at "ev") (bs := []) rfl (by decide) (by decide)) rfl
    · have hc' : (kvs.map (·.1)).contains nx.1 = false := by simpa using hc
      have hins : ins V nx = V ++ [nx] := by unfold ins; rw [if_neg (by rw [← hkc, hc']; decide)]
      refine ExD.setD (key := nx.1) (w := nx.2.2) (by walk_at "ev") (by walk_at "ev") rfl hc' hzV ?_ (by decide) (by decide) rfl
      refine ExD.one ["level"] (wCtx d pl base ((ins V nx).drop U.length)) rfl (fun h u D => ?_) ?_
      · refine' Ex.append (md := false) (d := tD nx) (by walk_at "ev") rfl rfl (szl (by rw [List.length_map, List.length_drop]; omega)) ?_
        walk_at "end"
        rw [hins, List.drop_append_of_le_length hUVl, List.map_append]
        rfl
      refine ExD.nil ⟨rfl, ins V nx, hsucc.symm, ?_, ?_⟩
      · walk_at "all"
      · rw [hins, List.map_append, ek']
        rfl
    · have hc' : (kvs.map (·.1)).contains nx.1 = true := by simpa using hc
      have hins : ins V nx = V := by unfold ins; rw [if_pos (by rw [← hkc, hc'])]
      refine ExD.nil ⟨rfl, V, by rw [hsucc, hins], ?_, ek'⟩
      walk_at "all"
  · obtain ⟨e, V, eV, hA', ek'⟩ := hI
    subst e
    rw [List.length_map, List.take_length] at eV
    have IV := hRi R.length
    rw [List.take_length, ← eV] at IV
    have hUV : U <+: V := by rw [eV]; exact insAll_pre _ _
    refine ExD.nil ⟨rfl, V, U.length, hA', ek', IV, hUV.length_le, by rw [eV]; exact hbfs', ?_⟩
    by_cases hqm : q = U.length
    · right
      have : R = [] := by rw [hR, hqm, List.drop_length]; rfl
      rw [eV, this]; rfl
    · left; omega
-- what token lists mean
theorem var_num : (("var" : Str) == "num") = false := by decide
def Means (st : List Int) (ts : List Tk) (v : Int) : Prop := ∀ s, Run st s ts (s ++ [v])
theorem Run.append {st s s' s'' : List Int} {ts us : List Tk} (r : Run st s ts s') (q : Run st s' us s'') : Run st s (ts ++ us) s'' := by
  induction r with
  | nil => exact q
  | cons h _ ih => exact .cons h (ih q)
theorem topA_1 (s : List Int) (a : Int) : topA (s ++ [a]) 1 = a := by
  unfold topA
  rw [List.length_append, List.length_singleton, show ((↑(s.length + 1) : Int) - 1).toNat = s.length from by omega, List.getD, List.getElem?_append_right (Nat.le_refl _), Nat.sub_self]
  rfl
theorem topA_2 (s : List Int) (a b : Int) : topA (s ++ [a] ++ [b]) 2 = a := by
  unfold topA
  rw [List.length_append, List.length_append, List.length_singleton, List.length_singleton, show ((↑(s.length + 1 + 1) : Int) - 2).toNat = s.length from by omega, List.getD, List.append_assoc, List.getElem?_append_right (Nat.le_refl _), Nat.sub_self]
  rfl
theorem Means.run {st : List Int} {ts : List Tk} {v : Int} (h : Means st ts v) : Run st [] ts [v] := h []
theorem Means.num {st : List Int} (n : Int) : Means st [("num", n)] n := fun s => .cons (by unfold StepOk; rw [if_pos (by rfl)]; trivial) (by
  have : stepV st s ("num", n) = s ++ [n] := by unfold stepV; rw [if_pos (by rfl)]
  rw [this]; exact .nil)
theorem Means.var {st : List Int} {n : Int} (h : 0 ≤ n ∧ n < st.length) : Means st [("var", n)] (st.getD n.toNat 0) := fun s => .cons (by unfold StepOk; dsimp only; rw [var_num, if_neg (by decide), if_pos (by rfl)]; exact h) (by
  have : stepV st s ("var", n) = s ++ [st.getD n.toNat 0] := by unfold stepV; dsimp only; rw [var_num, if_neg (by decide), if_pos (by rfl)]
  rw [this]; exact .nil)
def plainOp (op : Str) : Bool := !(op == "num") && !(op == "var") && !(op == "not")
theorem Means.op {st : List Int} {ts us : List Tk} {a b : Int} (op : Str) (j : Int) (hp : plainOp op = true) (h1 : Means st ts a) (h2 : Means st us b) (hm : IntMulOk a b) : Means st (ts ++ us ++ [(op, j)]) (applyV op a b) := fun s => by
  obtain ⟨p1, p2, p3⟩ : (op == "num") = false ∧ (op == "var") = false ∧ (op == "not") = false := by
    unfold plainOp at hp
    simp only [Bool.and_eq_true, Bool.not_eq_true'] at hp
    exact ⟨hp.1.1, hp.1.2, hp.2⟩
  refine ((h1 s).append (h2 (s ++ [a]))).append (.cons ?_ ?_)
  · unfold StepOk
    dsimp only
    rw [p1, p2, p3, if_neg (by decide), if_neg (by decide), if_neg (by decide), topA_1, topA_2]
    exact ⟨by simp, hm⟩
  · have : stepV st (s ++ [a] ++ [b]) (op, j) = s ++ [applyV op a b] := by
      unfold stepV
      dsimp only
      rw [p1, p2, p3, if_neg (by decide), if_neg (by decide), if_neg (by decide), topA_1, topA_2]
      congr 1
      rw [List.length_append, List.length_append, List.length_singleton, List.length_singleton, show ((↑(s.length + 1 + 1) : Int) - 2).toNat = s.length from by omega, List.append_assoc, List.take_left' rfl]
    rw [this]; exact .nil
theorem small_mul' {a : Int} (b : Int) (h : -8 ≤ a ∧ a ≤ 8) : IntMulOk a b := by
  refine IntMulOk.of_left ?_
  obtain ⟨h1, h2⟩ := h
  have : a = -8 ∨ a = -7 ∨ a = -6 ∨ a = -5 ∨ a = -4 ∨ a = -3 ∨ a = -2 ∨ a = -1 ∨ a = 0 ∨ a = 1 ∨ a = 2 ∨ a = 3 ∨ a = 4 ∨ a = 5 ∨ a = 6 ∨ a = 7 ∨ a = 8 := by omega
  rcases this with h | h | h | h | h | h | h | h | h | h | h | h | h | h | h | h | h <;> rw [h] <;> decide
structure PlOk (nv : Nat) (r : R4) : Prop where
  op : r.2.1 = "!=" ∨ r.2.1 = "<" ∨ r.2.1 = "-" ∨ r.2.1 = "=="
  v : 0 ≤ r.1 ∧ r.1 < nv
  s : ∀ s ∈ r.2.2.2, (0 ≤ s.1 ∧ s.1 < nv) ∧ (0 ≤ s.2.1 ∧ s.2.1 < nv)
  l : r.2.2.2.length ≤ 1000
def Good36 (base : Int) (nv : Nat) (st : List Int) : Prop := st.length = nv ∧ ∀ v ∈ st, 0 ≤ v ∧ v < base
theorem Good36.at {base : Int} {nv : Nat} {st : List Int} (h : Good36 base nv st) {i : Nat} (hi : i < nv) : 0 ≤ st.getD i 0 ∧ st.getD i 0 < base := by
  have : i < st.length := by rw [h.1]; exact hi
  rw [List.getD, List.getElem?_eq_getElem this]
  exact h.2 _ (List.getElem_mem this)
theorem Good36.set {base : Int} {nv : Nat} {st : List Int} (h : Good36 base nv st) (i : Nat) {v : Int} (hv : 0 ≤ v ∧ v < base) : Good36 base nv (st.set i v) :=
  ⟨by rw [List.length_set]; exact h.1, fun w hw => (List.mem_or_eq_of_mem_set hw).elim (h.2 w) fun e => e ▸ hv⟩
theorem filter_congr' {α : Type} {p q : α → Bool} : ∀ {l : List α}, (∀ a ∈ l, p a = q a) → l.filter p = l.filter q
  | [], _ => rfl
  | a :: l, h => by
    rw [List.filter_cons, List.filter_cons, h a (List.mem_cons_self ..), filter_congr' (l := l) fun b hb => h b (List.mem_cons_of_mem _ hb)]
theorem getD_map36 {pl : List R4} {i : Nat} (h : i < pl.length) : (pl.map ruleOf).getD i ([], []) = ruleOf (pl.getD i r0) := by
  rw [List.getD, List.getElem?_map, List.getElem?_eq_getElem h, List.getD, List.getElem?_eq_getElem h]; rfl
theorem Good36.after {base : Int} {nv : Nat} (hb : 1 ≤ base) {old : List Int} : ∀ (sets : List S3) {new : List Int}, Good36 base nv new → Good36 base nv (afterV base old sets new)
  | [], _, h => h
  | s :: sets, new, h => Good36.after hb sets (new := new.set s.1.toNat ((old.getD s.2.1.toNat 0 - s.2.2).fmod base)) (h.set _ ⟨fmod_nonneg _ (by omega), fmod_lt _ (by omega)⟩)
theorem sets_of {base : Int} {nv : Nat} {st : List Int} (hb : 1 ≤ base ∧ base ≤ 3) (hg : Good36 base nv st) : ∀ (l : List S3), (∀ s ∈ l, (0 ≤ s.1 ∧ s.1 < nv) ∧ (0 ≤ s.2.1 ∧ s.2.1 < nv)) → Sets st (l.map fun s => (s.1, ([("var", s.2.1), ("num", s.2.2), ("-", 0)] : List Tk))) (l.map fun s => (s.1, st.getD s.2.1.toNat 0 - s.2.2))
  | [], _ => .nil
  | s :: l, h => by
    obtain ⟨h1, h2⟩ := h s (List.mem_cons_self ..)
    have hx := hg.at (i := s.2.1.toNat) (by omega)
    refine .cons (by rw [hg.1]; exact h1) ?_ (by show 3 ≤ 1000; decide) (sets_of hb hg l fun t ht => h t (List.mem_cons_of_mem _ ht))
    exact (Means.op "-" 0 (by decide) (Means.var (st := st) (n := s.2.1) (by rw [hg.1]; exact h2)) (Means.num s.2.2) (small_mul' _ (by omega))).run
theorem lts36 {base : Int} {nv : Nat} {pl : List R4} (hb : 1 ≤ base ∧ base ≤ 3) (hnv : nv = 1 ∨ nv = 2) (hp : ∀ r ∈ pl, PlOk nv r) : Lts base (pl.map ruleOf) (Good36 base nv) (enV pl) (fiV pl base) 9 where
  len st hg := by rw [hg.1]; omega
  en_ st hg := by
    have hat : ∀ i, i < pl.length → PlOk nv (pl.getD i r0) := fun i hi => hp _ (by rw [List.getD, List.getElem?_eq_getElem hi]; exact List.getElem_mem hi)
    refine ⟨fun i => applyV (pl.getD i r0).2.1 (st.getD (pl.getD i r0).1.toNat 0) (pl.getD i r0).2.2.1, fun i hi => ?_, ?_⟩
    · rw [List.length_map] at hi
      rw [getD_map36 hi]
      have hr := hat i hi
      dsimp only
      generalize pl.getD i r0 = r at *
      have hx := hg.at (i := r.1.toNat) (by have := hr.v; omega)
      refine ⟨(Means.op r.2.1 0 ?_ (Means.var (st := st) (n := r.1) ⟨hr.v.1, by rw [hg.1]; exact hr.v.2⟩) (Means.num r.2.2.1) (small_mul' _ (by omega))).run, by show 3 ≤ 1000; decide⟩
      rcases hr.op with e | e | e | e <;> rw [e] <;> decide
    · unfold enV
      rw [List.length_map]
      congr 1
      refine filter_congr' fun i hi => ?_
      have hr := hat i (List.mem_range.mp hi)
      dsimp only
      generalize pl.getD i r0 = r at *
      unfold holdR holdsV
      generalize st.getD r.1.toNat 0 = a
      rcases hr.op with e | e | e | e
      · rw [e, if_neg (by decide), if_neg (by decide)]
        show (a != r.2.2.1) = ((if (a != r.2.2.1) = true then (1 : Int) else 0) != 0)
        cases a != r.2.2.1 <;> rfl
      · rw [e, if_pos (by rfl)]
        show decide (a < r.2.2.1) = ((if decide (a < r.2.2.1) = true then (1 : Int) else 0) != 0)
        cases decide (a < r.2.2.1) <;> rfl
      · rw [e, if_neg (by decide), if_neg (by decide)]
        show (a != r.2.2.1) = (a - r.2.2.1 != 0)
        by_cases h : a = r.2.2.1
        · subst h; simp
        · have h1 : (a != r.2.2.1) = true := by simpa using h
          have h2 : (a - r.2.2.1 != 0) = true := by simp; omega
          rw [h1, h2]
      · rw [e, if_neg (by decide), if_pos (by rfl)]
        show (a == r.2.2.1) = ((if (a == r.2.2.1) = true then (1 : Int) else 0) != 0)
        cases a == r.2.2.1 <;> rfl
  fi_ st k hg hk := by
    obtain ⟨q, hq, rfl⟩ := List.mem_map.mp hk
    have hql := List.mem_range.mp (List.mem_filter.mp hq).1
    have hr : PlOk nv (pl.getD q r0) := hp _ (by rw [List.getD, List.getElem?_eq_getElem hql]; exact List.getElem_mem hql)
    rw [Int.toNat_natCast, getD_map36 hql]
    unfold fiV
    rw [Int.toNat_natCast]
    generalize pl.getD q r0 = r at *
    refine ⟨_, sets_of hb hg r.2.2.2 hr.s, ?_, Good36.after (by omega) _ hg⟩
    unfold setsV afterV
    rw [List.foldl_map]
  bound l hn hg := by
    rcases hnv with e | e
    · refine Nat.le_trans (nodup_le l [[0], [1], [2]] hn fun s hs => ?_) (by decide)
      have h := hg s hs
      rw [e] at h
      obtain ⟨h1, h2⟩ := h
      match s, h1 with
      | [x], _ =>
        have := h2 x (List.mem_cons_self ..)
        have : x = 0 ∨ x = 1 ∨ x = 2 := by omega
        rcases this with h | h | h <;> rw [h] <;> decide
    · refine Nat.le_trans (nodup_le l [[0, 0], [0, 1], [0, 2], [1, 0], [1, 1], [1, 2], [2, 0], [2, 1], [2, 2]] hn fun s hs => ?_) (by decide)
      have h := hg s hs
      rw [e] at h
      obtain ⟨h1, h2⟩ := h
      match s, h1 with
      | [x, y], _ =>
        have a1 := h2 x (List.mem_cons_self ..)
        have a2 := h2 y (List.mem_cons_of_mem _ (List.mem_cons_self ..))
        have b1 : x = 0 ∨ x = 1 ∨ x = 2 := by omega
        have b2 : y = 0 ∨ y = 1 ∨ y = 2 := by omega
        rcases b1 with h | h | h <;> rcases b2 with h' | h' | h' <;> rw [h, h'] <;> decide
theorem ops4 : ∀ i, i < 4 → opsL.getD i "" = "!=" ∨ opsL.getD i "" = "<" ∨ opsL.getD i "" = "-" ∨ opsL.getD i "" = "==" := by decide
theorem plain_good (ns : List Int) (i : Nat) {nv : Nat} (h : 0 < nv) : PlOk nv (plainV ns nv i) where
  op := by
    have k0 := fmod_nonneg (cellV ns (5 + 3 * (i : Int))) (b := 4) (by decide)
    have k1 := fmod_lt (cellV ns (5 + 3 * (i : Int))) (b := 4) (by decide)
    exact ops4 _ (by omega)
  v := ⟨fmod_nonneg _ (by omega), fmod_lt _ (by omega)⟩
  s := by
    have f (a : Int) : 0 ≤ a.fmod nv ∧ a.fmod nv < nv := ⟨fmod_nonneg _ (by omega), fmod_lt _ (by omega)⟩
    show ∀ s ∈ setsP ns nv i, _
    intro s hs
    unfold setsP at hs
    split at hs
    · simp only [List.mem_cons, List.not_mem_nil, or_false] at hs
      rcases hs with e | e <;> rw [e] <;> exact ⟨f _, f _⟩
    · simp only [List.mem_cons, List.not_mem_nil, or_false] at hs
      rw [hs]; exact ⟨f _, f _⟩
  l := by
    show (setsP ns nv i).length ≤ 1000
    unfold setsP
    split
    · show 2 ≤ 1000; decide
    · show 1 ≤ 1000; decide
theorem ok_num : PyData.strOk "num" = true := by decide +kernel
theorem ok_var : PyData.strOk "var" = true := by decide +kernel
theorem ok_sub : PyData.strOk "-" = true := by decide +kernel
theorem ok_ne : PyData.strOk "!=" = true := by decide +kernel
theorem ok_eq : PyData.strOk "==" = true := by decide +kernel
theorem ok_lt : PyData.strOk "<" = true := by decide +kernel
theorem gd_tok {n : Nat} {t : Tk} (h : PyData.strOk t.1 = true) : Gd (n + 1) (tokD t) := Gd.tuple (Gds.cons (Gd.str h) (Gds.cons Gd.int Gds.nil))
theorem gd_rule {nv : Nat} {r : R4} (h : PlOk nv r) : Gd 10 (ruleD (ruleOf r)) := by
  have ho : PyData.strOk r.2.1 = true := by
    rcases h.op with e | e | e | e <;> rw [e]
    · exact ok_ne
    · exact ok_lt
    · exact ok_sub
    · exact ok_eq
  have G : Gd 9 (.list [tokD ("var", r.1), tokD ("num", r.2.2.1), tokD (r.2.1, 0)]) := Gd.list (Gds.cons (gd_tok ok_var) (Gds.cons (gd_tok ok_num) (Gds.cons (gd_tok ho) Gds.nil)))
  refine Gd.tuple (Gds.cons G (Gds.cons (Gd.list ?_) Gds.nil))
  show Gds 8 ((r.2.2.2.map fun s => (s.1, ([("var", s.2.1), ("num", s.2.2), ("-", 0)] : List Tk))).map moveD)
  rw [List.map_map]
  exact Gds.map fun s => Gd.tuple (Gds.cons Gd.int (Gds.cons (Gd.list (Gds.cons (gd_tok ok_var) (Gds.cons (gd_tok ok_num) (Gds.cons (gd_tok ok_sub) Gds.nil)))) Gds.nil))
-- the paths tell the states
section
variable {en : List Int → List Int} {fi : List Int → Int → List Int} {st0 : List Int}
def PathOk (fi : List Int → Int → List Int) (st0 : List Int) (U : List Nd) : Prop := ∀ x ∈ U, x.2.2.foldl fi st0 = x.1
theorem PathOk.grow1 {U : List Nd} (h : PathOk fi st0 U) {p : Nat} {nd : Nd} {k : Int} (hn : nd.2.2.foldl fi st0 = nd.1) : PathOk fi st0 (grow1 fi p nd k U) := by
  unfold Mine.grow1
  split
  · exact h
  · intro x hx
    rcases List.mem_append.mp hx with hx | hx
    · exact h x hx
    · rw [List.mem_singleton.mp hx]
      show (nd.2.2 ++ [k]).foldl fi st0 = fi nd.1 k
      rw [List.foldl_append, hn]; rfl
theorem PathOk.grows {p : Nat} {nd : Nd} (hn : nd.2.2.foldl fi st0 = nd.1) : ∀ (ks : List Int) {U : List Nd}, PathOk fi st0 U → PathOk fi st0 (grows fi p nd ks U)
  | [], U, h => h
  | k :: ks, U, h => PathOk.grows hn ks (U := Mine.grow1 fi p nd k U) (h.grow1 hn)
theorem PathOk.bfs : ∀ (f p : Nat) {U : List Nd}, PathOk fi st0 U → PathOk fi st0 (bfs en fi f p U)
  | 0, _, _, h => h
  | f + 1, p, U, h => by
    rw [Mine.bfs]
    cases e : U[p]? with
    | none => exact h
    | some nd => exact PathOk.bfs f (p + 1) (PathOk.grows (h nd (List.mem_of_getElem? e)) (en nd.1) h)
theorem idx_at : ∀ (l : List (List Int)) (p : Nat) (x : List Int), l[p]? = some x → (∀ (m : Nat) (y : List Int), m < p → l[m]? = some y → y ≠ x) → l.idxOf x = p
  | [], p, x, h, _ => by cases h
  | y :: l, 0, x, h, _ => by cases h; rw [List.idxOf_cons, beq_self_eq_true]; rfl
  | y :: l, p + 1, x, h, hn => by
    have hy : y ≠ x := hn 0 y (by omega) rfl
    rw [List.idxOf_cons, beq_false_of_ne hy, idx_at l p x h fun m z hm hz => hn (m + 1) z (by omega) hz]
    rfl
theorem path_inj {Good : List Int → Prop} {U : List Nd} (I : BInv Good st0 U) (h : PathOk fi st0 U) {i j : Nat} {x y : Nd} (hi : U[i]? = some x) (hj : U[j]? = some y) (e : x.2.2 = y.2.2) : i = j := by
  have e1 : x.1 = y.1 := by rw [← h x (List.mem_of_getElem? hi), ← h y (List.mem_of_getElem? hj), e]
  have n := I.nd
  have hil := (List.getElem?_eq_some_iff.mp hi).1
  refine (List.getElem?_inj (l := U.map (·.1)) (by rw [List.length_map]; exact hil) n).mp ?_
  rw [List.getElem?_map, List.getElem?_map, hi, hj]
  show some x.1 = some y.1
  rw [e1]
end
abbrev lastV (w : List Int) : Int := w.getD (w.length - 1) 0
abbrev parF (ps : List (List Int)) (w : List Int) : PyData := .tuple [.int ((ps.idxOf w.dropLast : Nat) : Int), .int (lastV w)]
theorem par_at {Good : List Int → Prop} {fi : List Int → Int → List Int} {st0 : List Int} {U : List Nd} (I : BInv Good st0 U) (h : PathOk fi st0 U) {j : Nat} {x : Nd} (hj : 0 < j) (hx : U[j]? = some x) : x.2.2.dropLast ∈ U.map (·.2.2) ∧ x.2.2 ≠ [] ∧ parF (U.map (·.2.2)) x.2.2 = paD x := by
  obtain ⟨p, y, hp, hy, e1, e2⟩ := I.par j x hx hj
  have hd : x.2.2.dropLast = y.2.2 := by rw [e2, List.dropLast_concat]
  have hl : lastV x.2.2 = x.2.1.2 := by
    unfold lastV
    rw [e2, List.length_append, List.length_singleton, List.getD, show y.2.2.length + 1 - 1 = y.2.2.length from by omega, List.getElem?_append_right (Nat.le_refl _), Nat.sub_self]
    rfl
  refine ⟨by rw [hd]; exact List.mem_map_of_mem (List.mem_of_getElem? hy), by rw [e2]; simp, ?_⟩
  have hi : (U.map (·.2.2)).idxOf x.2.2.dropLast = p := by
    rw [hd]
    refine idx_at _ p _ (by rw [List.getElem?_map, hy]; rfl) fun m z hm hz e => ?_
    rw [List.getElem?_map] at hz
    obtain ⟨z', hz', e'⟩ := Option.map_eq_some_iff.mp hz
    have := path_inj I h hz' hy (by rw [e', e])
    omega
  show PyData.tuple [.int (((U.map (·.2.2)).idxOf x.2.2.dropLast : Nat) : Int), .int (lastV x.2.2)] = _
  rw [hi, hl, ← e1]
theorem par_all {Good : List Int → Prop} {fi : List Int → Int → List Int} {st0 : List Int} {U : List Nd} (I : BInv Good st0 U) (h : PathOk fi st0 U) : .tuple [.int (-1), .int (-1)] :: ((U.drop 1).map (·.2.2)).map (parF (U.map (·.2.2))) = U.map paD := by
  refine List.ext_getElem? fun i => ?_
  have hr := I.root
  cases i with
  | zero => rw [List.getElem?_map, hr]; rfl
  | succ i =>
    rw [List.getElem?_cons_succ, List.getElem?_map, List.getElem?_map, List.getElem?_map, List.getElem?_drop, Nat.add_comm 1 i]
    cases hx : U[i + 1]? with
    | none => rfl
    | some x =>
      show some (parF (U.map (·.2.2)) x.2.2) = some (paD x)
      rw [(par_at I h (by omega) hx).2.2]
local macro_rules | `(tactic| walk_at "call") => `(tactic| first
  | (with_reducible refine' Ev.callK (R := CellR) (by assumption) ?_ (CellR.mk (Side.out ?_) (Side.out ?_)) (Now.out ?_) (Now.out ?_) (Now.out ?_) (Now.out ?_)) <;> walk_at "ev"
  | (with_reducible refine' Ev.callK (R := DataR) (by assumption) ?_ (DataR.mk (Side.out ?_) (Side.out ?_)) (Now.out ?_) (Now.out ?_) (Now.out ?_) (Now.out ?_)) <;> walk_at "ev"
  | (with_reducible refine' Ev.callK (R := PlainR) (by assumption) ?_ (PlainR.mk (Side.out ?_) (Side.out ?_) (Side.out ?_)) (Now.out ?_) (Now.out ?_) (Now.out ?_) (Now.out ?_)) <;> walk_at "ev")
def lstOf : PyData → List Int
  | .list l => l.map intOf
  | _ => []
theorem lstOf_inv (w : List Int) : lstOf (listD w) = w := by
  show (w.map PyData.int).map intOf = _
  rw [List.map_map]
  have : (intOf ∘ PyData.int) = id := funext fun _ => rfl
  rw [this, List.map_id]
theorem stOf_inv (w : List Int) : stOf (.tuple (w.map .int)) = w := by
  show (w.map PyData.int).map intOf = _
  rw [List.map_map]
  have : (intOf ∘ PyData.int) = id := funext fun _ => rfl
  rw [this, List.map_id]
theorem ne_of_lt_idx {l : List (List Int)} {x : List Int} : ∀ (m : Nat) (hm : m < l.length), m < l.idxOf x → l[m] ≠ x := by
  induction l with
  | nil => intro m hm; cases hm
  | cons y l ih =>
    intro m hm hlt
    rw [List.idxOf_cons] at hlt
    cases hb : y == x with
    | true => rw [hb] at hlt; exact absurd hlt (by simp)
    | false =>
      rw [hb] at hlt
      have hlt : m < l.idxOf x + 1 := hlt
      cases m with
      | zero => exact fun e => by rw [show (y :: l)[0] = y from rfl] at e; rw [e] at hb; simp at hb
      | succ m => exact ih m (by simpa using hm) (by omega)
set_option maxHeartbeats 0 in
theorem law_ok {C : Cx} {f : Addr} {pm code doc dV kV : Value} (B : Bis C) (X : FnAt C f (fdOf dLaw pm code doc dV kV) ["script"] dLaw.body) (K1 : Def C "_law_cell" 1 CellR) (K2 : Def C "_law_plain" 2 PlainR) (K3 : Def C "_law_data" 1 DataR) (K4 : Def C "explored" 4 ExploredR) (K5 : DefD C "_law_words" 2 WordsR)
    (ns : List Int) (hn : ns.length ≤ 63) (hb : ∀ n ∈ ns, Builtin.Int.intBits n ≤ 1048576) : Fn C 5 f false [.list (ns.map .int)] false (.bool true) := by
  refine Fn.of X rfl fun L => ?_
  walk_at "asg"
  have b0 := fmod_nonneg (cellV ns 1) (b := 3) (by decide)
  have b1 := fmod_lt (cellV ns 1) (b := 3) (by decide)
  obtain ⟨base, hbe, hbase⟩ : ∃ base : Int, 3 - (cellV ns 1).fmod 3 = base ∧ (1 ≤ base ∧ base ≤ 3) := ⟨_, rfl, by omega⟩
  rw [hbe]
  have hb0 : base ≠ 0 := by omega
  walk_at "asg"
  walk_at "asg"
  obtain ⟨nv, hnve, hnv⟩ : ∃ nv : Nat, 2 - (cellV ns 2).fmod 2 = (nv : Int) ∧ (nv = 1 ∨ nv = 2) := by
    have h1 := fmod_nonneg (cellV ns 2) (b := 2) (by decide)
    have h2 := fmod_lt (cellV ns 2) (b := 2) (by decide)
    exact ⟨(2 - (cellV ns 2).fmod 2).toNat, by omega, by omega⟩
  rw [hnve]
  have hnv0 : (nv : Int) ≠ 0 := by omega
  walk_at "asg"
  have hS : Good36 base nv (([(cellV ns 3).fmod base, ((cellV ns 3).fdiv base).fmod base] : List Int).take nv) := by
    have f (a : Int) : 0 ≤ a.fmod base ∧ a.fmod base < base := ⟨fmod_nonneg _ (by omega), fmod_lt _ (by omega)⟩
    refine ⟨by rw [List.length_take]; show min _ 2 = _; omega, fun v hv => ?_⟩
    have hv := List.mem_of_mem_take hv
    simp only [List.mem_cons, List.not_mem_nil, or_false] at hv
    rcases hv with h | h <;> rw [h] <;> exact f _
  refine' Ex.assign (md := false) (d := listD (([(cellV ns 3).fmod base, ((cellV ns 3).fdiv base).fmod base] : List Int).take nv)) ?_ ?_
  · have e : listD (([(cellV ns 3).fmod base, ((cellV ns 3).fdiv base).fmod base] : List Int).take nv) = .list ((([(cellV ns 3).fmod base, ((cellV ns 3).fdiv base).fmod base] : List Int).take (nv : Int).toNat).map .int) := by rw [Int.toNat_natCast]
    rw [e]
    refine EvF.v (EvF.uptoI (ns := [(cellV ns 3).fmod base, ((cellV ns 3).fdiv base).fmod base]) (i := (nv : Int)) (Ev.b (EvF.v ?_)) ?_ (by omega) ⟨szl (by simp)⟩)
    · show EvF _ _ _ _ _ _ false [.int ((cellV ns 3).fmod base), .int (((cellV ns 3).fdiv base).fmod base)]
      walk_at "ev"
    · walk_at "ev"
  generalize ([(cellV ns 3).fmod base, ((cellV ns 3).fdiv base).fmod base] : List Int).take nv = st0 at *
  have c0 := fmod_nonneg ((cellV ns 2).fdiv 2) (b := 4) (by decide)
  have c1 := fmod_lt ((cellV ns 2).fdiv 2) (b := 4) (by decide)
  obtain ⟨cnt, hcnt⟩ : ∃ c : Int, 3 - ((cellV ns 2).fdiv 2).fmod 4 = c := ⟨_, rfl⟩
  have hcr : 0 ≤ cnt ∧ cnt ≤ 3 := by omega
  obtain ⟨pl, hpl⟩ : ∃ pl : List R4, pl = (List.range cnt.toNat).map (plainV ns nv) := ⟨_, rfl⟩
  have hpll : pl.length ≤ 3 := by rw [hpl]; simp; omega
  have hplo : ∀ r ∈ pl, PlOk nv r := fun r hr => by
    rw [hpl] at hr
    obtain ⟨k, _, rfl⟩ := List.mem_map.mp hr
    exact plain_good ns _ (by omega)
  refine' Ex.assign (md := false) (d := .list (pl.map r4D)) ?_ ?_
  · rw [hpl]
    refine Ev.callK (R := PlainR) K2 (args := [.list (ns.map .int), .int (nv : Int), .int cnt]) ?_ (PlainR.mk hn hnv0 hcr) (by decide) rfl (by decide) rfl
    rw [← hcnt]
    walk_at "ev"
  clear hpl
  have T := lts36 hbase hnv hplo
  have hv : ∀ st, Good36 base nv st → ∀ (i : Nat), i < pl.length → (0 ≤ (pl.getD i r0).1 ∧ (pl.getD i r0).1 < st.length) ∧ ∀ s ∈ (pl.getD i r0).2.2.2, (0 ≤ s.1 ∧ s.1 < st.length) ∧ (0 ≤ s.2.1 ∧ s.2.1 < st.length) := fun st hg i hi => by
    have hr : PlOk nv (pl.getD i r0) := hplo _ (by rw [List.getD, List.getElem?_eq_getElem hi]; exact List.getElem_mem hi)
    rw [hg.1]; exact ⟨hr.v, hr.s⟩
  have hpl1 : pl.length ≤ 1000 := by omega
  have hsl : st0.length ≤ 1000 := T.len st0 hS
  have hI : BInv (Good36 base nv) st0 (allB (enV pl) (fiV pl base) 9 st0) := bfs_inv T _ _ _ (BInv.start hS)
  have hP : PathOk (fiV pl base) st0 (allB (enV pl) (fiV pl base) 9 st0) := PathOk.bfs _ _ (fun x hx => by rw [List.mem_singleton.mp hx]; rfl)
  refine Ex.ctx [("script", false, .list (ns.map .int)), ("base", false, .int base), ("start", false, listD st0), ("plain", false, .list (pl.map r4D))] (by walk_at "all") ?_
  refine Ex.callD (args := [.list (pl.map r4D), listD st0, .int base]) K5 (by walk_at "ev") (WordsR.mk hb0 T hS hpl1 hv) (by decide) rfl (by decide) rfl rfl rfl rfl fun hp u d bs D => ?_
  have hX : ∀ lim : Int, 1 ≤ lim → ExploredR [.tuple [.int base, listD st0, .list ((pl.map ruleOf).map ruleD)], .int lim] true (.tuple [.list (((allB (enV pl) (fiV pl base) 9 st0).take lim.toNat).map stD), .list (((allB (enV pl) (fiV pl base) 9 st0).take lim.toNat).map paD), .bool (decide (((allB (enV pl) (fiV pl base) 9 st0).length : Int) ≤ lim))]) := fun lim hl => ExploredR.mk hb0 T hS (by rw [List.length_map]; omega) (by decide) hl
  generalize allB (enV pl) (fiV pl base) 9 st0 = all at *
  have hal := T.le hI
  have hpos := hI.pos
  have B' : Bis (C.on hp u) := B.on
  have K1' : Def (C.on hp u) "_law_cell" 1 CellR := K1.on
  have K3' : Def (C.on hp u) "_law_data" 1 DataR := K3.on
  have K4' : Def (C.on hp u) "explored" 4 ExploredR := K4.on
  have hkl : (all.map kvOf).length = all.length := List.length_map ..
  refine' Ex.assign (md := false) (d := .int (all.length : Int)) ?_ ?_
  · rw [← hkl]
    exact Ev.lenD B' D rfl (by omega) rfl (by decide) (by decide) rfl
  walk_at "asg"
  obtain ⟨lim, hlim⟩ : ∃ l : Int, l = if decide (cellV ns 0 < 0) = true then (all.length : Int) - 1 - cellV ns 0 else 1 + (cellV ns 0).fmod ((all.length : Int) + 1) := ⟨_, rfl⟩
  have hl1 : 1 ≤ lim := by
    rw [hlim]
    split
    · rename_i h; have := of_decide_eq_true h; omega
    · have := fmod_nonneg (cellV ns 0) (b := (all.length : Int) + 1) (by omega)
      omega
  have ht0 : (all.length : Int) + 1 ≠ 0 := by omega
  refine Ex.ifJ (b := decide (cellV ns 0 < 0)) (by walk_at "ev") [] [("base", false, .int base), ("start", false, listD st0), ("plain", false, .list (pl.map r4D)), ("words", false, opqs d bs), ("total", false, .int (all.length : Int)), ("limit", false, .int lim)] (fun h => ?_) (fun h => ?_) ?_
  · walk_at "asg"
    walk_at "end"
    rw [hlim, if_pos h]
  · walk_at "asg"
    walk_at "end"
    rw [hlim, if_neg (by rw [h]; decide)]
  walk_at "asg"
  obtain ⟨held, hheld⟩ : ∃ h : Int, min lim (all.length : Int) = h := ⟨_, rfl⟩
  rw [hheld]
  refine' Ex.assign (md := false) (d := .list ((all.map (·.2.2)).map listD)) ?_ ?_
  · have e : (all.map (·.2.2)).map listD = (all.map kvOf).map fun p => PyData.list (p.2.map .int) := by rw [List.map_map, List.map_map]; rfl
    rw [e]
    exact EvF.v (EvF.valuesD B' D rfl (by omega) rfl (by decide) (by decide) rfl rfl rfl)
  refine' Ex.asgLB (α := List Int) (xs := all.map (·.1)) (g := fun w => .tuple (w.map .int)) (md := true) (mdi := true) stOf stOf_inv listD ?_ (by rw [List.length_map]; omega) rfl rfl rfl (fun _ => rfl) rfl rfl (fun w hw L => ?_) ?_
  · have e : (all.map (·.1)).map (fun w : List Int => PyData.tuple (w.map .int)) = (all.map kvOf).map fun p => PyData.tuple (p.1.map .int) := by rw [List.map_map, List.map_map]; rfl
    rw [e]
    exact EvIB.keysD D rfl (by decide) (by decide)
  · obtain ⟨x, hx, rfl⟩ := List.mem_map.mp hw
    have := T.len _ (hI.good x hx)
    exact EvF.v (EvF.copyTB B' (EvB.name rfl rfl) ⟨szl (by rw [List.length_map]; omega)⟩ rfl rfl)
  refine Ex.free ?_
  have hpa := par_all hI hP
  have est : (all.map (·.1)).map listD = all.map stD := by rw [List.map_map]; rfl
  rw [est]
  refine' Ex.assign (md := true) (d := .list (all.map paD)) ?_ ?_
  · rw [← hpa]
    refine EvF.v (EvF.add (ds := [.tuple [.int (-1), .int (-1)]]) (by walk_at "ev") (Ev.b (EvF.v ?_)) (szl (by simp; omega)))
    refine' EvF.compL (xs := (all.drop 1).map (·.2.2)) (g := listD) (mdi := false) lstOf lstOf_inv (parF (all.map (·.2.2))) ?hi ?hz ?hcl ?hS ?hfl ?hs ?hst
    case hcl => rfl
    case hz => rw [List.length_map, List.length_drop]; omega
    case hS => rfl
    case hfl => rfl
    case hs => exact fun _ => rfl
    case hi =>
      refine EvI.list ?_
      have e : ((all.drop 1).map (·.2.2)).map listD = ((all.map (·.2.2)).map listD).drop (1 : Int).toNat := by rw [List.map_drop, List.map_drop]; rfl
      rw [e]
      exact EvF.v (EvF.frm (by walk_at "ev") (by walk_at "ev") (by decide) ⟨szl (by simp; omega)⟩)
    case hst =>
      intro w hw L
      obtain ⟨x, hx, rfl⟩ := List.mem_map.mp hw
      obtain ⟨i, hi⟩ := List.getElem?_of_mem hx
      rw [List.getElem?_drop] at hi
      obtain ⟨hm, hne, _⟩ := par_at hI hP (by omega) hi
      have hpl := hI.path _ _ x (Nat.le_refl _) hi
      have hil := (List.getElem?_eq_some_iff.mp hi).1
      generalize x.2.2 = w at *
      have hwl : w.length ≤ 1000 := by omega
      have hw0 : 0 < w.length := List.length_pos_iff.mpr hne
      have hix := List.idxOf_lt_length_iff.mpr hm
      have hat : ∀ m (hm : m < ((all.map (·.2.2)).map listD).length), PyData.eqv ((all.map (·.2.2)).map listD)[m] (listD w.dropLast) = ((all.map (·.2.2))[m]'(by simpa using hm) == w.dropLast) := fun m hm => by
        rw [List.getElem_map]
        exact eqv_ints _ _
      refine Ev.tuple (Evs.cons ?_ (Evs.cons ?_ Evs.nil rfl) rfl) (szl (by simp))
      · refine Ev.indexL (ds := (all.map (·.2.2)).map listD) (dd := listD w.dropLast) (by walk_at "ev") (Ev.b (EvF.v ?_)) (Gds.map fun _ => Gd.list Gds.ints) (Gd.list Gds.ints) (by rw [List.length_map]; exact hix) (by simp; omega) ?_ (fun m hm' hlt => ?_) rfl rfl rfl
        · have e : w.dropLast.map PyData.int = slD (w.map .int) none (some (-1)) := by rw [slD_init, List.map_dropLast]
          rw [e]
          refine EvF.slice (by walk_at "ev") trivial ?_ (szl (by rw [List.length_map]; omega))
          show EvB _ _ _ _ _ _ false (.int (-1))
          walk_at "ev"
        · rw [hat]
          exact beq_iff_eq.mpr (List.getElem_idxOf hix)
        · rw [hat]
          exact beq_false_of_ne (ne_of_lt_idx m _ hlt)
      · refine EvB.at (md' := false) (Ev.b (Ev.itemNeg (ds := w.map .int) (i := -1) (by walk_at "ev") (by walk_at "ev") (by decide) (by rw [List.length_map]; omega) ?_ (szl (by rw [List.length_map]; omega)) (fun _ _ => ⟨_, rfl⟩))) rfl
        rw [List.length_map, show (-1 + (w.length : Int)).toNat = w.length - 1 from by omega]
        show _ = some (PyData.int (w.getD (w.length - 1) 0))
        have hw1 : w.length - 1 < w.length := by omega
        have hgd : w.getD (w.length - 1) 0 = w[w.length - 1] := by unfold List.getD; rw [List.getElem?_eq_getElem hw1]; rfl
        rw [List.getElem?_map, List.getElem?_eq_getElem hw1, hgd]
        rfl
  refine' Ex.assignOwn (md := false) (ds := st0.map .int) (by walk_at "ev") ?_
  refine Ex.ctx [("base", false, .int base), ("start", false, listD st0), ("plain", false, .list (pl.map r4D)), ("total", false, .int (all.length : Int)), ("limit", false, .int lim), ("held", false, .int held), ("states", true, .list (all.map stD)), ("parents", true, .list (all.map paD)), ("first", false, listD st0)] (by walk_at "all") ?_
  have hdl : ∀ r ∈ pl, r.2.2.2.length ≤ 1000 := fun r hr => (hplo r hr).l
  have hgm : Gd 20 (.tuple [.int base, listD st0, .list ((pl.map ruleOf).map ruleD)]) := by
    refine Gd.tuple (Gds.cons Gd.int (Gds.cons (Gd.list Gds.ints) (Gds.cons (Gd.list (n := 18) ⟨fun e he => ?_⟩) Gds.nil)))
    rw [List.map_map] at he
    obtain ⟨r, hr, rfl⟩ := List.mem_map.mp he
    exact (gd_rule (hplo r hr)).mono (by decide)
  refine' Ex.assign (md := false) (d := .tuple [.int base, listD st0, .list ((pl.map ruleOf).map ruleD)]) ?_ ?_
  · refine Ev.tuple (Evs.cons (by walk_at "ev") (Evs.cons (Ev.lent rfl rfl (by decide) (by decide)) (Evs.cons ?_ Evs.nil rfl) rfl) rfl) (szl (by simp))
    walk_at "ev"
  refine' Ex.assign (md := true) (d := .tuple [.list ((all.take lim.toNat).map stD), .list ((all.take lim.toNat).map paD), .bool (decide ((all.length : Int) ≤ lim))]) ?_ ?_
  · exact Ev.callK (R := ExploredR) K4' (args := [.tuple [.int base, listD st0, .list ((pl.map ruleOf).map ruleD)], .int lim]) (by walk_at "ev") (hX lim hl1) (by decide) rfl (by decide) rfl
  refine' Ex.ifSkip (b := !PyData.eqv (.tuple [.int base, listD st0, .list ((pl.map ruleOf).map ruleD)]) (.tuple [.int base, listD st0, .list ((pl.map ruleOf).map ruleD)])) ?_ ?_ ?_
  · exact Tst.cmp (Cmp.neG (by walk_at "ev") (by walk_at "ev") hgm hgm) rfl
  · rw [hgm.self]; rfl
  refine Ex.appendLent [("base", false, .int base), ("total", false, .int (all.length : Int)), ("limit", false, .int lim), ("held", false, .int held), ("states", true, .list (all.map stD)), ("parents", true, .list (all.map paD)), ("got", true, .tuple [.list ((all.take lim.toNat).map stD), .list ((all.take lim.toNat).map paD), .bool (decide ((all.length : Int) ≤ lim))])] (by walk_at "all") rfl (md := false) (d := .int base) (by walk_at "ev") rfl rfl (szl (by rw [List.length_map]; omega)) ?_
  have htk : ∀ g : Nd → PyData, (all.map g).take held.toNat = (all.take lim.toNat).map g := fun g => by
    rw [← List.map_take, ← hheld]
    congr 1
    by_cases h : lim ≤ (all.length : Int)
    · rw [show min lim (all.length : Int) = lim from by omega]
    · rw [show min lim (all.length : Int) = (all.length : Int) from by omega, Int.toNat_natCast, List.take_length, List.take_of_length_le (by omega)]
  have hgg : Gd 20 (.tuple [.list ((all.take lim.toNat).map stD), .list ((all.take lim.toNat).map paD), .bool (decide ((all.length : Int) ≤ lim))]) :=
    Gd.tuple (Gds.cons (Gd.list (Gds.map fun _ => Gd.list Gds.ints)) (Gds.cons (Gd.list (Gds.map fun _ => Gd.tuple (Gds.cons Gd.int (Gds.cons Gd.int Gds.nil)))) (Gds.cons Gd.bool Gds.nil)))
  have hh0 : 0 ≤ held := by omega
  refine' Ex.ifSkip (b := !PyData.eqv (.tuple [.list ((all.take lim.toNat).map stD), .list ((all.take lim.toNat).map paD), .bool (decide ((all.length : Int) ≤ lim))]) (.tuple [.list ((all.take lim.toNat).map stD), .list ((all.take lim.toNat).map paD), .bool (decide ((all.length : Int) ≤ lim))])) ?_ ?_ ?_
  · refine Tst.cmp (Cmp.neG (by walk_at "ev") (Ev.b (Ev.tuple (Evs.cons ?_ (Evs.cons ?_ (Evs.cons ?_ Evs.nil rfl) rfl) rfl) (szl (by simp)))) hgg hgg) rfl
    · rw [← htk stD]
      exact EvF.v (EvF.upto (by walk_at "ev") (by walk_at "ev") hh0 ⟨szl (by rw [List.length_map]; omega)⟩)
    · rw [← htk paD]
      exact EvF.v (EvF.upto (by walk_at "ev") (by walk_at "ev") hh0 ⟨szl (by rw [List.length_map]; omega)⟩)
    · walk_at "ev"
  · rw [hgg.self]; rfl
  walk_at "skip"
  · rfl
  walk_at "ret"
  rfl
end Mine

open PySem PySem.W PyProof.Rows Mine
set_option maxHeartbeats 8000000
open_top hdk40036 for PySem.Challenge.rw_k4_0036
theorem PySem.Challenge.cw_k4_0036_holds : PySem.Challenge.rw_k4_0036.Holds :=
  hdk40036 (by
  intro w s₀ s₁ mg mb G Y fa o pm cd doc dV kV ho hd hcd hD hmg hg args vals as hpre hlay hrd hwl hlo
  obtain rfl : dV = .none := hD.pos.elim (fun y => y.2) (fun y => absurd rfl y.1)
  obtain rfl : kV = .none := hD.kw.elim (fun y => y.2) (fun y => absurd rfl y.1)
  have KX := kIn_of Y
  refine Ground.open G ?_
  intro T B D TE TW
  wrow_args hpre hlay hrd hwl hlo
  rename_i ns hs hlay0 hL hr hl2 ws1 ws2 a vs ws3 hil ra w1 r0 hI hr2 hc1 hc2
  obtain ⟨n0, ha⟩ := lst_of hil w1
  have Bi := bis_of (C := (cxOf T PySem.Challenge.rw_k4_0036.row.prog w rfl (T.seer rfl))) T (by decide +kernel) rfl
  obtain ⟨f1, o1, pm1, cd1, doc1, hg1, ho1, hd1, hc1x⟩ := fn_of_top T dApply 0 rfl
  have X1 := fnAt_of (C := (cxOf T PySem.Challenge.rw_k4_0036.row.prog w rfl (T.seer rfl))) (ps := ["op", "a", "b"]) ho1 hd1 hc1x (fun vs h => match vs, h with | [_, _, _], _ => rfl) (by decide) (fun _ => rfl) rfl rfl rfl
  have K1 := Def.of hg1 X1 (apply_ok X1)
  obtain ⟨f2, o2, pm2, cd2, doc2, hg2, ho2, hd2, hc2x⟩ := fn_of_top T dValue 1 rfl
  have X2 := fnAt_of (C := (cxOf T PySem.Challenge.rw_k4_0036.row.prog w rfl (T.seer rfl))) (ps := ["expr", "state"]) ho2 hd2 hc2x (fun vs h => match vs, h with | [_, _], _ => rfl) (by decide) (fun _ => rfl) rfl rfl rfl
  have K2 := Def.of hg2 X2 (value_ok Bi X2 K1)
  obtain ⟨f3, o3, pm3, cd3, doc3, hg3, ho3, hd3, hc3x⟩ := fn_of_top T dEnabled 2 rfl
  have X3 := fnAt_of (C := (cxOf T PySem.Challenge.rw_k4_0036.row.prog w rfl (T.seer rfl))) (ps := ["model", "state"]) ho3 hd3 hc3x (fun vs h => match vs, h with | [_, _], _ => rfl) (by decide) (fun _ => rfl) rfl rfl rfl
  have K3 := Def.of hg3 X3 (enabled_ok Bi X3 K2)
  obtain ⟨f4, o4, pm4, cd4, doc4, hg4, ho4, hd4, hc4x⟩ := fn_of_top T dFired 3 rfl
  have X4 := fnAt_of (C := (cxOf T PySem.Challenge.rw_k4_0036.row.prog w rfl (T.seer rfl))) (ps := ["model", "state", "k"]) ho4 hd4 hc4x (fun vs h => match vs, h with | [_, _, _], _ => rfl) (by decide) (fun _ => rfl) rfl rfl rfl
  have K4 := Def.of hg4 X4 (fired_ok Bi X4 K2)
  obtain ⟨f5, o5, pm5, cd5, doc5, hg5, ho5, hd5, hc5x⟩ := fn_of_top T dExplored 4 rfl
  have X5 := fnAt_of (C := (cxOf T PySem.Challenge.rw_k4_0036.row.prog w rfl (T.seer rfl))) (ps := ["model", "limit"]) ho5 hd5 hc5x (fun vs h => match vs, h with | [_, _], _ => rfl) (by decide) (fun _ => rfl) rfl rfl rfl
  have K5 := Def.of hg5 X5 (explored_ok Bi X5 K3 K4)
  obtain ⟨f6, o6, pm6, cd6, doc6, hg6, ho6, hd6, hc6x⟩ := fn_of_top T dOps 5 rfl
  have X6 := fnAt_of (C := (cxOf T PySem.Challenge.rw_k4_0036.row.prog w rfl (T.seer rfl))) (ps := []) ho6 hd6 hc6x (fun vs h => match vs, h with | [], _ => rfl) (by decide) (fun _ => rfl) rfl rfl rfl
  have K6 := Def.of hg6 X6 (ops_ok X6)
  obtain ⟨f7, o7, pm7, cd7, doc7, hg7, ho7, hd7, hc7x⟩ := fn_of_top T dCell 6 rfl
  have X7 := fnAt_of (C := (cxOf T PySem.Challenge.rw_k4_0036.row.prog w rfl (T.seer rfl))) (ps := ["script", "i"]) ho7 hd7 hc7x (fun vs h => match vs, h with | [_, _], _ => rfl) (by decide) (fun _ => rfl) rfl rfl rfl
  have K7 := Def.of hg7 X7 (cell_ok Bi X7)
  obtain ⟨f8, o8, pm8, cd8, doc8, hg8, ho8, hd8, hc8x⟩ := fn_of_top T dPlain 7 rfl
  have X8 := fnAt_of (C := (cxOf T PySem.Challenge.rw_k4_0036.row.prog w rfl (T.seer rfl))) (ps := ["script", "nvars", "count"]) ho8 hd8 hc8x (fun vs h => match vs, h with | [_, _, _], _ => rfl) (by decide) (fun _ => rfl) rfl rfl rfl
  have K8 := Def.of hg8 X8 (plain_ok Bi X8 K7 K6)
  obtain ⟨f9, o9, pm9, cd9, doc9, hg9, ho9, hd9, hc9x⟩ := fn_of_top T dData 8 rfl
  have X9 := fnAt_of (C := (cxOf T PySem.Challenge.rw_k4_0036.row.prog w rfl (T.seer rfl))) (ps := ["plain"]) ho9 hd9 hc9x (fun vs h => match vs, h with | [_], _ => rfl) (by decide) (fun _ => rfl) rfl rfl rfl
  have K9 := Def.of hg9 X9 (data_ok Bi X9)
  obtain ⟨f10, o10, pm10, cd10, doc10, hg10, ho10, hd10, hc10x⟩ := fn_of_top T dHolds 9 rfl
  have X10 := fnAt_of (C := (cxOf T PySem.Challenge.rw_k4_0036.row.prog w rfl (T.seer rfl))) (ps := ["op", "x", "n"]) ho10 hd10 hc10x (fun vs h => match vs, h with | [_, _, _], _ => rfl) (by decide) (fun _ => rfl) rfl rfl rfl
  have K10 := Def.of hg10 X10 (holds_ok X10)
  obtain ⟨f11, o11, pm11, cd11, doc11, hg11, ho11, hd11, hc11x⟩ := fn_of_top T dAfter 10 rfl
  have X11 := fnAt_of (C := (cxOf T PySem.Challenge.rw_k4_0036.row.prog w rfl (T.seer rfl))) (ps := ["old", "sets", "base"]) ho11 hd11 hc11x (fun vs h => match vs, h with | [_, _, _], _ => rfl) (by decide) (fun _ => rfl) rfl rfl rfl
  have K11 := Def.of hg11 X11 (after_ok Bi X11)
  obtain ⟨fW, oW, pmW, cdW, docW, hgW, hoW, hdW, hcWx⟩ := fn_of_top T dWords 11 rfl
  have XW := fnAt_of (C := (cxOf T PySem.Challenge.rw_k4_0036.row.prog w rfl (T.seer rfl))) (ps := ["plain", "start", "base"]) hoW hdW hcWx (fun vs h => match vs, h with | [_, _, _], _ => rfl) (by decide) (fun _ => rfl) rfl rfl rfl
  have KW := DefD.of hgW XW (words_ok Bi XW K10 K11)
  have XL := fnAt_of (C := (cxOf T PySem.Challenge.rw_k4_0036.row.prog w rfl (T.seer rfl))) (ps := ["script"]) (d := dLaw) ho hd hcd (fun vs h => match vs, h with | [_], _ => rfl) (by decide) (fun _ => rfl) rfl rfl rfl
  have F := law_ok Bi XL K7 K8 K9 K5 KW ns (by omega) (bits_of hL)
  exact law_end rfl rfl rfl F (by decide) ha hI hg (fun _ => rfl) (postW_of (X := true) (by first | rfl | (simp [WShape.has]; done)) (by first | rfl | wtm_val) rfl))
