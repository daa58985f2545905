import PyProof.Rows.All
import PyProof.StationsW
import PyProof.Claim2
import PyProof.Calls
import PyProof.Seq
import PyProof.Rules3
import PyProof.RulesTry
import PyProof.Rows.Frame
import PyProof.Rows.CellsFrame
import OpenK.KRaise
import KE.KItem
import PyProof.ExcFactsAll.ValueError
import PyProof.ExcFactsAll.ZeroDivisionError
import PyProof.ExcAttrAll.ValueError
import PyProof.ExcAttrAll.ZeroDivisionError
import PyProof.CompFree
import PyProof.Rows.RuleB_pow
import PyProof.Rows.GenRows
import PyProof.TupleKey
import PyProof.WalkInts
import PyProof.Rows.MinMaxN
import Open.Line
import Wide.BridgeG
import PySem.Challenge.RW_sx_zlimbs_6
set_option Elab.async false
set_option compiler.extract_closed false
set_option maxRecDepth 100000
namespace Mine
open PySem PySem.Calls PyProof.Rows
set_option autoImplicit false

-- data read at one heap are read at another that keeps their objects
mutual
theorem reads_on {h h' : Heap} : ∀ {v : Value} {d : PyData} {as : List Addr}, Reads h v d as →
    (∀ b o, h.get? b = some o → (b ∈ as ∨ (o.cls = .type "tuple" ∧ ∃ vs n, o.data = .seq vs n)) → ∃ o', h'.get? b = some o' ∧ o'.cls = o.cls ∧ o'.data = o.data) → Reads h' v d as
  | _, _, _, .none, _ => .none
  | _, _, _, .bool b, _ => .bool b
  | _, _, _, .int i t, _ => .int i t
  | _, _, _, .str x t, _ => .str x t
  | _, _, _, .list h1 h2 h3 h4, H =>
    let ⟨_, k1, k2, k3⟩ := H _ _ h1 (.inl (.head _))
    .list k1 (k2.trans h2) (k3.trans h3) (readsAll_on h4 fun b o e q => H b o e (q.imp (.tail _) id))
  | _, _, _, .tuple h1 h2 h3 h4, H =>
    let ⟨_, k1, k2, k3⟩ := H _ _ h1 (.inr ⟨h2, _, _, h3⟩)
    .tuple k1 (k2.trans h2) (k3.trans h3) (readsAll_on h4 H)
  | _, _, _, .dict h1 h2 h3 h4 h5, H =>
    let ⟨_, k1, k2, k3⟩ := H _ _ h1 (.inl (.head _))
    .dict k1 (k2.trans h2) (k3.trans h3) (readsAll_on h4 fun b o e q => H b o e (q.imp (fun m => .tail _ (List.mem_append_left _ m)) id))
      (readsAll_on h5 fun b o e q => H b o e (q.imp (fun m => .tail _ (List.mem_append_right _ m)) id))
theorem readsAll_on {h h' : Heap} : ∀ {vs : List Value} {ds : List PyData} {as : List Addr}, ReadsAll h vs ds as →
    (∀ b o, h.get? b = some o → (b ∈ as ∨ (o.cls = .type "tuple" ∧ ∃ vs n, o.data = .seq vs n)) → ∃ o', h'.get? b = some o' ∧ o'.cls = o.cls ∧ o'.data = o.data) → ReadsAll h' vs ds as
  | _, _, _, .nil, _ => .nil
  | _, _, _, .cons h1 h2, H => .cons (reads_on h1 fun b o e q => H b o e (q.imp (List.mem_append_left _) id)) (readsAll_on h2 fun b o e q => H b o e (q.imp (List.mem_append_right _) id))
end
mutual
theorem reads_seq {h : Heap} : ∀ {v : Value} {d : PyData} {as : List Addr}, Reads h v d as → ∀ a ∈ as, ∃ o, h.get? a = some o ∧ ∀ vs, o.data ≠ .fields vs
  | _, _, _, .none, _, m => nomatch m
  | _, _, _, .bool _, _, m => nomatch m
  | _, _, _, .int _ _, _, m => nomatch m
  | _, _, _, .str _ _, _, m => nomatch m
  | _, _, _, .list h1 _ h3 h4, a, m => (List.mem_cons.mp m).elim (fun e => ⟨_, e ▸ h1, fun _ q => by rw [h3] at q; cases q⟩) (readsAll_seq h4 a)
  | _, _, _, .tuple _ _ _ h4, a, m => readsAll_seq h4 a m
  | _, _, _, .dict h1 _ h3 h4 h5, a, m => (List.mem_cons.mp m).elim (fun e => ⟨_, e ▸ h1, fun _ q => by rw [h3] at q; cases q⟩) fun m => (List.mem_append.mp m).elim (readsAll_seq h4 a) (readsAll_seq h5 a)
theorem readsAll_seq {h : Heap} : ∀ {vs : List Value} {ds : List PyData} {as : List Addr}, ReadsAll h vs ds as → ∀ a ∈ as, ∃ o, h.get? a = some o ∧ ∀ vs, o.data ≠ .fields vs
  | _, _, _, .nil, _, m => nomatch m
  | _, _, _, .cons h1 h2, a, m => (List.mem_append.mp m).elim (reads_seq h1 a) (readsAll_seq h2 a)
end
theorem reads_live {h : Heap} {v : Value} {d : PyData} {as : List Addr} (r : Reads h v d as) (a : Addr) (m : a ∈ as) : ∃ o, h.get? a = some o := let ⟨o, e, _⟩ := reads_seq r a m; ⟨o, e⟩
theorem readsAll_live {h : Heap} {v : List Value} {d : List PyData} {as : List Addr} (r : ReadsAll h v d as) (a : Addr) (m : a ∈ as) : ∃ o, h.get? a = some o := let ⟨o, e, _⟩ := readsAll_seq r a m; ⟨o, e⟩

/-- a value that reads as d, and none of whose lists is one of O -/
def Rd (O : List Addr) (h : Heap) (v : Value) (d : PyData) : Prop := ∃ as, Reads h v d as ∧ ∀ a ∈ as, a ∉ O
def RdAll (O : List Addr) (h : Heap) (vs : List Value) (ds : List PyData) : Prop := ∃ as, ReadsAll h vs ds as ∧ ∀ a ∈ as, a ∉ O

theorem Rd.none {O h} : Rd O h .none .none := ⟨_, .none, fun _ m => nomatch m⟩
theorem Rd.bool {O h} (b : Bool) : Rd O h (.bool b) (.bool b) := ⟨_, .bool b, fun _ m => nomatch m⟩
theorem Rd.int {O h} (i : Int) (t : Tok) : Rd O h (.int i t) (.int i) := ⟨_, .int i t, fun _ m => nomatch m⟩
theorem Rd.str {O h} (x : Str) (t : Tok) : Rd O h (.str x t) (.str x) := ⟨_, .str x t, fun _ m => nomatch m⟩
theorem RdAll.nil {O h} : RdAll O h [] [] := ⟨_, .nil, fun _ m => nomatch m⟩
theorem RdAll.cons {O h v vs d ds} : Rd O h v d → RdAll O h vs ds → RdAll O h (v :: vs) (d :: ds)
  | ⟨_, r, k⟩, ⟨_, r', k'⟩ => ⟨_, .cons r r', fun a m => (List.mem_append.mp m).elim (k a) (k' a)⟩
theorem RdAll.inv {O h vs d ds} (x : RdAll O h vs (d :: ds)) : ∃ v ws, vs = v :: ws ∧ Rd O h v d ∧ RdAll O h ws ds := by
  obtain ⟨_, r, k⟩ := x
  cases r with
  | cons r r' => exact ⟨_, _, rfl, ⟨_, r, fun a m => k a (List.mem_append_left _ m)⟩, ⟨_, r', fun a m => k a (List.mem_append_right _ m)⟩⟩
theorem RdAll.invNil {O h vs} (x : RdAll O h vs []) : vs = [] := by
  obtain ⟨_, r, _⟩ := x
  cases r; rfl
theorem RdAll.one {O h vs d} (x : RdAll O h vs [d]) : ∃ v, vs = [v] ∧ Rd O h v d := by
  obtain ⟨v, ws, rfl, r, y⟩ := x.inv
  rw [y.invNil]; exact ⟨v, rfl, r⟩
theorem RdAll.two {O h vs d e} (x : RdAll O h vs [d, e]) : ∃ v u, vs = [v, u] ∧ Rd O h v d ∧ Rd O h u e := by
  obtain ⟨v, ws, rfl, r, y⟩ := x.inv
  obtain ⟨u, rfl, r'⟩ := y.one
  exact ⟨v, u, rfl, r, r'⟩
theorem RdAll.length {O h vs} : ∀ {ds}, RdAll O h vs ds → vs.length = ds.length := by
  induction vs with
  | nil =>
    intro ds x
    cases ds with
    | nil => rfl
    | cons d ds => obtain ⟨_, _, e, _⟩ := x.inv; cases e
  | cons v vs ih =>
    intro ds x
    cases ds with
    | nil => have := x.invNil; cases this
    | cons d ds =>
      obtain ⟨_, _, e, _, y⟩ := x.inv
      cases e
      simp [ih y]
theorem RdAll.get {O h} : ∀ {vs ds}, RdAll O h vs ds → ∀ (i : Nat) (d : PyData), ds[i]? = some d → ∃ v, vs[i]? = some v ∧ Rd O h v d := by
  intro vs ds
  induction ds generalizing vs with
  | nil => intro _ i d e; simp at e
  | cons d ds ih =>
    intro x i d' e
    obtain ⟨v, ws, rfl, r, y⟩ := x.inv
    cases i with
    | zero => simp at e; subst e; exact ⟨v, rfl, r⟩
    | succ i => simpa using ih y i d' (by simpa using e)
theorem RdAll.append {O h} : ∀ {vs ws ds es}, RdAll O h vs ds → RdAll O h ws es → RdAll O h (vs ++ ws) (ds ++ es) := by
  intro vs ws ds es
  induction ds generalizing vs with
  | nil => intro x y; rw [x.invNil]; exact y
  | cons d ds ih =>
    intro x y
    obtain ⟨v, us, rfl, r, z⟩ := x.inv
    exact RdAll.cons r (ih z y)
theorem RdAll.take {O h} : ∀ {vs ds} (n : Nat), RdAll O h vs ds → RdAll O h (vs.take n) (ds.take n) := by
  intro vs ds n
  induction n generalizing vs ds with
  | zero => intro _; simpa using RdAll.nil
  | succ n ih =>
    intro x
    cases ds with
    | nil => rw [x.invNil]; simpa using RdAll.nil
    | cons d ds =>
      obtain ⟨v, ws, rfl, r, y⟩ := x.inv
      simpa using RdAll.cons r (ih y)
theorem RdAll.drop {O h} : ∀ {vs ds} (n : Nat), RdAll O h vs ds → RdAll O h (vs.drop n) (ds.drop n) := by
  intro vs ds n
  induction n generalizing vs ds with
  | zero => intro x; simpa using x
  | succ n ih =>
    intro x
    cases ds with
    | nil => rw [x.invNil]; simpa using RdAll.nil
    | cons d ds =>
      obtain ⟨v, ws, rfl, r, y⟩ := x.inv
      simpa using ih y
theorem RdAll.set {O h} : ∀ {vs ds} (n : Nat) {v d}, RdAll O h vs ds → Rd O h v d → RdAll O h (vs.set n v) (ds.set n d) := by
  intro vs ds n v d
  induction n generalizing vs ds with
  | zero =>
    intro x r
    cases ds with
    | nil => rw [x.invNil]; simpa using RdAll.nil
    | cons e ds =>
      obtain ⟨u, ws, rfl, _, y⟩ := x.inv
      simpa using RdAll.cons r y
  | succ n ih =>
    intro x r
    cases ds with
    | nil => rw [x.invNil]; simpa using RdAll.nil
    | cons e ds =>
      obtain ⟨u, ws, rfl, r', y⟩ := x.inv
      simpa using RdAll.cons r' (ih y r)
theorem RdAll.reverse {O h} : ∀ {vs ds}, RdAll O h vs ds → RdAll O h vs.reverse ds.reverse := by
  intro vs ds
  induction ds generalizing vs with
  | nil => intro x; rw [x.invNil]; simpa using RdAll.nil
  | cons d ds ih =>
    intro x
    obtain ⟨v, ws, rfl, r, y⟩ := x.inv
    simpa using (ih y).append (RdAll.cons r RdAll.nil)
theorem Rd.list {O : List Addr} {h : Heap} {a : Addr} {o : Obj} {vs : Array Value} {n : Nat} {ds : List PyData} (ho : h.get? a = some o) (hc : o.cls = .type "list") (hd : o.data = .seq vs n) (ha : a ∉ O) : RdAll O h vs.toList ds → Rd O h (.ref a) (.list ds)
  | ⟨_, r, k⟩ => ⟨_, .list ho hc hd r, fun b m => (List.mem_cons.mp m).elim (fun e => e ▸ ha) (k b)⟩
theorem Rd.tuple {O : List Addr} {h : Heap} {a : Addr} {o : Obj} {vs : Array Value} {n : Nat} {ds : List PyData} (ho : h.get? a = some o) (hc : o.cls = .type "tuple") (hd : o.data = .seq vs n) : RdAll O h vs.toList ds → Rd O h (.ref a) (.tuple ds)
  | ⟨_, r, k⟩ => ⟨_, .tuple ho hc hd r, k⟩
theorem Rd.listInv {O : List Addr} {h : Heap} {v : Value} {ds : List PyData} (x : Rd O h v (.list ds)) : ∃ a o vs n, v = .ref a ∧ h.get? a = some o ∧ o.cls = .type "list" ∧ o.data = .seq vs n ∧ a ∉ O ∧ RdAll O h vs.toList ds := by
  obtain ⟨_, r, k⟩ := x
  cases r with
  | list h1 h2 h3 h4 => exact ⟨_, _, _, _, rfl, h1, h2, h3, k _ (.head _), ⟨_, h4, fun a m => k a (.tail _ m)⟩⟩
theorem Rd.tupleInv {O : List Addr} {h : Heap} {v : Value} {ds : List PyData} (x : Rd O h v (.tuple ds)) : ∃ a o vs n, v = .ref a ∧ h.get? a = some o ∧ o.cls = .type "tuple" ∧ o.data = .seq vs n ∧ RdAll O h vs.toList ds := by
  obtain ⟨_, r, k⟩ := x
  cases r with
  | tuple h1 h2 h3 h4 => exact ⟨_, _, _, _, rfl, h1, h2, h3, ⟨_, h4, k⟩⟩
theorem Rd.intInv {O : List Addr} {h : Heap} {v : Value} {i : Int} (x : Rd O h v (.int i)) : ∃ t, v = .int i t := by
  obtain ⟨_, r, _⟩ := x; cases r; exact ⟨_, rfl⟩
theorem Rd.boolInv {O : List Addr} {h : Heap} {v : Value} {b : Bool} (x : Rd O h v (.bool b)) : v = .bool b := by
  obtain ⟨_, r, _⟩ := x; cases r; rfl
theorem Rd.strInv {O : List Addr} {h : Heap} {v : Value} {i : Str} (x : Rd O h v (.str i)) : ∃ t, v = .str i t := by
  obtain ⟨_, r, _⟩ := x; cases r; exact ⟨_, rfl⟩
theorem Rd.noneInv {O : List Addr} {h : Heap} {v : Value} (x : Rd O h v .none) : v = .none := by
  obtain ⟨_, r, _⟩ := x; cases r; rfl
theorem Rd.sub {O O' : List Addr} {h : Heap} {v : Value} {d : PyData} (k : ∀ a ∈ O', a ∈ O) : Rd O h v d → Rd O' h v d
  | ⟨_, r, m⟩ => ⟨_, r, fun a ha q => m a ha (k a q)⟩
theorem RdAll.sub {O O' : List Addr} {h : Heap} {v : List Value} {d : List PyData} (k : ∀ a ∈ O', a ∈ O) : RdAll O h v d → RdAll O' h v d
  | ⟨_, r, m⟩ => ⟨_, r, fun a ha q => m a ha (k a q)⟩
/-- an address that holds nothing is none of the data's -/
theorem Rd.more {O : List Addr} {h : Heap} {v : Value} {d : PyData} {b : Addr} (hb : h.get? b = .none) : Rd O h v d → Rd (b :: O) h v d
  | ⟨_, r, m⟩ => ⟨_, r, fun a ha q => (List.mem_cons.mp q).elim (fun e => by obtain ⟨o, ho⟩ := reads_live r a ha; rw [e, hb] at ho; cases ho) (m a ha)⟩
theorem RdAll.more {O : List Addr} {h : Heap} {v : List Value} {d : List PyData} {b : Addr} (hb : h.get? b = .none) : RdAll O h v d → RdAll (b :: O) h v d
  | ⟨_, r, m⟩ => ⟨_, r, fun a ha q => (List.mem_cons.mp q).elim (fun e => by obtain ⟨o, ho⟩ := readsAll_live r a ha; rw [e, hb] at ho; cases ho) (m a ha)⟩

/-- what is no record (no iterator, no exception) stays: so do the data -/
theorem Rd.moved {O : List Addr} {h h' : Heap} {v : Value} {d : PyData} (k : ∀ b o, h.get? b = some o → (∀ vs, o.data ≠ .fields vs) → h'.get? b = some o) : Rd O h v d → Rd O h' v d
  | ⟨_, r, m⟩ => ⟨_, reads_on r fun b o e q => ⟨o, k b o e (fun vs z => q.elim (fun q => by obtain ⟨o', e', n⟩ := reads_seq r b q; rw [e] at e'; cases e'; exact n vs z) fun ⟨_, _, _, q⟩ => by rw [q] at z; cases z), rfl, rfl⟩, m⟩
theorem RdAll.moved {O : List Addr} {h h' : Heap} {v : List Value} {d : List PyData} (k : ∀ b o, h.get? b = some o → (∀ vs, o.data ≠ .fields vs) → h'.get? b = some o) : RdAll O h v d → RdAll O h' v d
  | ⟨_, r, m⟩ => ⟨_, readsAll_on r fun b o e q => ⟨o, k b o e (fun vs z => q.elim (fun q => by obtain ⟨o', e', n⟩ := readsAll_seq r b q; rw [e] at e'; cases e'; exact n vs z) fun ⟨_, _, _, q⟩ => by rw [q] at z; cases z), rfl, rfl⟩, m⟩

/-- what may change under a call: nothing but the slots of the frames at hand -/
structure Ext (fs : List Addr) (h h' : Heap) : Prop where
  keep : ∀ b o, h.get? b = some o → b ∉ fs → h'.get? b = some o
  slot : ∀ b o, h.get? b = some o → b ∈ fs → ∃ sl, h'.get? b = some { o with slots := sl }

theorem Ext.of_stays {fs : List Addr} {h h' : Heap} (k : h.StaysIn h') : Ext fs h h' := ⟨fun b o e _ => k b o e, fun b o e _ => ⟨o.slots, k b o e⟩⟩
theorem Ext.refl (fs : List Addr) (h : Heap) : Ext fs h h := .of_stays fun _ _ e => e
theorem Ext.up {fs : List Addr} {h h' : Heap} (x : Ext fs h h') : ∀ b o, h.get? b = some o → ∃ sl, h'.get? b = some { o with slots := sl } := fun b o e => by
  by_cases m : b ∈ fs
  · exact x.slot b o e m
  · exact ⟨o.slots, x.keep b o e m⟩
theorem Ext.trans {fs : List Addr} {h h' h'' : Heap} (x : Ext fs h h') (y : Ext fs h' h'') : Ext fs h h'' :=
  ⟨fun b o e m => y.keep b o (x.keep b o e m) m, fun b o e m => let ⟨_, e'⟩ := x.slot b o e m; let ⟨sl, e''⟩ := y.slot b _ e' m; ⟨sl, e''⟩⟩
theorem Ext.sub {fs fs' : List Addr} {h h' : Heap} (x : Ext fs h h') (k : ∀ b ∈ fs, b ∈ fs') : Ext fs' h h' :=
  ⟨fun b o e m => x.keep b o e fun q => m (k b q), fun b o e _ => x.up b o e⟩
theorem Ext.push {fs : List Addr} {h h' : Heap} (x : Ext fs h h') (o : Obj) : Ext fs h (h'.push o) := x.trans (.of_stays fun _ _ e => Heap.get?_push_of_some o e)
theorem Ext.rd {fs O : List Addr} {h h' : Heap} (x : Ext fs h h') {v : Value} {d : PyData} : Rd O h v d → Rd O h' v d
  | ⟨_, r, m⟩ => ⟨_, reads_on r fun b o e _ => let ⟨_, e'⟩ := x.up b o e; ⟨_, e', rfl, rfl⟩, m⟩
theorem Ext.rdAll {fs O : List Addr} {h h' : Heap} (x : Ext fs h h') {v : List Value} {d : List PyData} : RdAll O h v d → RdAll O h' v d
  | ⟨_, r, m⟩ => ⟨_, readsAll_on r fun b o e _ => let ⟨_, e'⟩ := x.up b o e; ⟨_, e', rfl, rfl⟩, m⟩
theorem Ext.ns {fs : List Addr} {h h' : Heap} (x : Ext fs h h') {a : Addr} {m : Str → Option Value} : h.Ns a m → h'.Ns a m
  | ⟨_, es, ep, ho, hd, r⟩ => let ⟨_, e'⟩ := x.up _ _ ho; ⟨_, es, ep, e', hd, r⟩
theorem Ext.funFrames {fs : List Addr} {h h' base : Heap} (x : Ext fs h h') {l : List Env} (f : h.FunFrames base l) : h'.FunFrames base l :=
  f.of_keeps fun b o e _ => let ⟨_, e'⟩ := x.up b o e; ⟨_, e', rfl⟩
theorem Ext.live {fs : List Addr} {h h' : Heap} (x : Ext fs h h') {a : Addr} : (∃ o, h.get? a = some o) → ∃ o, h'.get? a = some o
  | ⟨o, e⟩ => let ⟨_, e'⟩ := x.up a o e; ⟨_, e'⟩

def frsOf (l : List Env) : List Addr := l.filterMap (·.frame)
theorem Ext.base {base h h' : Heap} {l : List Env} (x : Ext (frsOf l) h h') (b : base.StaysIn h) (f : h.FunFrames base l) : base.StaysIn h' := fun a o e =>
  x.keep a o (b a o e) fun m => by rw [(f.mem m).1] at e; cases e

/-- the static part -/
structure Cx where
  prog : Program
  w : World
  base : Heap
  mg : Str → Option Value
  mb : Str → Option Value
structure Cx.Ok (C : Cx) : Prop where
  g : C.base.Ns mainGlobals C.mg
  b : C.base.Ns builtinsNs C.mb
  nolimit : C.base.NoLimit
  nodigits : ∃ mc, C.base.Ns cStatics mc ∧ mc "sys.int_max_str_digits" = none

/-- room for n further frames -/
structure Room (A : Around) (n : Nat) : Prop where
  handled : A.handled = none
  depth : A.depth + n < 1000
  units : A.units + 20 * n + 200 < 9900
theorem Room.le {A : Around} {n m : Nat} (r : Room A n) (h : m ≤ n) : Room A m := ⟨r.handled, by have := r.depth; omega, by have := r.units; omega⟩
theorem Room.deeper {A : Around} {n : Nat} (r : Room A (n + 1)) (env : Env) : Room (A.deeper env) n := ⟨r.handled, by have := r.depth; show A.depth + 1 + n < _; omega, by have := r.units; show A.units + 3 + 20 * n + 200 < _; omega⟩
theorem Room.limit {A : Around} {n : Nat} (r : Room A n) : A.depth < recursionLimit := by have := r.depth; show A.depth < 1000; omega
theorem Room.line {A : Around} {n : Nat} (r : Room A n) : A.units + 64 < cLine := by have := r.units; show A.units + 64 < 9900; omega
theorem Room.in1 {A : Around} {n : Nat} (r : Room A n) : A.units < cLine := by have := r.units; show A.units < 9900; omega

/-- the frames at hand -/
structure Stk (C : Cx) (A : Around) (l : List Env) (h : Heap) : Prop where
  frames : A.frames = some l
  base : C.base.StaysIn h
  fun_ : h.FunFrames C.base l
  dicts : ∀ b ∈ frsOf l, ∃ o es n, h.get? b = some o ∧ o.data = .dict es n
theorem Stk.ext {C : Cx} {A : Around} {l : List Env} {h h' : Heap} (S : Stk C A l h) (x : Ext (frsOf l) h h') : Stk C A l h' := ⟨S.frames, x.base S.base S.fun_, x.funFrames S.fun_, fun b m => by
  obtain ⟨o, es, n, ho, hd⟩ := S.dicts b m
  obtain ⟨_, e⟩ := x.up b o ho
  exact ⟨_, es, n, e, hd⟩⟩
theorem Stk.off {C : Cx} {A : Around} {l : List Env} {h : Heap} (S : Stk C A l h) {b : Addr} {o : Obj} (e : h.get? b = some o) (hd : ∀ es n, o.data ≠ .dict es n) : b ∉ frsOf l := fun m => by
  obtain ⟨o', es, n, ho, hd'⟩ := S.dicts b m
  rw [e] at ho; cases ho
  exact hd es n hd'
theorem Stk.stays {C : Cx} {A : Around} {l : List Env} {h h' : Heap} (S : Stk C A l h) (x : h.StaysIn h') : Stk C A l h' := S.ext (.of_stays x)
def Live (O : List Addr) (h : Heap) : Prop := ∀ a ∈ O, ∃ o, h.get? a = some o
theorem Live.ext {fs O : List Addr} {h h' : Heap} (k : Live O h) (x : Ext fs h h') : Live O h' := fun a m => x.live (k a m)
theorem Live.fresh {O : List Addr} {h : Heap} (k : Live O h) : h.objs.size ∉ O := fun m => by
  obtain ⟨o, e⟩ := k _ m
  exact absurd (Heap.lt_size e) (Nat.lt_irrefl _)
end Mine

set_option maxRecDepth 100000
set_option autoImplicit false
namespace Mine
open PySem PySem.Calls PyProof.Rows

abbrev Sg := List (Str × PyData)
abbrev Ow := Option (Str × List PyData)
/-- where a frame stands -/
structure Pt where
  nm : Str
  a : Addr
  cd : Value
  L : Addr
  A : Around
  outer : List Env
  O : List Addr
  oa : Option Addr
abbrev Pt.env (P : Pt) (sc : Scope) : Env := envOfC P.nm sc P.L P.a P.cd
abbrev Pt.l (P : Pt) (sc : Scope) : List Env := P.env sc :: P.outer
abbrev Pt.fs (P : Pt) : List Addr := P.L :: frsOf P.outer
abbrev Pt.OO (P : Pt) : List Addr := P.oa.toList ++ P.L :: P.O
theorem Pt.frs (P : Pt) (sc : Scope) : frsOf (P.l sc) = P.fs := rfl

/-- the names of a frame: its own, and those in cells -/
def Nv (sc : Scope) (h : Heap) (L : Addr) (m : Str → Option Value) : Prop := ∃ o es ep, h.get? L = some o ∧ o.data = .dict es ep ∧
  ∃ ml cm, h.Ns L ml ∧ Cl L (cellsFrom (L + 1) sc.names []) h cm ∧ ∀ x, m x = if sc.names.lookup x = some .cell then cm x else ml x
theorem Nv.data {sc : Scope} {h h' : Heap} {L : Addr} {m : Str → Option Value} (k : ∀ b o, h.get? b = some o → (∀ vs, o.data ≠ .fields vs) → ∃ o', h'.get? b = some o' ∧ o'.data = o.data) : Nv sc h L m → Nv sc h' L m
  | ⟨o, es, ep, e, hd, ml, cm, ⟨o₂, es₂, ep₂, e₂, hd₂, r⟩, X, q⟩ => by
    obtain ⟨o', e', d'⟩ := k L o e (fun vs z => by rw [hd] at z; cases z)
    obtain ⟨o₃, e₃, d₃⟩ := k L o₂ e₂ (fun vs z => by rw [hd₂] at z; cases z)
    refine ⟨o', es, ep, e', d'.trans hd, ml, cm, ⟨o₃, es₂, ep₂, e₃, d₃.trans hd₂, r⟩, ⟨fun n c z => ?_, X.apart, X.above⟩, q⟩
    obtain ⟨p, f, g⟩ := X.cell n c z
    obtain ⟨p', f', g'⟩ := k c p f (fun vs z => by rw [g] at z; cases z)
    exact ⟨p', f', g'.trans g⟩
theorem Ext.nv {fs : List Addr} {h h' : Heap} (x : Ext fs h h') {sc : Scope} {a : Addr} {m : Str → Option Value} (n : Nv sc h a m) : Nv sc h' a m := n.data fun b o e _ => let ⟨_, q⟩ := x.up b o e; ⟨_, q, rfl⟩
theorem Nv.other {sc : Scope} {h h' : Heap} {L b : Addr} {o : Obj} {vs : Array Value} {k : Nat} {m : Str → Option Value} (hs : Heap.SameBut b h h') (hb : h.get? b = some o) (hd : o.data = .seq vs k) : Nv sc h L m → Nv sc h' L m
  | ⟨o₁, es, ep, e, hd₁, ml, cm, ns, X, q⟩ => by
    have hL : L ≠ b := fun z => by rw [z, hb] at e; cases e; rw [hd] at hd₁; cases hd₁
    refine ⟨o₁, es, ep, (hs.2 L hL).trans e, hd₁, ml, cm, ns.sameBut hs hL, ⟨fun n c z => (X.cell n c z).sameBut hs fun y => ?_, X.apart, X.above⟩, q⟩
    obtain ⟨p, f, g⟩ := X.cell n c z
    rw [y, hb] at f; cases f; rw [hd] at g; cases g
theorem load_nv {M : Model} {A : Around} {E : Value → Shared → Prop} {s : Shared} {P : Pt} {sc : Scope} {x : Str} {v : Value} {m : Str → Option Value} {Q : Value → Shared → Prop} (hk : sc.kind = .function) (hl : sc.names.lookup x = some .local) (hn : Nv sc s.heap P.L m) (e : m x = some v) (h : Q v s) :
    wpAny M A (loadName (P.env sc) x) Q E s := by
  obtain ⟨_, _, _, _, _, ml, cm, ns, X, q⟩ := hn
  refine wpAny_loadName_local (env := P.env sc) hk hl ns ?_ h
  rw [← e, q x, hl]; rfl
theorem load_cell {M : Model} {A : Around} {E : Value → Shared → Prop} {s : Shared} {P : Pt} {sc : Scope} {x : Str} {v : Value} {m : Str → Option Value} {Q : Value → Shared → Prop} (hk : sc.kind = .function) (hl : sc.names.lookup x = some .cell) (hc : ((cellsFrom (P.L + 1) sc.names []).lookup x).isSome = true) (hn : Nv sc s.heap P.L m) (e : m x = some v) (h : Q v s) :
    wpAny M A (loadName (P.env sc) x) Q E s := by
  obtain ⟨_, _, _, _, _, ml, cm, ns, X, q⟩ := hn
  obtain ⟨c, hc⟩ := Option.isSome_iff_exists.mp hc
  have : cm x = some v := by rw [← e, q x, hl]; rfl
  exact wpAny_loadName_cell (env := P.env sc) hk hl hc (this ▸ X.cell x c hc) h
theorem store_nv {M : Model} {A : Around} {E : Value → Shared → Prop} {s : Shared} {P : Pt} {sc : Scope} {x : Str} {v : Value} {m : Str → Option Value} {Q : Unit → Shared → Prop} (hl : sc.names.lookup x = some .local) (hn : Nv sc s.heap P.L m)
    (h : ∀ h', Nv sc h' P.L (fun y => if y = x then some v else m y) → Heap.SameBut P.L s.heap h' → Q () { s with heap := h', toks := s.toks + 1 }) (hk : ((P.env sc).scope.kind == .class || ((P.env sc).scope.kind == .module && (P.env sc).locals != (P.env sc).globals)) = false) :
    wpAny M A (storeName (P.env sc) x v) Q E s := by
  obtain ⟨_, _, _, _, _, ml, cm, ns, X, q⟩ := hn
  refine wpAny_storeName_local (env := P.env sc) hl ns (fun h' hn' hs => h h' ?_ hs) hk
  have hn'' := hn'
  obtain ⟨o, es, ep, e, hd, _⟩ := hn''
  refine ⟨o, es, ep, e, hd, _, cm, hn', X.sameBut hs (Nat.le_refl _), fun y => ?_⟩
  by_cases z : y = x
  · subst z; simp [hl]
  · simp only [z, if_false]; exact q y
def Vars (P : Pt) (h : Heap) (σ : Sg) (m : Str → Option Value) : Prop := ∀ x d, σ.lookup x = some d → ∃ v, m x = some v ∧ Rd P.OO h v d
def Owned (P : Pt) (h : Heap) (m : Str → Option Value) : Ow → Prop
  | none => P.oa = none
  | some (x, xs) => ∃ b vs n, P.oa = some b ∧ m x = some (.ref b) ∧ h.get? b = some { cls := .type "list", data := .seq vs n } ∧ RdAll P.OO h vs.toList xs
structure FS (C : Cx) (sc : Scope) (P : Pt) (h : Heap) (σ : Sg) (ow : Ow) : Prop where
  stk : Stk C P.A (P.l sc) h
  live : Live P.O h
  own : ∀ b, P.oa = some b → C.base.get? b = none ∧ b ∉ P.O
  vars : ∃ m, Nv sc h P.L m ∧ Vars P h σ m ∧ Owned P h m ow

theorem FS.ext {C : Cx} {sc : Scope} {P : Pt} {h h' : Heap} {σ : Sg} {ow : Ow} (F : FS C sc P h σ ow) (x : Ext P.fs h h') (hk : ∀ b, P.oa = some b → b ∉ P.fs) : FS C sc P h' σ ow := by
  obtain ⟨S, l, ob, m, hn, hv, ho⟩ := F
  refine ⟨S.ext x, l.ext x, ob, m, x.nv hn, fun y d e => ?_, ?_⟩
  · obtain ⟨v, e', r⟩ := hv y d e
    exact ⟨v, e', x.rd r⟩
  · cases ow with
    | none => exact ho
    | some p =>
      obtain ⟨b, vs, n, h1, h2, h3, h4⟩ := ho
      exact ⟨b, vs, n, h1, h2, x.keep _ _ h3 (hk b h1), x.rdAll h4⟩
theorem FS.own_off {C : Cx} {sc : Scope} {P : Pt} {h : Heap} {σ : Sg} {ow : Ow} (F : FS C sc P h σ ow) : ∀ b, P.oa = some b → b ∉ P.fs ∧ ∃ vs n, h.get? b = some { cls := .type "list", data := .seq vs n } := by
  obtain ⟨S, _, _, m, hn, _, ho⟩ := F
  intro b e
  cases ow with
  | none => have : P.oa = none := ho; rw [this] at e; cases e
  | some p =>
    obtain ⟨b', vs, n, h1, _, h3, _⟩ := ho
    rw [h1] at e; cases e
    exact ⟨S.off h3 (fun _ _ q => by cases q), vs, n, h3⟩
theorem FS.ext' {C : Cx} {sc : Scope} {P : Pt} {h h' : Heap} {σ : Sg} {ow : Ow} (F : FS C sc P h σ ow) (x : Ext P.fs h h') : FS C sc P h' σ ow := F.ext x fun b e => (F.own_off b e).1
theorem FS.less {C : Cx} {sc : Scope} {P : Pt} {h : Heap} {σ σ' : Sg} {ow : Ow} (F : FS C sc P h σ ow) (k : ∀ x d, σ'.lookup x = some d → σ.lookup x = some d) : FS C sc P h σ' ow := by
  obtain ⟨S, l, ob, m, hn, hv, ho⟩ := F
  exact ⟨S, l, ob, m, hn, fun x d e => hv x d (k x d e), ho⟩

section
variable (C : Cx) (lv : Nat) (sc : Scope)
/-- in every frame that holds σ, the expression yields d -/
def Ev (e : Expr) (σ : Sg) (ow : Ow) (d : PyData) : Prop :=
  ∀ (P : Pt) (s : Shared) (Q E : Value → Shared → Prop), Room P.A lv → FS C sc P s.heap σ ow →
    (∀ v h' tk, Ext P.fs s.heap h' → Rd P.OO h' v d → Q v { s with heap := h', toks := tk }) →
    wpAny (model C.prog C.w) P.A (eval e (P.env sc)) Q E s
def EvAll (es : List Expr) (σ : Sg) (ow : Ow) (ds : List PyData) : Prop :=
  ∀ (P : Pt) (s : Shared) (pos : Pos) (Q : List Value → Shared → Prop) (E : Value → Shared → Prop), Room P.A lv → FS C sc P s.heap σ ow →
    (∀ vs h' tk, Ext P.fs s.heap h' → RdAll P.OO h' vs ds → Q vs { s with heap := h', toks := tk }) →
    wpAny (model C.prog C.w) P.A (spliced (backTo pos (starEach es (P.env sc)))) Q E s
def Tst (e : Expr) (σ : Sg) (ow : Ow) (b : Bool) : Prop :=
  ∀ (P : Pt) (s : Shared) (Q : Bool → Shared → Prop) (E : Value → Shared → Prop), Room P.A lv → FS C sc P s.heap σ ow →
    (∀ h' tk, Ext P.fs s.heap h' → Q b { s with heap := h', toks := tk }) →
    wpAny (model C.prog C.w) P.A (isTrue e (P.env sc) (eval e (P.env sc))) Q E s
end

/-- what an operation yields of data -/
def Bin (C : Cx) (op : Operator) (d e r : PyData) : Prop :=
  ∀ (A : Around) (O : List Addr) (s : Shared) (v u : Value) (Q E : Value → Shared → Prop), Room A 0 → Live O s.heap → C.base.StaysIn s.heap → Rd O s.heap v d → Rd O s.heap u e →
    (∀ x h' tk, s.heap.StaysIn h' → Rd O h' x r → Q x { s with heap := h', toks := tk }) → wpAny (model C.prog C.w) A (binaryOp op v u) Q E s
def Aug (C : Cx) (op : Operator) (d e r : PyData) : Prop :=
  ∀ (A : Around) (O : List Addr) (s : Shared) (v u : Value) (Q E : Value → Shared → Prop), Room A 0 → Live O s.heap → C.base.StaysIn s.heap → Rd O s.heap v d → Rd O s.heap u e →
    (∀ x h' tk, s.heap.StaysIn h' → Rd O h' x r → Q x { s with heap := h', toks := tk }) → wpAny (model C.prog C.w) A (inplaceOp op v u) Q E s
def Cmp (C : Cx) (op : CmpOp) (d e : PyData) (b : Bool) : Prop :=
  ∀ (A : Around) (O : List Addr) (s : Shared) (v u : Value) (Q E : Value → Shared → Prop), Room A 0 → Live O s.heap → C.base.StaysIn s.heap → Rd O s.heap v d → Rd O s.heap u e →
    (∀ h' tk, s.heap.StaysIn h' → Q (.bool b) { s with heap := h', toks := tk }) → wpAny (model C.prog C.w) A (compareOp op v u) Q E s
def Una (C : Cx) (op : UnaryOp) (d r : PyData) : Prop :=
  ∀ (A : Around) (O : List Addr) (s : Shared) (v : Value) (Q E : Value → Shared → Prop), Room A 0 → Live O s.heap → C.base.StaysIn s.heap → Rd O s.heap v d →
    (∀ x h' tk, s.heap.StaysIn h' → Rd O h' x r → Q x { s with heap := h', toks := tk }) → wpAny (model C.prog C.w) A (unaryOp op v) Q E s
def Tru (C : Cx) (d : PyData) (b : Bool) : Prop :=
  ∀ (A : Around) (O : List Addr) (s : Shared) (v : Value) (Q : Bool → Shared → Prop) (E : Value → Shared → Prop), Room A 0 → Live O s.heap → C.base.StaysIn s.heap → Rd O s.heap v d →
    (∀ h' tk, s.heap.StaysIn h' → Q b { s with heap := h', toks := tk }) → wpAny (model C.prog C.w) A (truthy v) Q E s
/-- a built-in function called upon data -/
def Blt (C : Cx) (id : Value) (ds : List PyData) (r : PyData) : Prop :=
  ∀ (A : Around) (O : List Addr) (s : Shared) (vs : List Value) (Q E : Value → Shared → Prop), Room A 0 → Live O s.heap → C.base.StaysIn s.heap → RdAll O s.heap vs ds →
    (∀ x h' tk, s.heap.StaysIn h' → Rd O h' x r → Q x { s with heap := h', toks := tk }) → wpAny (model C.prog C.w) A (call id vs) Q E s
/-- a function of the text called upon data -/
def Gives (C : Cx) (lv : Nat) (n : Str) (ds : List PyData) (r : PyData) : Prop :=
  ∃ a o fd, C.mg n = some (.ref a) ∧ C.base.get? a = some o ∧ o.data = .func fd ∧
    ∀ (A : Around) (l : List Env) (O : List Addr) (s : Shared) (vs : List Value) (Q E : Value → Shared → Prop), Room A lv → Stk C A l s.heap → Live O s.heap → RdAll O s.heap vs ds →
      (∀ x h' tk, Ext (frsOf l) s.heap h' → Rd O h' x r → Q x { s with heap := h', toks := tk }) → wpAny (model C.prog C.w) A (call (.ref a) vs) Q E s
/-- a name of the module -/
def Glo (C : Cx) (x : Str) (d : PyData) : Prop := ∃ v, C.mg x = some v ∧ ∀ (h : Heap) (O : List Addr), C.base.StaysIn h → Rd O h v d

section
variable {C : Cx} {lv : Nat} {sc : Scope} {σ : Sg} {ow : Ow}
theorem liveOO {P : Pt} {h : Heap} (F : FS C sc P h σ ow) : Live P.OO h := fun a m => by
  rcases List.mem_append.mp m with q | q
  · obtain ⟨_, vs, n, e⟩ := F.own_off a (by simpa using q)
    exact ⟨_, e⟩
  · rcases List.mem_cons.mp q with rfl | q
    · obtain ⟨_, _, _, m, ⟨o, _, _, e, _⟩, _⟩ := F
      exact ⟨o, e⟩
    · exact F.live a q
theorem Room.zero {A : Around} {n : Nat} (r : Room A n) : Room A 0 := r.le (Nat.zero_le _)

theorem Ev.name {x : Str} {pos : Pos} {d : PyData} (hσ : σ.lookup x = some d) (hl : sc.names.lookup x = some .local) (hk : sc.kind = .function) (hd : (x == ("__debug__" : Str)) = false) : Ev C lv sc (.Name x pos) σ ow d := by
  intro P s Q E _ F k
  obtain ⟨S, l, _, m, hn, hv, _⟩ := F
  obtain ⟨v, e, r⟩ := hv x d hσ
  exact wpAny_Name (load_nv hk hl hn e (k v s.heap s.toks (Ext.refl _ _) r)) hd
theorem Ev.cellName {x : Str} {pos : Pos} {d : PyData} (hσ : σ.lookup x = some d) (hl : sc.names.lookup x = some .cell) (hc : ∀ n, ((cellsFrom n sc.names []).lookup x).isSome = true) (hk : sc.kind = .function) (hd : (x == ("__debug__" : Str)) = false) : Ev C lv sc (.Name x pos) σ ow d := by
  intro P s Q E _ F k
  obtain ⟨S, l, _, m, hn, hv, _⟩ := F
  obtain ⟨v, e, r⟩ := hv x d hσ
  exact wpAny_Name (load_cell hk hl (hc _) hn e (k v s.heap s.toks (Ext.refl _ _) r)) hd
theorem glob_at {P : Pt} {x : Str} {pos : Pos} {v : Value} {s : Shared} {Q E : Value → Shared → Prop} (ok : C.Ok) (F : FS C sc P s.heap σ ow) (hg : C.mg x = some v) (hl : sc.names.lookup x = some .globalImplicit) (hk : sc.kind = .function) (hd : (x == ("__debug__" : Str)) = false)
    (k : Q v s) : wpAny (model C.prog C.w) P.A (eval (.Name x pos) (P.env sc)) Q E s :=
  Name_function_global hk hl (loadGlobal_global (mg := C.mg) ((Ext.of_stays (fs := []) F.stk.base).ns ok.g) hg k) hd
theorem built_at {P : Pt} {x : Str} {pos : Pos} {v : Value} {s : Shared} {Q E : Value → Shared → Prop} (ok : C.Ok) (F : FS C sc P s.heap σ ow) (hg : C.mg x = none) (hb : C.mb x = some v) (hl : sc.names.lookup x = some .globalImplicit) (hk : sc.kind = .function) (hd : (x == ("__debug__" : Str)) = false)
    (k : Q v s) : wpAny (model C.prog C.w) P.A (eval (.Name x pos) (P.env sc)) Q E s :=
  Name_function_global hk hl (loadGlobal_builtin (mg := C.mg) (mb := C.mb) ((Ext.of_stays (fs := []) F.stk.base).ns ok.g) hg ((Ext.of_stays (fs := []) F.stk.base).ns ok.b) hb k) hd
theorem Ev.glob {x : Str} {pos : Pos} {d : PyData} (ok : C.Ok) (hg : Glo C x d) (hl : sc.names.lookup x = some .globalImplicit) (hk : sc.kind = .function) (hd : (x == ("__debug__" : Str)) = false) : Ev C lv sc (.Name x pos) σ ow d := by
  intro P s Q E _ F k
  obtain ⟨v, e, r⟩ := hg
  exact glob_at ok F e hl hk hd (k v s.heap s.toks (Ext.refl _ _) (r _ _ F.stk.base))
theorem Ev.int {i : Int} {k : Nat} {pos : Pos} : Ev C lv sc (.Constant (.int i) k pos) σ ow (.int i) := fun _ _ _ _ _ _ k => wpAny_Constant_int (k _ _ _ (Ext.refl _ _) (.int _ _))
theorem Ev.str {x : Str} {k : Nat} {pos : Pos} : Ev C lv sc (.Constant (.str x) k pos) σ ow (.str x) := fun _ _ _ _ _ _ k => wpAny_Constant_str (k _ _ _ (Ext.refl _ _) (.str _ _))
theorem Ev.bool {b : Bool} {k : Nat} {pos : Pos} : Ev C lv sc (.Constant (.bool b) k pos) σ ow (.bool b) := fun _ s _ _ _ _ k => wpAny_Constant_bool (k _ s.heap s.toks (Ext.refl _ _) (.bool _))
theorem Ev.non {k : Nat} {pos : Pos} : Ev C lv sc (.Constant .none k pos) σ ow .none := fun _ s _ _ _ _ k => wpAny_Constant_none (k _ s.heap s.toks (Ext.refl _ _) .none)

theorem Ev.bin {l r : Expr} {op : Operator} {pos : Pos} {d e x : PyData} (hl : Ev C lv sc l σ ow d) (hr : Ev C lv sc r σ ow e) (hb : Bin C op d e x) : Ev C lv sc (.BinOp l op r pos) σ ow x := by
  intro P s Q E R F k
  refine wpAny_BinOp (hl P s _ _ R F fun v h₁ t₁ x₁ r₁ => ?_)
  have F₁ := F.ext' x₁
  refine hr P _ _ _ R F₁ fun u h₂ t₂ x₂ r₂ => ?_
  have F₂ := F₁.ext' x₂
  exact hb P.A P.OO _ v u _ _ R.zero (liveOO F₂) F₂.stk.base (x₂.rd r₁) r₂ fun y h₃ t₃ x₃ r₃ => k y h₃ t₃ ((x₁.trans x₂).trans (.of_stays x₃)) r₃
theorem Ev.una {e : Expr} {op : UnaryOp} {pos : Pos} {d x : PyData} (hl : Ev C lv sc e σ ow d) (hb : Una C op d x) : Ev C lv sc (.UnaryOp op e pos) σ ow x := by
  intro P s Q E R F k
  refine wpAny_UnaryOp (hl P s _ _ R F fun v h₁ t₁ x₁ r₁ => ?_)
  have F₁ := F.ext' x₁
  exact hb P.A P.OO _ v _ _ R.zero (liveOO F₁) F₁.stk.base r₁ fun y h₃ t₃ x₃ r₃ => k y h₃ t₃ (x₁.trans (.of_stays x₃)) r₃
theorem Ev.cmp {l r : Expr} {op : CmpOp} {pos : Pos} {d e : PyData} {b : Bool} (hl : Ev C lv sc l σ ow d) (hr : Ev C lv sc r σ ow e) (hb : Cmp C op d e b) (hm : behindInMarks op r = false := by with_unfolding_all rfl) : Ev C lv sc (.Compare l [op] [r] pos) σ ow (.bool b) := by
  intro P s Q E R F k
  refine wpAny_Compare1 (hl P s _ _ R F fun v h₁ t₁ x₁ r₁ => ?_) hm
  have F₁ := F.ext' x₁
  refine hr P _ _ _ R F₁ fun u h₂ t₂ x₂ r₂ => ?_
  have F₂ := F₁.ext' x₂
  exact hb P.A P.OO _ v u _ _ R.zero (liveOO F₂) F₂.stk.base (x₂.rd r₁) r₂ fun h₃ t₃ x₃ => k _ h₃ t₃ ((x₁.trans x₂).trans (.of_stays x₃)) (.bool b)
theorem Tst.cmp {l r : Expr} {op : CmpOp} {pos : Pos} {d e : PyData} {b : Bool} (hl : Ev C lv sc l σ ow d) (hr : Ev C lv sc r σ ow e) (hb : Cmp C op d e b) (hm : behindInMarks op r = false := by with_unfolding_all rfl) : Tst C lv sc (.Compare l [op] [r] pos) σ ow b := by
  intro P s Q E R F k
  refine wpAny_isTrue_Compare1 (hl P s _ _ R F fun v h₁ t₁ x₁ r₁ => ?_) hm
  have F₁ := F.ext' x₁
  refine hr P _ _ _ R F₁ fun u h₂ t₂ x₂ r₂ => ?_
  have F₂ := F₁.ext' x₂
  exact hb P.A P.OO _ v u _ _ R.zero (liveOO F₂) F₂.stk.base (x₂.rd r₁) r₂ fun h₃ t₃ x₃ => wpAny_truthy_bool (k h₃ t₃ ((x₁.trans x₂).trans (.of_stays x₃)))
theorem Tst.not {e : Expr} {pos : Pos} {b : Bool} (h : Tst C lv sc e σ ow b) : Tst C lv sc (.UnaryOp .Not e pos) σ ow (!b) := by
  intro P s Q E R F k
  exact wpAny_isTrue_Not (h P s _ _ R F fun h₁ t₁ x₁ => k h₁ t₁ x₁)
theorem Tst.val {e : Expr} {d : PyData} {b : Bool} (h : Ev C lv sc e σ ow d) (ht : Tru C d b) (he : ∀ env whole, isTrue e env whole = (do let v ← whole; standAt e.pos; holding [v] (truthy v)) := by intro _ _; with_unfolding_all rfl) : Tst C lv sc e σ ow b := by
  intro P s Q E R F k
  refine wpAny_isTrue_value (h P s _ _ R F fun v h₁ t₁ x₁ r₁ => ?_) (he _ _)
  have F₁ := F.ext' x₁
  exact ht P.A P.OO _ v _ _ R.zero (liveOO F₁) F₁.stk.base r₁ fun h₃ t₃ x₃ => k h₃ t₃ (x₁.trans (.of_stays x₃))
theorem Tst.and {x y : Expr} {pos : Pos} {a b : Bool} (h : Tst C lv sc x σ ow a) (h' : a = true → Tst C lv sc y σ ow b) (hab : a = false → b = false) : Tst C lv sc (.BoolOp .And [x, y] pos) σ ow b := by
  intro P s Q E R F k
  refine wpAny_isTrue_BoolOp (wpAny_allTrue_And_cons (h P s _ _ R F fun h₁ t₁ x₁ => ?_))
  cases a with
  | false => rw [hab rfl] at k; exact k _ _ x₁
  | true =>
    refine wpAny_allTrue_And_cons (h' rfl P _ _ _ R (F.ext' x₁) fun h₂ t₂ x₂ => ?_)
    cases b with
    | false => exact k _ _ (x₁.trans x₂)
    | true => exact wpAny_allTrue_And_nil (k _ _ (x₁.trans x₂))
theorem Tst.or {x y : Expr} {pos : Pos} {a b : Bool} (h : Tst C lv sc x σ ow a) (h' : a = false → Tst C lv sc y σ ow b) (hab : a = true → b = true) : Tst C lv sc (.BoolOp .Or [x, y] pos) σ ow b := by
  intro P s Q E R F k
  refine wpAny_isTrue_BoolOp (wpAny_allTrue_Or_cons (h P s _ _ R F fun h₁ t₁ x₁ => ?_))
  cases a with
  | true => rw [hab rfl] at k; exact k _ _ x₁
  | false =>
    refine wpAny_allTrue_Or_cons (h' rfl P _ _ _ R (F.ext' x₁) fun h₂ t₂ x₂ => ?_)
    cases b with
    | true => exact k _ _ (x₁.trans x₂)
    | false => exact wpAny_allTrue_Or_nil (k _ _ (x₁.trans x₂))
theorem Ev.ite {t x y : Expr} {pos : Pos} {b : Bool} {d : PyData} (h : Tst C lv sc t σ ow b) (hx : b = true → Ev C lv sc x σ ow d) (hy : b = false → Ev C lv sc y σ ow d) : Ev C lv sc (.IfExp t x y pos) σ ow d := by
  intro P s Q E R F k
  refine wpAny_IfExp (h P s _ _ R F fun h₁ t₁ x₁ => ?_)
  cases b with
  | true => exact hx rfl P _ _ _ R (F.ext' x₁) fun v h₂ t₂ x₂ r₂ => k v h₂ t₂ (x₁.trans x₂) r₂
  | false => exact hy rfl P _ _ _ R (F.ext' x₁) fun v h₂ t₂ x₂ r₂ => k v h₂ t₂ (x₁.trans x₂) r₂

theorem EvAll.nil : EvAll C lv sc [] σ ow [] := fun _ s _ _ _ _ _ k => wpAny_items_nil (k _ s.heap s.toks (Ext.refl _ _) .nil)
theorem EvAll.cons {e : Expr} {es : List Expr} {d : PyData} {ds : List PyData} (h : Ev C lv sc e σ ow d) (h' : EvAll C lv sc es σ ow ds) (he : ∀ env, starEach (e :: es) env = (false, eval e env) :: starEach es env := by intro _; with_unfolding_all rfl) : EvAll C lv sc (e :: es) σ ow (d :: ds) := by
  intro P s pos Q E R F k
  refine wpAny_items_cons (h P s _ _ R F fun v h₁ t₁ x₁ r₁ => ?_) (he _)
  exact h' P _ _ _ _ R (F.ext' x₁) fun vs h₂ t₂ x₂ r₂ => k _ h₂ t₂ (x₁.trans x₂) (.cons (x₂.rd r₁) r₂)
theorem Ev.tuple {es : List Expr} {k : Nat} {pos : Pos} {ds : List PyData} (h : EvAll C lv sc es σ ow ds) (hs : ds.length ≤ sizeLine := by decide) : Ev C lv sc (.Tuple es k pos) σ ow (.tuple ds) := by
  intro P s Q E R F k
  refine wpAny_Tuple (h P s _ _ _ R F fun vs h₁ t₁ x₁ r₁ => ⟨by rw [r₁.length]; exact hs, ?_⟩)
  refine k _ _ t₁ (x₁.push _) (Rd.tuple (Heap.get?_push_size _ rfl) rfl rfl ?_)
  exact (Ext.refl P.fs _).push _ |>.rdAll (by simpa using r₁)
theorem Ev.list {es : List Expr} {pos : Pos} {ds : List PyData} (h : EvAll C lv sc es σ ow ds) (hs : ds.length ≤ sizeLine := by decide) : Ev C lv sc (.List es pos) σ ow (.list ds) := by
  intro P s Q E R F k
  refine wpAny_List (h P s _ _ _ R F fun vs h₁ t₁ x₁ r₁ => ⟨by rw [r₁.length]; exact hs, ?_⟩)
  refine k _ _ t₁ (x₁.push _) (Rd.list (Heap.get?_push_size _ rfl) rfl rfl (liveOO (F.ext' x₁)).fresh ?_)
  exact (Ext.refl P.fs _).push _ |>.rdAll (by simpa using r₁)
end
end Mine

set_option maxRecDepth 100000
set_option autoImplicit false
namespace Mine
open PySem PySem.Calls PyProof.Rows

section
variable {C : Cx} {lv : Nat} {sc : Scope} {σ : Sg} {ow : Ow}
theorem evalArgs_cons {M : Model} {A : Around} {E : Value → Shared → Prop} {s : Shared} {f : Value} {pos : Pos} {e : Expr} {es : List Expr} {env : Env} {Q : Args → Shared → Prop} (he : starEach (e :: es) env = (false, eval e env) :: starEach es env)
    (h : wpAny M A (spliced (backTo pos (starEach (e :: es) env))) (fun vs s' => Q ⟨vs, []⟩ s') E s) : wpAny M A (evalArgs f true (backTo pos (starEach (e :: es) env)) []) Q E s := by
  rw [he] at h ⊢
  exact evalArgs_plain h
theorem Ev.call {x : Str} {p pos : Pos} {e : Expr} {es : List Expr} {ds : List PyData} {r : PyData} {k : Nat} (ok : C.Ok) (hf : Gives C k x ds r) (ha : EvAll C lv sc (e :: es) σ ow ds) (hk : k ≤ lv) (hl : sc.names.lookup x = some .globalImplicit) (hs : sc.kind = .function) (hd : (x == ("__debug__" : Str)) = false)
    (he : ∀ env, starEach (e :: es) env = (false, eval e env) :: starEach es env := by intro _; with_unfolding_all rfl) : Ev C lv sc (.Call (.Name x p) (e :: es) [] pos) σ ow r := by
  intro P s Q E R F K
  obtain ⟨a, o, fd, hg, ho, hdat, hcall⟩ := hf
  show wpAny _ _ (do callWith pos (← eval (.Name x p) (P.env sc)) [] (backTo pos (starEach (e :: es) (P.env sc))) (backToKw pos (keywordEach [] (P.env sc)))) Q E s
  refine wpAny_bind (glob_at ok F hg hl hs hd ?_)
  refine callWith_function (o := o) (fd := fd) (evalArgs_cons (he _) (ha P s pos _ _ R F fun vs h₁ t₁ x₁ r₁ => ?_))
  have F₁ := F.ext' x₁
  refine ⟨⟨F₁.stk.base _ _ ho, hdat⟩, ?_⟩
  exact hcall P.A (P.l sc) P.OO _ _ _ _ (R.le hk) F₁.stk (liveOO F₁) r₁ fun y h₃ t₃ x₃ r₃ => K y h₃ t₃ (x₁.trans x₃) r₃
theorem Ev.blt {x : Str} {p pos : Pos} {e : Expr} {es : List Expr} {ds : List PyData} {r : PyData} {id : String} (ok : C.Ok) (hg : C.mg x = .none) (hb : C.mb x = some (.builtin id)) (hf : Blt C (.builtin id) ds r) (ha : EvAll C lv sc (e :: es) σ ow ds) (hl : sc.names.lookup x = some .globalImplicit) (hs : sc.kind = .function) (hd : (x == ("__debug__" : Str)) = false)
    (he : ∀ env, starEach (e :: es) env = (false, eval e env) :: starEach es env := by intro _; with_unfolding_all rfl) (hp : ∀ env, (backTo pos (starEach (e :: es) env)).any (·.1) = false := by intro _; with_unfolding_all rfl) : Ev C lv sc (.Call (.Name x p) (e :: es) [] pos) σ ow r := by
  intro P s Q E R F K
  show wpAny _ _ (do callWith pos (← eval (.Name x p) (P.env sc)) [] (backTo pos (starEach (e :: es) (P.env sc))) (backToKw pos (keywordEach [] (P.env sc)))) Q E s
  refine wpAny_bind (built_at ok F hg hb hl hs hd ?_)
  refine callWith_builtin (hp _) (evalArgs_cons (he _) (ha P s pos _ _ R F fun vs h₁ t₁ x₁ r₁ => ?_))
  have F₁ := F.ext' x₁
  exact hf P.A P.OO _ _ _ _ R.zero (liveOO F₁) F₁.stk.base r₁ fun y h₃ t₃ x₃ r₃ => K y h₃ t₃ (x₁.trans (.of_stays x₃)) r₃

/-- what a statement may change -/
structure Chg (P : Pt) (h h' : Heap) : Prop where
  keep : ∀ b o, h.get? b = some o → b ∉ P.fs → P.oa ≠ some b → h'.get? b = some o
  slot : ∀ b o, h.get? b = some o → b ≠ P.L → P.oa ≠ some b → ∃ sl, h'.get? b = some { o with slots := sl }
  live : ∀ b o, h.get? b = some o → ∃ o', h'.get? b = some o'
theorem Chg.of_ext {P : Pt} {h h' : Heap} (x : Ext P.fs h h') : Chg P h h' := ⟨fun b o e m _ => x.keep b o e m, fun b o e _ _ => x.up b o e, fun b o e => let ⟨_, q⟩ := x.up b o e; ⟨_, q⟩⟩
theorem Chg.refl (P : Pt) (h : Heap) : Chg P h h := .of_ext (Ext.refl _ _)
def OaOk (oa oa' : Option Addr) (h : Heap) : Prop := ∀ b, oa' = some b → oa = some b ∨ h.get? b = none
theorem OaOk.refl (oa : Option Addr) (h : Heap) : OaOk oa oa h := fun _ e => .inl e
abbrev Pt.at (P : Pt) (oa : Option Addr) : Pt := { P with oa := oa }
theorem Chg.trans {P : Pt} {oa : Option Addr} {h h' h'' : Heap} (x : Chg P h h') (ok : OaOk P.oa oa h) (y : Chg (P.at oa) h' h'') : Chg P h h'' := by
  have k : ∀ b o, h.get? b = some o → P.oa ≠ some b → oa ≠ some b := fun b o e q z => (ok b z).elim q fun n => by rw [e] at n; cases n
  exact ⟨fun b o e m q => y.keep b o (x.keep b o e m q) m (k b o e q), fun b o e m q => let ⟨_, e'⟩ := x.slot b o e m q; let ⟨sl, e''⟩ := y.slot b _ e' m (k b o e q); ⟨sl, e''⟩,
    fun b o e => let ⟨o', e'⟩ := x.live b o e; y.live b o' e'⟩
theorem OaOk.trans {P : Pt} {oa oa' : Option Addr} {h h' : Heap} (x : OaOk P.oa oa h) (c : Chg P h h') (y : OaOk oa oa' h') : OaOk P.oa oa' h := fun b e => by
  rcases y b e with q | q
  · exact x b q
  · right
    cases z : h.get? b with
    | none => rfl
    | some o => obtain ⟨_, e'⟩ := c.live b o z; rw [q] at e'; cases e'

inductive Res where
  | next (σ : Sg) (ow : Ow)
  | brk (σ : Sg) (ow : Ow)
  | ret (d : PyData)
  | exc (cls : String)

/-- an exception: just made, or on its way through the frame -/
def Thrown (C : Cx) (sc : Scope) (P : Pt) (h₁ : Heap) (cls : String) (e : Addr) (h : Heap) : Prop :=
  (∃ args, Heap.MadeExcOf h₁ h e (.type cls) args) ∨
  (∃ B t, C.base.StaysIn B ∧ (∀ b o, h₁.get? b = some o → b ∉ frsOf (P.l sc) → B.get? b = some o) ∧ Heap.HeldW B (P.l sc) e (.type cls) (.ref t) P.L h ∧ h₁.UpToSlots h)
/-- what is wanted behind a statement -/
structure Post (C : Cx) (sc : Scope) (P : Pt) (s : Shared) (Φ : Res → Prop) (Q : Flow → Shared → Prop) (E : Value → Shared → Prop) : Prop where
  next : ∀ σ ow oa h tk, Φ (.next σ ow) → FS C sc (P.at oa) h σ ow → Chg P s.heap h → OaOk P.oa oa s.heap → Q .next { s with heap := h, toks := tk }
  brk : ∀ σ ow oa h tk, Φ (.brk σ ow) → FS C sc (P.at oa) h σ ow → Chg P s.heap h → OaOk P.oa oa s.heap → Q .brk { s with heap := h, toks := tk }
  ret : ∀ v d h tk, Φ (.ret d) → Rd P.O h v d → Stk C P.A (P.l sc) h → Chg P s.heap h → Q (.ret v) { s with heap := h, toks := tk }
  exc : ∀ e cls h₁ h tk, Φ (.exc cls) → Stk C P.A (P.l sc) h₁ → Chg P s.heap h₁ → Thrown C sc P h₁ cls e h → E (.ref e) { s with heap := h, toks := tk }

def WP (C : Cx) (lv : Nat) (sc : Scope) (ss : List Stmt) (σ : Sg) (ow : Ow) (Φ : Res → Prop) : Prop :=
  ∀ (P : Pt) (s : Shared) (Q : Flow → Shared → Prop) (E : Value → Shared → Prop), Room P.A lv → FS C sc P s.heap σ ow → Post C sc P s Φ Q E → wpAny (model C.prog C.w) P.A (execs ss (P.env sc)) Q E s
def Sp (C : Cx) (lv : Nat) (sc : Scope) (st : Stmt) (σ : Sg) (ow : Ow) (Φ : Res → Prop) : Prop :=
  ∀ (P : Pt) (s : Shared) (Q : Flow → Shared → Prop) (E : Value → Shared → Prop), Room P.A lv → FS C sc P s.heap σ ow → Post C sc P s Φ Q E → wpAny (model C.prog C.w) P.A (exec st (P.env sc)) Q E s

theorem Post.moved {P : Pt} {s : Shared} {Φ : Res → Prop} {Q : Flow → Shared → Prop} {E : Value → Shared → Prop} {oa : Option Addr} {h : Heap} {tk : Nat} (p : Post C sc P s Φ Q E) (c : Chg P s.heap h) (ok : OaOk P.oa oa s.heap) :
    Post C sc (P.at oa) { s with heap := h, toks := tk } Φ Q E :=
  ⟨fun σ ow oa' h' tk' f F c' ok' => p.next σ ow oa' h' tk' f F (c.trans ok c') (ok.trans c ok'), fun σ ow oa' h' tk' f F c' ok' => p.brk σ ow oa' h' tk' f F (c.trans ok c') (ok.trans c ok'),
    fun v d h' tk' f r S c' => p.ret v d h' tk' f r S (c.trans ok c'), fun e cls h₁ h' tk' f S c' m => p.exc e cls h₁ h' tk' f S (c.trans ok c') m⟩

theorem WP.nil {Φ : Res → Prop} (h : Φ (.next σ ow)) : WP C lv sc [] σ ow Φ := fun P s _ _ _ F p => wpAny_execs_nil (p.next σ ow P.oa s.heap s.toks h F (Chg.refl _ _) (OaOk.refl _ _))
/-- what follows a statement -/
def Then (C : Cx) (lv : Nat) (sc : Scope) (ss : List Stmt) (Φ : Res → Prop) : Res → Prop
  | .next σ ow => WP C lv sc ss σ ow Φ
  | .brk σ ow => Φ (.brk σ ow)
  | .ret d => Φ (.ret d)
  | .exc c => Φ (.exc c)
theorem WP.cons {st : Stmt} {rest : List Stmt} {Φ : Res → Prop} (h : Sp C lv sc st σ ow (Then C lv sc rest Φ)) : WP C lv sc (st :: rest) σ ow Φ := by
  intro P s Q E R F p
  refine wpAny_execs_cons (h P s _ _ R F ⟨?_, ?_, ?_, ?_⟩)
  · intro σ' ow' oa h' tk f F' c ok
    exact f (P.at oa) _ Q E R F' (p.moved c ok)
  · intro σ' ow' oa h' tk f F' c ok
    exact p.brk σ' ow' oa h' tk f F' c ok
  · intro v d h' tk f r S c
    exact p.ret v d h' tk f r S c
  · intro e cls h₁ h' tk f S c m
    exact p.exc e cls h₁ h' tk f S c m
theorem WP.mono {ss : List Stmt} {Φ Ψ : Res → Prop} (h : WP C lv sc ss σ ow Φ) (k : ∀ r, Φ r → Ψ r) : WP C lv sc ss σ ow Ψ := fun P s Q E R F p =>
  h P s Q E R F ⟨fun σ ow oa h tk f => p.next σ ow oa h tk (k _ f), fun σ ow oa h tk f => p.brk σ ow oa h tk (k _ f), fun v d h tk f => p.ret v d h tk (k _ f), fun e cls h₁ h tk f => p.exc e cls h₁ h tk (k _ f)⟩
theorem WP.less {ss : List Stmt} {σ' : Sg} {Φ : Res → Prop} (h : WP C lv sc ss σ' ow Φ) (k : ∀ x d, σ'.lookup x = some d → σ.lookup x = some d) : WP C lv sc ss σ ow Φ := fun P s Q E R F p => h P s Q E R (F.less k) p

theorem rd_same {P : Pt} {h h' : Heap} {m : Str → Option Value} {O : List Addr} {v : Value} {d : PyData} (hn : Nv sc h P.L m) (hs : Heap.SameBut P.L h h') (hO : P.L ∈ O) : Rd O h v d → Rd O h' v d
  | ⟨as, r, k⟩ => by
    refine ⟨as, reads_on r fun b o e q => ?_, k⟩
    have hb : b ≠ P.L := by
      rintro rfl
      rcases q with q | ⟨_, vs, n, q⟩
      · exact k _ q hO
      · obtain ⟨o', es, ep, e', hd, _⟩ := hn
        rw [e] at e'; cases e'
        rw [q] at hd; cases hd
    exact ⟨o, (hs.2 b hb).trans e, rfl, rfl⟩
theorem rdAll_same {P : Pt} {h h' : Heap} {m : Str → Option Value} {O : List Addr} {v : List Value} {d : List PyData} (hn : Nv sc h P.L m) (hs : Heap.SameBut P.L h h') (hO : P.L ∈ O) : RdAll O h v d → RdAll O h' v d
  | ⟨as, r, k⟩ => by
    refine ⟨as, readsAll_on r fun b o e q => ?_, k⟩
    have hb : b ≠ P.L := by
      rintro rfl
      rcases q with q | ⟨_, vs, n, q⟩
      · exact k _ q hO
      · obtain ⟨o', es, ep, e', hd, _⟩ := hn
        rw [e] at e'; cases e'
        rw [q] at hd; cases hd
    exact ⟨o, (hs.2 b hb).trans e, rfl, rfl⟩
theorem funFrames_to {h h' base : Heap} (k : ∀ b o, h.get? b = some o → (∀ vs, o.data ≠ .fields vs) → ∃ o', h'.get? b = some o' ∧ ∀ vs, o'.data ≠ .fields vs) : ∀ {l : List Env}, h.FunFrames base l → h'.FunFrames base l
  | [], _ => trivial
  | _ :: _, ⟨hk, ⟨L, o, hf, hn, ho, hd⟩, hr⟩ => let ⟨o', ho', hd'⟩ := k L o ho hd; ⟨hk, ⟨L, o', hf, hn, ho', hd'⟩, funFrames_to k hr⟩
theorem stk_same {P : Pt} {h h' : Heap} {m m' : Str → Option Value} (S : Stk C P.A (P.l sc) h) (hn : Nv sc h P.L m) (hn' : Nv sc h' P.L m') (hs : Heap.SameBut P.L h h') : Stk C P.A (P.l sc) h' := by
  have hb : C.base.get? P.L = none := (S.fun_.mem (show P.L ∈ frsOf (P.l sc) from .head _)).1
  refine ⟨S.frames, fun b o e => (hs.2 b ?_).trans (S.base b o e), funFrames_to (fun b o e hf => ?_) S.fun_, fun b m => ?_⟩
  · rintro rfl; rw [hb] at e; cases e
  · by_cases q : b = P.L
    · subst q
      obtain ⟨o', es, ep, e', hd, _⟩ := hn'
      exact ⟨o', e', fun vs z => by rw [hd] at z; cases z⟩
    · exact ⟨o, (hs.2 b q).trans e, hf⟩
  · by_cases q : b = P.L
    · subst q
      obtain ⟨o', es, ep, e', hd, _⟩ := hn'
      exact ⟨o', es, ep, e', hd⟩
    · obtain ⟨o, es, n, e, hd⟩ := S.dicts b m
      exact ⟨o, es, n, (hs.2 b q).trans e, hd⟩
/-- a name stored -/
theorem FS.store {P : Pt} {h h' : Heap} {m : Str → Option Value} {x : Str} {v : Value} {d : PyData} (S : Stk C P.A (P.l sc) h) (lO : Live P.O h) (ob : ∀ b, P.oa = some b → C.base.get? b = none ∧ b ∉ P.O) (hn : Nv sc h P.L m) (hv : Vars P h σ m) (ho : Owned P h m ow) (r : Rd P.OO h v d) (hx : ∀ y xs, ow = some (y, xs) → y ≠ x)
    (hn' : Nv sc h' P.L (fun y => if y = x then some v else m y)) (hs : Heap.SameBut P.L h h') : FS C sc P h' ((x, d) :: σ) ow := by
  have hL : P.L ∈ P.OO := List.mem_append_right _ (.head _)
  refine ⟨stk_same S hn hn' hs, fun a k => ?_, ob, _, hn', fun y e q => ?_, ?_⟩
  · by_cases z : a = P.L
    · obtain ⟨o, _, _, e, _⟩ := hn'; exact ⟨o, z ▸ e⟩
    · obtain ⟨o, e⟩ := lO a k; exact ⟨o, (hs.2 a z).trans e⟩
  · by_cases z : y = x
    · subst z
      rw [List.lookup_cons, beq_self_eq_true] at q
      cases q
      exact ⟨v, by simp, rd_same hn hs hL r⟩
    · rw [List.lookup_cons, beq_eq_false_iff_ne.mpr z] at q
      obtain ⟨u, e', r'⟩ := hv y e q
      exact ⟨u, by simp [z, e'], rd_same hn hs hL r'⟩
  · cases ow with
    | none => exact ho
    | some p =>
      obtain ⟨b, vs, n, h1, h2, h3, h4⟩ := ho
      refine ⟨b, vs, n, h1, by simp [hx p.1 p.2 rfl, h2], (hs.2 b ?_).trans h3, rdAll_same hn hs hL h4⟩
      rintro rfl
      obtain ⟨o', es, ep, e', hd, _⟩ := hn
      rw [h3] at e'; cases e'; cases hd
theorem Chg.same {P : Pt} {h h' : Heap} {m' : Str → Option Value} (hn' : Nv sc h' P.L m') (hs : Heap.SameBut P.L h h') : Chg P h h' := by
  refine ⟨fun b o e m _ => (hs.2 b fun z => m (z ▸ .head _)).trans e, fun b o e m _ => ⟨o.slots, (hs.2 b m).trans e⟩, fun b o e => ?_⟩
  by_cases z : b = P.L
  · obtain ⟨o', _, _, e', _⟩ := hn'; exact ⟨o', z ▸ e'⟩
  · exact ⟨o, (hs.2 b z).trans e⟩
theorem storeName_at {P : Pt} {s : Shared} {x : Str} {v : Value} {d : PyData} {Q : Unit → Shared → Prop} {E : Value → Shared → Prop} (F : FS C sc P s.heap σ ow) (r : Rd P.OO s.heap v d) (hx : ∀ y xs, ow = some (y, xs) → y ≠ x) (hl : sc.names.lookup x = some .local) (hk : sc.kind = .function)
    (k : ∀ h' tk, FS C sc P h' ((x, d) :: σ) ow → Chg P s.heap h' → Q () { s with heap := h', toks := tk }) : wpAny (model C.prog C.w) P.A (storeName (P.env sc) x v) Q E s := by
  obtain ⟨S, l, ob, m, hn, hv, ho⟩ := F
  exact store_nv hl hn (fun h' hn' hs => k h' _ (FS.store S l ob hn hv ho r hx hn' hs) (Chg.same hn' hs)) (by show (sc.kind == .class || (sc.kind == .module && _)) = false; rw [hk]; rfl)
theorem Sp.assign {x : Str} {p pos : Pos} {e : Expr} {d : PyData} {Φ : Res → Prop} (he : Ev C lv sc e σ ow d) (h : Φ (.next ((x, d) :: σ) ow)) (hx : ∀ y xs, ow = some (y, xs) → y ≠ x) (hl : sc.names.lookup x = some .local) (hk : sc.kind = .function)
    (hs : ∀ env, swapsWith e (some (.Name x p)) pos.line env = pure false := by intro _; with_unfolding_all rfl) : Sp C lv sc (.Assign [.Name x p] e pos) σ ow Φ := by
  intro P s Q E R F K
  refine wpAny_Assign_Name (he P s _ _ R F fun v h₁ t₁ x₁ r₁ => ?_) (hs _)
  exact storeName_at (F.ext' x₁) r₁ hx hl hk fun h₂ t₂ F₂ c₂ => K.next _ _ P.oa h₂ t₂ h F₂ ((Chg.of_ext x₁).trans (oa := P.oa) (OaOk.refl _ _) c₂) (OaOk.refl _ _)
theorem Sp.aug {x : Str} {p pos : Pos} {op : Operator} {e : Expr} {d₀ d₁ d : PyData} {Φ : Res → Prop} (hσ : σ.lookup x = some d₀) (he : Ev C lv sc e σ ow d₁) (hb : Aug C op d₀ d₁ d) (h : Φ (.next ((x, d) :: σ) ow)) (hx : ∀ y xs, ow = some (y, xs) → y ≠ x) (hl : sc.names.lookup x = some .local) (hk : sc.kind = .function) :
    Sp C lv sc (.AugAssign (.Name x p) op e pos) σ ow Φ := by
  intro P s Q E R F K
  have F' := F
  obtain ⟨S, l, _, m, hn, hv, ho⟩ := F'
  obtain ⟨v, hm, r⟩ := hv x d₀ hσ
  refine wpAny_AugAssign_Name (load_nv hk hl hn hm (he P s _ _ R F fun u h₁ t₁ x₁ r₁ => ?_))
  have F₁ := F.ext' x₁
  refine hb P.A P.OO _ v u _ _ R.zero (liveOO F₁) F₁.stk.base (x₁.rd r) r₁ fun y h₂ t₂ x₂ r₂ => ?_
  have x₂' : Ext P.fs h₁ h₂ := .of_stays x₂
  exact storeName_at (s := { s with heap := h₂, toks := t₂ }) (F₁.ext' x₂') r₂ hx hl hk fun h₃ t₃ F₃ c₃ => K.next _ _ P.oa h₃ t₃ h F₃ ((Chg.of_ext (x₁.trans x₂')).trans (oa := P.oa) (OaOk.refl _ _) c₃) (OaOk.refl _ _)
theorem rd_out {P : Pt} {h : Heap} {v : Value} {d : PyData} (r : Rd P.OO h v d) : Rd P.O h v d := r.sub fun _ m => List.mem_append_right _ (.tail _ m)
theorem Sp.ret {e : Expr} {pos : Pos} {d : PyData} {Φ : Res → Prop} (he : Ev C lv sc e σ ow d) (h : Φ (.ret d)) : Sp C lv sc (.Return (some e) pos) σ ow Φ := by
  intro P s Q E R F K
  exact wpAny_Return_some (he P s _ _ R F fun v h₁ t₁ x₁ r₁ => K.ret v d h₁ t₁ h (rd_out r₁) (F.stk.ext x₁) (.of_ext x₁))
theorem Sp.brk {pos : Pos} {Φ : Res → Prop} (h : Φ (.brk σ ow)) : Sp C lv sc (.Break pos) σ ow Φ := fun P s _ _ _ F K => wpAny_Break (K.brk σ ow P.oa s.heap s.toks h F (Chg.refl _ _) (OaOk.refl _ _))
theorem Sp.ite {t : Expr} {b : Bool} {body orelse : List Stmt} {pos : Pos} {Φ : Res → Prop} (ht : Tst C lv sc t σ ow b) (h1 : b = true → WP C lv sc body σ ow Φ) (h2 : b = false → WP C lv sc orelse σ ow Φ) : Sp C lv sc (.If t body orelse pos) σ ow Φ := by
  intro P s Q E R F K
  refine wpAny_If (ht P s _ _ R F fun h₁ t₁ x₁ => ?_)
  have K₁ := K.moved (oa := P.oa) (tk := t₁) (Chg.of_ext x₁) (OaOk.refl _ _)
  cases b with
  | true => exact h1 rfl P _ Q E R (F.ext' x₁) K₁
  | false => exact h2 rfl P _ Q E R (F.ext' x₁) K₁
end
end Mine

set_option maxRecDepth 100000
set_option autoImplicit false
set_option linter.unusedVariables false
namespace Mine
open PySem PySem.Calls PyProof.Rows

section
variable {C : Cx} {lv : Nat} {sc : Scope} {σ : Sg} {ow : Ow}

def Loop (J : Sg → Ow → Prop) (Φ : Res → Prop) : Res → Prop
  | .next σ ow => J σ ow
  | .brk σ ow => Φ (.next σ ow)
  | .ret d => Φ (.ret d)
  | .exc c => Φ (.exc c)

theorem held_back {P : Pt} {s : Shared} {B h : Heap} {e t : Addr} {cls : String} {E : Value → Shared → Prop} (hh : Heap.HeldW B (P.l sc) e (.type cls) (.ref t) P.L s.heap)
    (k : ∀ h', Heap.HeldW B (P.l sc) e (.type cls) (.ref t) P.L h' → s.heap.UpToSlots h' → E (.ref e) { s with heap := h' }) : cameBackBy (model C.prog C.w) P.A (P.env sc) E (.ref e) s := by
  obtain ⟨f1, f2, f3, oe, vs, T, oT, ts, he, hcls, hd, h1, hnT, hTe, hT, hdT, h3⟩ := hh
  have hsz3 : 3 < ts.size := (Array.getElem?_eq_some_iff.mp h3).1
  have other : ∀ b, b ≠ T → (s.heap.update T (Obj.mapFields (·.setIfInBounds 3 (rawInt P.L)))).get? b = s.heap.get? b := fun b hb => Heap.get?_update_other _ _ (Ne.symm hb)
  have noRecord : ∀ b o, s.heap.get? b = some o → (∀ vs, o.data ≠ .fields vs) → b ≠ T := fun b o hb hnf q => by
    rw [q, hT] at hb; injection hb with hb; subst hb; exact hnf ts hdT
  unfold cameBackBy
  refine wpAny_bind (wpAny_field he hd h1 ?_)
  rw [if_neg (show ¬ ((Value.ref T == Value.none) = true) from Bool.false_ne_true)]
  unfold setFlight
  refine wpAny_bind (wpAny_field he hd h1 ?_)
  rw [if_pos (show (Value.ref T != Value.none) = true from by simp)]
  refine wpAny_setField hT hdT hsz3 (k _ ⟨fun b o hbo => (other b fun q => by rw [q, hnT] at hbo; cases hbo).trans (f1 b o hbo), f2, f3.of_keeps fun b o hb hnf => ⟨o, (other b (noRecord b o hb hnf)).trans hb, rfl⟩, ?_⟩ fun b o hb hnf => ⟨o.slots, (other b (noRecord b o hb hnf)).trans hb⟩)
  exact ⟨oe, vs, T, _, _, (other e (Ne.symm hTe)).trans he, hcls, hd, h1, hnT, hTe, Heap.get?_update_self _ hT (Obj.isFreed_of_fields (Obj.data_mapFields hdT _)), Obj.data_mapFields hdT _, by simp [hsz3]; rfl⟩
/-- an exception on its way through a loop -/
theorem thrown_back {P : Pt} {s : Shared} {h₁ h : Heap} {e : Addr} {cls : String} {tk : Nat} {E : Value → Shared → Prop} (S : Stk C P.A (P.l sc) h₁) (x : Thrown C sc P h₁ cls e h) (k : ∀ h', Thrown C sc P h₁ cls e h' → E (.ref e) { s with heap := h', toks := tk }) :
    notedBy (model C.prog C.w) P.A (P.env sc) (fun e s' => cameBackBy (model C.prog C.w) P.A (P.env sc) E e s') (.ref e) { s with heap := h, toks := tk } := by
  have fin : ∀ (B h' : Heap) (t : Addr), C.base.StaysIn B → (∀ b o, h₁.get? b = some o → b ∉ frsOf (P.l sc) → B.get? b = some o) → Heap.HeldW B (P.l sc) e (.type cls) (.ref t) P.L h' → h₁.UpToSlots h' →
      cameBackBy (model C.prog C.w) P.A (P.env sc) E (.ref e) { s with heap := h', toks := tk } := fun B h' t hB hk hh hu =>
    held_back (s := { s with heap := h', toks := tk }) (h := h') hh fun h'' hh' hu' => k h'' (.inr ⟨B, t, hB, hk, hh', hu.trans hu'⟩)
  show wpAny _ _ (noteFrame (.ref e) (P.env sc)) _ _ _
  rcases x with ⟨args, mk⟩ | ⟨B, t, hB, hk, hh, hu⟩
  · obtain ⟨t, he, htn, ht⟩ := mk.there
    have hin : ∀ env ∈ P.l sc, ∀ b, env.frame = some b → b ∈ frsOf (P.l sc) := fun env he b hb => List.mem_filterMap.mpr ⟨env, he, hb⟩
    have hB : C.base.StaysIn (W.hideAll h₁ (frsOf (P.l sc))) := fun b o q => W.hideAll_get _ (S.base b o q) fun hm => by
      rw [(S.fun_.mem hm).1] at q; cases q
    have hfr : h.FunFrames (W.hideAll h₁ (frsOf (P.l sc))) (P.l sc) := (W.funFrames_hide S.fun_ hin).of_keeps fun b o hb _ => ⟨o, mk.keeps b o hb, rfl⟩
    have hen : (W.hideAll h₁ (frsOf (P.l sc))).get? e = none := by
      cases q : (W.hideAll h₁ (frsOf (P.l sc))).get? e with
      | none => rfl
      | some o => have := W.of_hideAll _ q; rw [mk.new] at this; cases this
    unfold noteFrame
    show wpAny _ _ (field (.ref e) 1 >>= _) _ _ _
    refine wpAny_bind (wpAny_field he rfl (x := .none) rfl ?_)
    rw [if_neg (by decide)]
    refine wpAny_entryW (s := { s with heap := h, toks := tk }) (base := W.hideAll h₁ (frsOf (P.l sc))) (env := P.env sc) (outer := P.outer) S.frames hfr rfl he (fun b o q => mk.keeps b o (W.of_hideAll _ q)) hen rfl (by simp) (a0 := .ref t) rfl fun h' hN => ?_
    obtain ⟨k1, k2, k3, k4⟩ := hN
    exact fin _ h' t hB (fun b o e m => W.hideAll_get _ e m) ⟨k1, hen, k2, k3⟩ ((Heap.UpToSlots.of_keeps mk.keeps).trans k4)
  · exact wpAny_noteFrame_againW (s := { s with heap := h, toks := tk }) rfl hh.2.2.2 (fin B h t hB hk hh hu)

theorem Sp.while {t : Expr} {body : List Stmt} {pos : Pos} {Φ : Res → Prop} (I : Nat → Sg → Ow → Prop) (n : Nat) (h0 : I n σ ow)
    (turn : ∀ n σ ow, I n σ ow → ∃ b, Tst C lv sc t σ ow b ∧ (b = false → Φ (.next σ ow)) ∧ (b = true → WP C lv sc body σ ow (Loop (fun σ' ow' => ∃ m, m < n ∧ I m σ' ow') Φ))) :
    Sp C lv sc (.While t body [] pos) σ ow Φ := by
  intro P s Q E R F K
  refine wpAny_While (codeAny_whileLoop (fun n s' => ∃ σ' ow' oa h tk, s' = { s with heap := h, toks := tk } ∧ I n σ' ow' ∧ FS C sc (P.at oa) h σ' ow' ∧ Chg P s.heap h ∧ OaOk P.oa oa s.heap) ?_ n
    ⟨σ, ow, P.oa, s.heap, s.toks, rfl, h0, F, Chg.refl _ _, OaOk.refl _ _⟩)
  rintro n' _ ⟨σ', ow', oa, h, tk, rfl, hI, F', c, ok⟩
  obtain ⟨b, ht, hf, hb⟩ := turn n' σ' ow' hI
  refine ht (P.at oa) _ _ _ R F' fun h₁ t₁ x₁ => ?_
  have F₁ := F'.ext' x₁
  have c₁ : Chg P s.heap h₁ := c.trans ok (Chg.of_ext x₁)
  cases b with
  | false => exact wpAny_execs_nil (K.next σ' ow' oa h₁ t₁ (hf rfl) F₁ c₁ ok)
  | true =>
    refine hb rfl (P.at oa) _ _ _ R F₁ ⟨?_, ?_, ?_, ?_⟩
    · rintro σ₂ ow₂ oa₂ h₂ t₂ ⟨m, hm, hI₂⟩ F₂ c₂ ok₂
      exact ⟨m, hm, σ₂, ow₂, oa₂, h₂, t₂, rfl, hI₂, F₂, c₁.trans ok c₂, ok.trans c₁ ok₂⟩
    · intro σ₂ ow₂ oa₂ h₂ t₂ f F₂ c₂ ok₂
      exact K.next σ₂ ow₂ oa₂ h₂ t₂ f F₂ (c₁.trans ok c₂) (ok.trans c₁ ok₂)
    · intro v d h₂ t₂ f r S c₂
      exact K.ret v d h₂ t₂ f r S (c₁.trans ok c₂)
    · intro e cls h₂ h₃ t₃ f S c₂ x
      exact thrown_back (P := P.at oa) S x fun h' x' => K.exc e cls h₂ h' t₃ f S (c₁.trans ok c₂) x'

/-- a target takes a datum -/
def Asg (C : Cx) (sc : Scope) (t : Expr) (d : PyData) (σ : Sg) (ow : Ow) (σ' : Sg) : Prop :=
  ∀ (P : Pt) (s : Shared) (v : Value) (Q : Unit → Shared → Prop) (E : Value → Shared → Prop), Room P.A 0 → FS C sc P s.heap σ ow → Rd P.OO s.heap v d →
    (∀ h' tk, FS C sc P h' σ' ow → Chg P s.heap h' → Q () { s with heap := h', toks := tk }) → wpAny (model C.prog C.w) P.A (assign t (P.env sc) v) Q E s
theorem Asg.name {x : Str} {p : Pos} {d : PyData} (hx : ∀ y xs, ow = some (y, xs) → y ≠ x) (hl : sc.names.lookup x = some .local) (hk : sc.kind = .function) : Asg C sc (.Name x p) d σ ow ((x, d) :: σ) := by
  intro P s v Q E R F r k
  exact wpAny_assign_Name (storeName_at F r hx hl hk k)

/-- an iterator, by what it has still to give -/
structure Iter (C : Cx) (it : Value) (sup fp : List Addr) (J : List PyData → Heap → Prop) : Prop where
  item : ∀ (A : Around) (s : Shared) (Q : Option Value → Shared → Prop) (E : Value → Shared → Prop) (d : PyData) (ds : List PyData), Room A 0 → C.base.StaysIn s.heap → J (d :: ds) s.heap →
    (∀ v h' tk, J ds h' → (∀ b o, s.heap.get? b = some o → b ∉ fp → h'.get? b = some o) → (∀ O, Rd O h' v d) → Q (some v) { s with heap := h', toks := tk }) → wpAny (model C.prog C.w) A (pyNext it) Q E s
  stop : ∀ (A : Around) (s : Shared) (Q : Option Value → Shared → Prop) (E : Value → Shared → Prop), Room A 0 → C.base.StaysIn s.heap → J [] s.heap →
    (∀ h' tk, (∀ b o, s.heap.get? b = some o → b ∉ fp → h'.get? b = some o) → Q none { s with heap := h', toks := tk }) → wpAny (model C.prog C.w) A (pyNext it) Q E s
  keep : ∀ ds h h', J ds h → (∀ b ∈ sup, ∀ o, h.get? b = some o → h'.get? b = some o) → J ds h'
  live : ∀ ds h, J ds h → ∀ b ∈ sup, ∃ o, h.get? b = some o ∧ ∀ es n, o.data ≠ .dict es n
  flds : ∀ ds h, J ds h → ∀ b ∈ fp, ∃ o vs, h.get? b = some o ∧ o.data = .fields vs
  sub : ∀ b ∈ fp, b ∈ sup

theorem FS.moved {P : Pt} {h h' : Heap} {fp : List Addr} (F : FS C sc P h σ ow) (k : ∀ b o, h.get? b = some o → b ∉ fp → h'.get? b = some o) (hf : ∀ b ∈ fp, ∃ o vs, h.get? b = some o ∧ o.data = .fields vs) (hb : ∀ b ∈ fp, C.base.get? b = none)
    (hO : ∀ b ∈ P.O, b ∉ fp) : FS C sc P h' σ ow := by
  have off : ∀ b o, h.get? b = some o → (∀ vs, o.data ≠ .fields vs) → h'.get? b = some o := fun b o e n => k b o e fun m => by
    obtain ⟨o', vs, e', q⟩ := hf b m
    rw [e] at e'; cases e'; exact n vs q
  obtain ⟨S, l, ob, m, hn, hv, ho⟩ := F
  refine ⟨⟨S.frames, fun b o e => k b o (S.base b o e) fun q => (by rw [hb b q] at e; cases e), S.fun_.of_keeps fun b o e n => ⟨o, off b o e n, rfl⟩, fun b q => ?_⟩, fun a q => ?_, ob, m, ?_, fun x d e => ?_, ?_⟩
  · obtain ⟨o, es, n, e, hd⟩ := S.dicts b q
    exact ⟨o, es, n, off b o e (fun vs z => by rw [hd] at z; cases z), hd⟩
  · obtain ⟨o, e⟩ := l a q
    exact ⟨o, k a o e (hO a q)⟩
  · exact hn.data fun b o e n => ⟨o, off b o e n, rfl⟩
  · obtain ⟨v, e', r⟩ := hv x d e
    exact ⟨v, e', r.moved off⟩
  · cases ow with
    | none => exact ho
    | some p =>
      obtain ⟨b, vs, n, h1, h2, h3, h4⟩ := ho
      exact ⟨b, vs, n, h1, h2, off b _ h3 (fun _ q => by cases q), h4.moved off⟩

/-- a source of a loop: what it gives, whatever is made first -/
def Src (C : Cx) (lv : Nat) (sc : Scope) (e : Expr) (σ : Sg) (ow : Ow) (ds : List PyData) : Prop :=
  ∀ (P : Pt) (s : Shared) (Q E : Value → Shared → Prop), Room P.A lv → FS C sc P s.heap σ ow →
    (∀ it sup fp J h' tk, Ext P.fs s.heap h' → Iter C it sup fp J → J ds h' → (∀ b ∈ fp, s.heap.get? b = none) → (∀ b ∈ sup, P.oa ≠ some b) → Q it { s with heap := h', toks := tk }) →
    wpAny (model C.prog C.w) P.A (eval e (P.env sc)) (fun x s₁ => wpAny (model C.prog C.w) P.A (pyIter x) Q E s₁) E s

theorem Sp.for {t e : Expr} {body : List Stmt} {pos : Pos} {ds : List PyData} {Φ : Res → Prop} (I : List PyData → Sg → Ow → Prop) (hs : Src C lv sc e σ ow ds) (h0 : I ds σ ow)
    (turn : ∀ d r σ ow, I (d :: r) σ ow → ∃ σ', Asg C sc t d σ ow σ' ∧ WP C lv sc body σ' ow (Loop (I r) Φ)) (done : ∀ σ ow, I [] σ ow → Φ (.next σ ow))
    (hset : ∀ env x, foldedSetIterable e env x = pure x := by intro _ _; with_unfolding_all rfl) (hgo : ∀ it v, letOwnedTupleGo t it v = pure () := by intro _ _; with_unfolding_all rfl) :
    Sp C lv sc (.For t e body [] pos) σ ow Φ := by
  intro P s Q E R F K
  refine wpAny_For (hs P s _ _ R F fun it sup fp J h tk x₀ IT hJ hfp hown => ?_) (hset _)
  have F₀ := F.ext' x₀
  have hbase : ∀ b ∈ fp, C.base.get? b = none := fun b m => by
    cases q : C.base.get? b with
    | none => rfl
    | some o => have := F.stk.base b o q; rw [hfp b m] at this; cases this
  have hOfp : ∀ b ∈ P.O, b ∉ fp := fun b m q => by obtain ⟨o, e⟩ := F.live b m; rw [hfp b q] at e; cases e
  refine codeAny_forLoop (fun n s' => ∃ ds' σ' ow' oa h tk, s' = { s with heap := h, toks := tk } ∧ ds'.length = n ∧ I ds' σ' ow' ∧ J ds' h ∧ FS C sc (P.at oa) h σ' ow' ∧ Chg P s.heap h ∧ OaOk P.oa oa s.heap ∧ ∀ b ∈ sup, oa ≠ some b) ?_ ds.length
    ⟨ds, σ, ow, P.oa, h, tk, rfl, rfl, h0, hJ, F₀, Chg.of_ext x₀, OaOk.refl _ _, hown⟩ (hgo it)
  rintro n _ ⟨ds', σ', ow', oa, h', tk', rfl, hlen, hI, hJ', F', c', ok', hown'⟩
  have move : ∀ h₁, (∀ b o, h'.get? b = some o → b ∉ fp → h₁.get? b = some o) → FS C sc (P.at oa) h₁ σ' ow' ∧ Chg P s.heap h₁ := fun h₁ k => by
    refine ⟨F'.moved k (IT.flds _ _ hJ') hbase hOfp, ?_⟩
    have nfp : ∀ b o, s.heap.get? b = some o → b ∉ fp := fun b o e m => by rw [hfp b m] at e; cases e
    exact ⟨fun b o e m q => k b o (c'.keep b o e m q) (nfp b o e), fun b o e m q => by
      obtain ⟨sl, e'⟩ := c'.slot b o e m q
      exact ⟨sl, k b _ e' (nfp b o e)⟩, fun b o e => by
      obtain ⟨o', e'⟩ := c'.live b o e
      exact ⟨o', k b _ e' (nfp b o e)⟩⟩
  cases ds' with
  | nil =>
    refine IT.stop P.A _ _ _ R.zero F'.stk.base hJ' fun h₁ t₁ k₁ => ?_
    obtain ⟨F₁, c₁⟩ := move h₁ k₁
    exact wpAny_execs_nil (K.next σ' ow' oa h₁ t₁ (done σ' ow' hI) F₁ c₁ ok')
  | cons d r =>
    refine IT.item P.A _ _ _ d r R.zero F'.stk.base hJ' fun v h₁ t₁ hJ₁ k₁ r₁ => ?_
    obtain ⟨F₁, c₁⟩ := move h₁ k₁
    obtain ⟨σ₂, hasg, hb⟩ := turn d r σ' ow' hI
    refine hasg (P.at oa) _ v _ _ R.zero F₁ (r₁ _) fun h₂ t₂ F₂ c₂ => ?_
    have Jk : ∀ {h₂ h₃}, J r h₂ → Stk C P.A (P.l sc) h₂ → Chg (P.at oa) h₂ h₃ → J r h₃ := fun {h₂ h₃} hj S c => by
      refine IT.keep r h₂ h₃ hj fun b m o e => c.keep b o e ?_ (hown' b m)
      obtain ⟨o', e', n⟩ := IT.live r h₂ hj b m
      exact S.off e' n
    have hJ₂ := Jk hJ₁ F₁.stk c₂
    have c₂' : Chg P s.heap h₂ := c₁.trans ok' c₂
    refine hb (P.at oa) _ _ _ R F₂ ⟨?_, ?_, ?_, ?_⟩
    · intro σ₃ ow₃ oa₃ h₃ t₃ hI₃ F₃ c₃ ok₃
      refine ⟨r.length, by simp at hlen; omega, r, σ₃, ow₃, oa₃, h₃, t₃, rfl, rfl, hI₃, Jk hJ₂ F₂.stk c₃, F₃, c₂'.trans ok' c₃, ok'.trans c₂' ok₃, fun b m q => ?_⟩
      rcases ok₃ b q with z | z
      · exact hown' b m z
      · obtain ⟨o, e, _⟩ := IT.live _ _ hJ₂ b m
        rw [e] at z; cases z
    · intro σ₃ ow₃ oa₃ h₃ t₃ f F₃ c₃ ok₃
      exact K.next σ₃ ow₃ oa₃ h₃ t₃ f F₃ (c₂'.trans ok' c₃) (ok'.trans c₂' ok₃)
    · intro v d h₃ t₃ f r S c₃
      exact K.ret v d h₃ t₃ f r S (c₂'.trans ok' c₃)
    · intro e cls h₃ h₄ t₃ f S c₃ x
      exact thrown_back (P := P.at oa) S x fun h' x' => K.exc e cls h₃ h' t₃ f S (c₂'.trans ok' c₃) x'
end
end Mine

set_option maxRecDepth 100000
set_option autoImplicit false
set_option linter.unusedVariables false
namespace Mine
open PySem PySem.Calls PyProof.Rows

section
variable {C : Cx} {a b : Int}
theorem stays_refl (h : Heap) : h.StaysIn h := fun _ _ e => e
theorem stays_push (h : Heap) (o : Obj) : h.StaysIn (h.push o) := fun _ _ e => Heap.get?_push_of_some o e

theorem Bin.add : Bin C .Add (.int a) (.int b) (.int (a + b)) := by
  intro A O s v u Q E R _ _ r r' k
  obtain ⟨t, rfl⟩ := r.intInv; obtain ⟨t', rfl⟩ := r'.intInv
  exact PyProof.Rows.add_int (k _ _ _ (stays_refl _) (.int _ _))
theorem Bin.sub : Bin C .Sub (.int a) (.int b) (.int (a - b)) := by
  intro A O s v u Q E R _ _ r r' k
  obtain ⟨t, rfl⟩ := r.intInv; obtain ⟨t', rfl⟩ := r'.intInv
  exact PyProof.Rows.sub_int (k _ _ _ (stays_refl _) (.int _ _))
theorem Bin.mul (hm : IntMulOk a b) : Bin C .Mult (.int a) (.int b) (.int (a * b)) := by
  intro A O s v u Q E R _ _ r r' k
  obtain ⟨t, rfl⟩ := r.intInv; obtain ⟨t', rfl⟩ := r'.intInv
  exact PyProof.Rows.mul_int (k _ _ _ (stays_refl _) (.int _ _)) hm
theorem Bin.fdiv (hb : b ≠ 0) (hp : Builtin.divisionGoesByPylong a b = false) : Bin C .FloorDiv (.int a) (.int b) (.int (a.fdiv b)) := by
  intro A O s v u Q E R _ _ r r' k
  obtain ⟨t, rfl⟩ := r.intInv; obtain ⟨t', rfl⟩ := r'.intInv
  exact PyProof.Rows.floordiv_int hb (k _ _ _ (stays_refl _) (.int _ _)) (.inl hp)
theorem Bin.fmod (hb : b ≠ 0) : Bin C .Mod (.int a) (.int b) (.int (a.fmod b)) := by
  intro A O s v u Q E R _ _ r r' k
  obtain ⟨t, rfl⟩ := r.intInv; obtain ⟨t', rfl⟩ := r'.intInv
  exact PyProof.Rows.mod_int' hb (k _ _ _ (stays_refl _) (.int _ _))
theorem Bin.pow (hn : 0 ≤ b) (hsz : (Builtin.Int.intBits a : Int) * b ≤ 2 ^ 27) : Bin C .Pow (.int a) (.int b) (.int (a ^ b.toNat)) := by
  intro A O s v u Q E R _ _ r r' k
  obtain ⟨t, rfl⟩ := r.intInv; obtain ⟨t', rfl⟩ := r'.intInv
  exact PyProof.Rows.pow_int hn hsz (k _ _ _ (stays_refl _) (.int _ _))
theorem Aug.add : Aug C .Add (.int a) (.int b) (.int (a + b)) := by
  intro A O s v u Q E R _ _ r r' k
  obtain ⟨t, rfl⟩ := r.intInv; obtain ⟨t', rfl⟩ := r'.intInv
  exact PyProof.Rows.iadd_int (k _ _ _ (stays_refl _) (.int _ _))
theorem Aug.sub : Aug C .Sub (.int a) (.int b) (.int (a - b)) := by
  intro A O s v u Q E R _ _ r r' k
  obtain ⟨t, rfl⟩ := r.intInv; obtain ⟨t', rfl⟩ := r'.intInv
  exact PyProof.Rows.isub_int (k _ _ _ (stays_refl _) (.int _ _))
theorem Cmp.lt : Cmp C .Lt (.int a) (.int b) (decide (a < b)) := by
  intro A O s v u Q E R _ _ r r' k
  obtain ⟨t, rfl⟩ := r.intInv; obtain ⟨t', rfl⟩ := r'.intInv
  exact PyProof.Rows.lt_int (k s.heap s.toks (stays_refl _))
theorem Cmp.le : Cmp C .LtE (.int a) (.int b) (decide (a ≤ b)) := by
  intro A O s v u Q E R _ _ r r' k
  obtain ⟨t, rfl⟩ := r.intInv; obtain ⟨t', rfl⟩ := r'.intInv
  exact PyProof.Rows.le_int (k s.heap s.toks (stays_refl _))
theorem Cmp.gt : Cmp C .Gt (.int a) (.int b) (decide (b < a)) := by
  intro A O s v u Q E R _ _ r r' k
  obtain ⟨t, rfl⟩ := r.intInv; obtain ⟨t', rfl⟩ := r'.intInv
  exact PyProof.Rows.gt_int (k s.heap s.toks (stays_refl _))
theorem Cmp.ge : Cmp C .GtE (.int a) (.int b) (decide (b ≤ a)) := by
  intro A O s v u Q E R _ _ r r' k
  obtain ⟨t, rfl⟩ := r.intInv; obtain ⟨t', rfl⟩ := r'.intInv
  exact PyProof.Rows.ge_int (k s.heap s.toks (stays_refl _))
theorem Cmp.eqInt : Cmp C .Eq (.int a) (.int b) (decide (a = b)) := by
  intro A O s v u Q E R _ _ r r' k
  obtain ⟨t, rfl⟩ := r.intInv; obtain ⟨t', rfl⟩ := r'.intInv
  refine PyProof.Rows.eq_int ?_
  rw [show (a == b) = decide (a = b) from by by_cases h : a = b <;> simp [h]]
  exact k s.heap s.toks (stays_refl _)
theorem Cmp.neInt : Cmp C .NotEq (.int a) (.int b) (!decide (a = b)) := by
  intro A O s v u Q E R _ _ r r' k
  obtain ⟨t, rfl⟩ := r.intInv; obtain ⟨t', rfl⟩ := r'.intInv
  refine PyProof.Rows.ne_int ?_
  rw [show (a != b) = !decide (a = b) from by by_cases h : a = b <;> simp [h]]
  exact k s.heap s.toks (stays_refl _)
theorem Cmp.eq {d e : PyData} (hd : SeqAt.shaped d = true) (he : SeqAt.shaped e = true) : Cmp C .Eq d e (PyData.eqv d e) := by
  intro A O s v u Q E R _ _ r r' k
  obtain ⟨_, r, _⟩ := r; obtain ⟨_, r', _⟩ := r'
  exact eq_dataH r r' hd he R.line (k s.heap s.toks (stays_refl _))
theorem Cmp.ne {d e : PyData} (hd : SeqAt.shaped d = true) (he : SeqAt.shaped e = true) : Cmp C .NotEq d e (!PyData.eqv d e) := by
  intro A O s v u Q E R _ _ r r' k
  obtain ⟨_, r, _⟩ := r; obtain ⟨_, r', _⟩ := r'
  exact ne_dataH r r' hd he R.line (k s.heap s.toks (stays_refl _))
theorem Una.neg : Una C .USub (.int a) (.int (-a)) := by
  intro A O s v Q E R _ _ r k
  obtain ⟨t, rfl⟩ := r.intInv
  exact PyProof.Rows.neg_int (k _ _ _ (stays_refl _) (.int _ _))
theorem Tru.bool {c : Bool} : Tru C (.bool c) c := by
  intro A O s v Q E R _ _ r k
  cases r.boolInv
  exact wpAny_truthy_bool (k s.heap s.toks (stays_refl _))
theorem Una.not {d : PyData} {c : Bool} (h : Tru C d c) : Una C .Not d (.bool (!c)) := by
  intro A O s v Q E R l x r k
  exact not_value (h A O s v _ _ R l x r fun h' tk y => k _ h' tk y (.bool _))
theorem Blt.len {ds : List PyData} (hs : ds.length < 2 ^ 60) : Blt C (.builtin "len") [.list ds] (.int ds.length) := by
  intro A O s vs Q E R _ _ r k
  obtain ⟨v, rfl, r₁⟩ := r.one
  obtain ⟨a, o, vs, n, rfl, h1, h2, h3, _, r₂⟩ := r₁.listInv
  have e : vs.size = ds.length := by rw [← r₂.length]; simp
  refine PyProof.Rows.len_list (items := vs) ⟨o, h1, h2, n, h3⟩ (by rw [e]; omega) ?_
  rw [e]
  exact k _ s.heap _ (stays_refl _) (.int _ _)
theorem Blt.lenStr {x : Str} (hs : x.length < 2 ^ 60) : Blt C (.builtin "len") [.str x] (.int x.length) := by
  intro A O s vs Q E R _ _ r k
  obtain ⟨v, rfl, r₁⟩ := r.one
  obtain ⟨t, rfl⟩ := r₁.strInv
  exact P.len_str (by omega) (k _ s.heap _ (stays_refl _) (.int _ _))
theorem Blt.max : Blt C (.builtin "max") [.int a, .int b] (.int (if b > a then b else a)) := by
  intro A O s vs Q E R _ _ r k
  obtain ⟨v, u, rfl, r₁, r'⟩ := r.two
  obtain ⟨t, rfl⟩ := r₁.intInv; obtain ⟨t', rfl⟩ := r'.intInv
  refine max_two_ints R.handled fun h' tk hk => ?_
  by_cases c : b > a
  · rw [if_pos c] at k ⊢; exact k _ _ _ hk (.int _ _)
  · rw [if_neg c] at k ⊢; exact k _ _ _ hk (.int _ _)
theorem Blt.abs : Blt C (.builtin "abs") [.int a] (.int (if a < 0 then -a else a)) := by
  intro A O s vs Q E R _ _ r k
  obtain ⟨v, rfl, r₁⟩ := r.one
  obtain ⟨t, rfl⟩ := r₁.intInv
  exact call_abs_int fun u tk => k _ s.heap _ (stays_refl _) (.int _ _)
end

section
variable {C : Cx} {lv : Nat} {sc : Scope} {σ : Sg} {ow : Ow}
theorem Ev.and {x y : Expr} {pos : Pos} {a b : Bool} (h : Ev C lv sc x σ ow (.bool a)) (h' : a = true → Ev C lv sc y σ ow (.bool b)) (hab : a = false → b = false) : Ev C lv sc (.BoolOp .And [x, y] pos) σ ow (.bool b) := by
  intro P s Q E R F k
  refine wpAny_And2 (h P s _ _ R F fun v h₁ t₁ x₁ r₁ => ?_)
  cases r₁.boolInv
  refine wpAny_truthy_bool ?_
  cases a with
  | false => rw [hab rfl] at k; exact k _ _ _ x₁ r₁
  | true => exact h' rfl P _ _ _ R (F.ext' x₁) fun v h₂ t₂ x₂ r₂ => k v h₂ t₂ (x₁.trans x₂) r₂
theorem Ev.or {x y : Expr} {pos : Pos} {a b : Bool} (h : Ev C lv sc x σ ow (.bool a)) (h' : a = false → Ev C lv sc y σ ow (.bool b)) (hab : a = true → b = true) : Ev C lv sc (.BoolOp .Or [x, y] pos) σ ow (.bool b) := by
  intro P s Q E R F k
  refine wpAny_Or2 (h P s _ _ R F fun v h₁ t₁ x₁ r₁ => ?_)
  cases r₁.boolInv
  refine wpAny_truthy_bool ?_
  cases a with
  | true => rw [hab rfl] at k; exact k _ _ _ x₁ r₁
  | false => exact h' rfl P _ _ _ R (F.ext' x₁) fun v h₂ t₂ x₂ r₂ => k v h₂ t₂ (x₁.trans x₂) r₂

theorem subTail {prog : Program} {w : World} {A : Around} {E : Value → Shared → Prop} {s : Shared} {value slice : Expr} {o i : Value} {T id : String} {ops : List Value} {Q : Value → Shared → Prop} (hT : s.TypeIs o T)
    (hl : typeLookup (.type T) "__getitem__" = pure (some (.builtin id))) (h : wpAny (model prog w) A (getItem o i) Q E s) (hs : subscripted slice false o i = operate ops (getItem o i)) : wpAny (model prog w) A (subscriptTail value slice o i) Q E s := by
  unfold subscriptTail
  refine wpAny_bind ?_
  rw [getitemInPython_of_ne hT.not_modules]
  refine wpAny_bind (wpAny_specialOf hT hl ?_)
  have fin : wpAny (model prog w) A (subscripted slice false o i) (fun r s₃ => wpAny (model prog w) A (letTemporaryGo value o r >>= fun _ => pure r) Q E s₃) E s := by
    rw [hs]
    exact wpAny_operating (wpAny_mono h (fun r s₃ h₃ => wpAny_bind (wpAny_letTemporaryGo (wpAny_pure h₃))) fun _ _ x => x)
  first
    | exact wpAny_pure (wpAny_bind fin)
    | exact wpAny_bind (wpAny_pure (wpAny_bind fin))
    | exact wpAny_bind fin
/-- an item of a list or a tuple -/
def Itm (C : Cx) (d : PyData) (i : Int) (r : PyData) : Prop :=
  ∀ (A : Around) (O : List Addr) (s : Shared) (value slice : Expr) (v : Value) (t : Tok) (Q E : Value → Shared → Prop), Room A 0 → Rd O s.heap v d → (∀ o j, subscripted slice false o j = operate [o, j] (getItem o j)) →
    (∀ x, Rd O s.heap x r → Q x s) → wpAny (model C.prog C.w) A (subscriptTail value slice v (.int i t)) Q E s
theorem Itm.list {ds : List PyData} {i : Int} {r : PyData} (h0 : 0 ≤ i) (h1 : i < 2 ^ 60) (h : ds[i.toNat]? = some r) : Itm C (.list ds) i r := by
  intro A O s value slice v t Q E R rd hs k
  obtain ⟨a, o, vs, n, rfl, e1, e2, e3, _, rs⟩ := rd.listInv
  obtain ⟨x, hx, rx⟩ := rs.get _ _ h
  have hl : s.heap.IsList a vs := ⟨o, e1, e2, n, e3⟩
  exact subTail hl.typeIs slot_list_getitem.lookup (wpAny_getItem_list hl h0 (by omega) (by simpa using hx) (k x rx)) (hs _ _)
theorem Itm.tuple {ds : List PyData} {i : Int} {r : PyData} (h0 : 0 ≤ i) (h1 : i < 2 ^ 60) (h : ds[i.toNat]? = some r) : Itm C (.tuple ds) i r := by
  intro A O s value slice v t Q E R rd hs k
  obtain ⟨a, o, vs, n, rfl, e1, e2, e3, rs⟩ := rd.tupleInv
  obtain ⟨x, hx, rx⟩ := rs.get _ _ h
  have ht : IsTup s.heap a vs := ⟨o, e1, e2, n, e3⟩
  have hlt : i.toNat < vs.size := by
    have := (List.getElem?_eq_some_iff.mp hx).1
    simpa using this
  have hj : seqIndex? i vs.size = some i.toNat := by
    unfold seqIndex?
    simp only [show ¬ i < 0 by omega, if_false]
    rw [if_pos (by simp; omega)]
  exact subTail ht.typeIs slot_tuple_getitem.lookup (getItem_tuple ht (by omega) (by omega) hj (by simpa using hx) (k x rx)) (hs _ _)
theorem Ev.item {value slice : Expr} {pos : Pos} {d r : PyData} {i : Int} (h : Ev C lv sc value σ ow d) (h' : Ev C lv sc slice σ ow (.int i)) (hi : Itm C d i r) (hs : ∀ o j, subscripted slice false o j = operate [o, j] (getItem o j) := by intro _ _; with_unfolding_all rfl) :
    Ev C lv sc (.Subscript value slice pos) σ ow r := by
  intro P s Q E R F k
  refine Subscript_ (h P s _ _ R F fun v h₁ t₁ x₁ r₁ => h' P _ _ _ R (F.ext' x₁) fun j h₂ t₂ x₂ r₂ => ?_)
  obtain ⟨t, rfl⟩ := r₂.intInv
  exact hi P.A P.OO _ value slice v t _ _ R.zero (x₂.rd r₁) hs fun x rx => k x h₂ t₂ (x₁.trans x₂) rx
end
end Mine

set_option maxRecDepth 100000
set_option autoImplicit false
set_option linter.unusedVariables false
namespace Mine
open PySem PySem.Calls PyProof.Rows

def flat : PyData → Bool
  | .none | .bool _ | .int _ | .str _ => true
  | _ => false
theorem Rd.flat {O O' : List Addr} {h h' : Heap} {v : Value} {d : PyData} (hf : flat d = true) (r : Rd O h v d) : Rd O' h' v d := by
  obtain ⟨_, r, _⟩ := r
  cases r with
  | none => exact .none
  | bool b => exact .bool b
  | int i t => exact .int i t
  | str x t => exact .str x t
  | _ => cases hf
theorem extBut_stays {h h' : Heap} (k : Heap.ExtBut h.objs.size h h') : h.StaysIn h' := fun b o e => k b o (Nat.ne_of_lt (Heap.lt_size e)) e

section
variable {C : Cx} {lv : Nat} {sc : Scope} {σ : Sg} {ow : Ow}

theorem Iter.of_walks {I : Addr} {fp wr : List Addr} {ds : List PyData} {V : Nat → Value → Prop} {St : Nat → Heap → Prop} (W : ∀ A : Around, A.handled = none → Walks C.prog C.w A I fp wr ds.length V St)
    (hv : ∀ i v d, V i v → ds[i]? = some d → ∀ O h, Rd O h v d) (hl : ∀ i h, St i h → ∀ b ∈ fp, ∃ o, h.get? b = some o ∧ ∀ es n, o.data ≠ .dict es n) (hf : ∀ i h, St i h → ∀ b ∈ wr, ∃ o vs, h.get? b = some o ∧ o.data = .fields vs) :
    Iter C (.ref I) fp wr (fun r h => ∃ i, i ≤ ds.length ∧ r = ds.drop i ∧ St i h) where
  item := by
    rintro A s Q E d r R hb ⟨i, hi, e, st⟩ k
    have hi' : i < ds.length := by
      by_cases q : i < ds.length
      · exact q
      · rw [List.drop_of_length_le (by omega)] at e; cases e
    rw [List.drop_eq_getElem_cons hi'] at e
    cases e
    exact (W A R.handled).item i s Q E hi' st fun v h' tk hP st' kk => k v h' tk ⟨i + 1, hi', rfl, st'⟩ (fun b o e m => kk b o m e) (fun O => hv i v _ hP (List.getElem?_eq_getElem hi') O h')
  stop := by
    rintro A s Q E R hb ⟨i, hi, e, st⟩ k
    have : i = ds.length := by
      have := congrArg List.length e
      simp at this; omega
    subst this
    exact (W A R.handled).done s Q E st fun h' tk kk => k h' tk fun b o e m => kk b o m e
  keep := by
    rintro r h h' ⟨i, hi, e, st⟩ k
    exact ⟨i, hi, e, (W {} rfl).frame i h h' st k⟩
  live := fun r h ⟨i, _, _, st⟩ => hl i h st
  flds := fun r h ⟨i, _, _, st⟩ => hf i h st
  sub := (W {} rfl).sub

theorem Src.list {e : Expr} {ds : List PyData} (h : Ev C lv sc e σ ow (.list ds)) (hf : ∀ d ∈ ds, flat d = true) : Src C lv sc e σ ow ds := by
  intro P s Q E R F k
  refine h P s _ _ R F fun v h₁ t₁ x₁ r₁ => ?_
  obtain ⟨l, o, vs, n, rfl, h1, h2, h3, hO, r₂⟩ := r₁.listInv
  have hl : h₁.IsList l vs := ⟨o, h1, h2, n, h3⟩
  refine wpAny_pyIter_list (s := { s with heap := h₁, toks := t₁ }) hl ?_
  have hne : l ≠ h₁.objs.size := Nat.ne_of_lt (Heap.lt_size h1)
  have hsz : vs.size = ds.length := by rw [← r₂.length]; simp
  refine k _ [h₁.objs.size, l] [h₁.objs.size] _ _ t₁ (x₁.push _) (Iter.of_walks (ds := ds) (fun A hA => hsz ▸ Walks.list hA h₁.objs.size l hne vs) ?_ ?_ ?_)
    ⟨0, Nat.zero_le _, rfl, ⟨_, Heap.get?_push_size _ rfl, rfl, rfl⟩, hl.push _⟩ ?_ ?_
  · intro i v d hv hd O h'
    obtain ⟨u, hu, ru⟩ := r₂.get i d hd
    have : v = u := by
      have : vs[i]? = some u := by simpa using hu
      rw [hv] at this; exact Option.some.inj this
    subst this
    exact ru.flat (hf d (List.mem_of_getElem? hd))
  · rintro i h' ⟨⟨o1, e1, _, d1⟩, ⟨o2, e2, _, n2, d2⟩⟩ b hb
    simp only [List.mem_cons, List.not_mem_nil, or_false] at hb
    rcases hb with rfl | rfl
    · exact ⟨o1, e1, fun _ _ q => by rw [d1] at q; cases q⟩
    · exact ⟨o2, e2, fun _ _ q => by rw [d2] at q; cases q⟩
  · rintro i h' ⟨⟨o1, e1, _, d1⟩, _⟩ b hb
    simp only [List.mem_cons, List.not_mem_nil, or_false] at hb
    subst hb
    exact ⟨o1, _, e1, d1⟩
  · intro b hb
    simp only [List.mem_cons, List.not_mem_nil, or_false] at hb
    subst hb
    cases q : s.heap.get? h₁.objs.size with
    | none => rfl
    | some o' => obtain ⟨_, e'⟩ := x₁.up _ _ q; exact absurd (Heap.lt_size e') (Nat.lt_irrefl _)
  · intro b hb q
    simp only [List.mem_cons, List.not_mem_nil, or_false] at hb
    rcases hb with rfl | rfl
    · obtain ⟨_, _, _, e⟩ := (F.ext' x₁).own_off _ q
      exact absurd (Heap.lt_size e) (Nat.lt_irrefl _)
    · exact hO (List.mem_append_left _ (by rw [q]; exact .head _))
theorem Src.tuple {e : Expr} {ds : List PyData} (h : Ev C lv sc e σ ow (.tuple ds)) (hf : ∀ d ∈ ds, flat d = true) : Src C lv sc e σ ow ds := by
  intro P s Q E R F k
  refine h P s _ _ R F fun v h₁ t₁ x₁ r₁ => ?_
  obtain ⟨l, o, vs, n, rfl, h1, h2, h3, r₂⟩ := r₁.tupleInv
  have hl : h₁.IsTuple l vs := ⟨o, h1, h2, n, h3⟩
  refine wpAny_pyIter_tuple (s := { s with heap := h₁, toks := t₁ }) hl ?_
  have hne : l ≠ h₁.objs.size := Nat.ne_of_lt (Heap.lt_size h1)
  have hsz : vs.size = ds.length := by rw [← r₂.length]; simp
  refine k _ [h₁.objs.size, l] [h₁.objs.size] _ _ t₁ (x₁.push _) (Iter.of_walks (ds := ds) (fun A hA => hsz ▸ Walks.tuple hA h₁.objs.size l hne vs) ?_ ?_ ?_)
    ⟨0, Nat.zero_le _, rfl, ⟨_, Heap.get?_push_size _ rfl, rfl, rfl⟩, hl.push _⟩ ?_ ?_
  · intro i v d hv hd O h'
    obtain ⟨u, hu, ru⟩ := r₂.get i d hd
    have : v = u := by
      have : vs[i]? = some u := by simpa using hu
      rw [hv] at this; exact Option.some.inj this
    subst this
    exact ru.flat (hf d (List.mem_of_getElem? hd))
  · rintro i h' ⟨⟨o1, e1, _, d1⟩, ⟨o2, e2, _, n2, d2⟩⟩ b hb
    simp only [List.mem_cons, List.not_mem_nil, or_false] at hb
    rcases hb with rfl | rfl
    · exact ⟨o1, e1, fun _ _ q => by rw [d1] at q; cases q⟩
    · exact ⟨o2, e2, fun _ _ q => by rw [d2] at q; cases q⟩
  · rintro i h' ⟨⟨o1, e1, _, d1⟩, _⟩ b hb
    simp only [List.mem_cons, List.not_mem_nil, or_false] at hb
    subst hb
    exact ⟨o1, _, e1, d1⟩
  · intro b hb
    simp only [List.mem_cons, List.not_mem_nil, or_false] at hb
    subst hb
    cases q : s.heap.get? h₁.objs.size with
    | none => rfl
    | some o' => obtain ⟨_, e'⟩ := x₁.up _ _ q; exact absurd (Heap.lt_size e') (Nat.lt_irrefl _)
  · intro b hb q
    simp only [List.mem_cons, List.not_mem_nil, or_false] at hb
    obtain ⟨_, _, _, e⟩ := (F.ext' x₁).own_off _ q
    rcases hb with rfl | rfl
    · exact absurd (Heap.lt_size e) (Nat.lt_irrefl _)
    · rw [h1] at e; cases e; exact absurd (Value.type.inj h2) (by decide)

/-- the ints of a range -/
def rng (a c : Int) (n : Nat) : List PyData := (List.range n).map fun (i : Nat) => .int (a + (i : Int) * c)
theorem Src.rangeAt {P : Pt} {s : Shared} {Q E : Value → Shared → Prop} {r : Addr} {a b c : Int} {t u v : Tok} {n : Nat} (F : FS C sc P s.heap σ ow) (hr : IsRange s.heap r a b c t u v) (hsmall : Builtin.Range.small a b c = true) (hn : Builtin.Range.rangeSize a b c = (n : Int))
    (k : ∀ it sup fp J h' tk, Ext P.fs s.heap h' → Iter C it sup fp J → J (rng a c n) h' → (∀ b ∈ fp, s.heap.get? b = none) → (∀ b ∈ sup, P.oa ≠ some b) → Q it { s with heap := h', toks := tk }) :
    wpAny (model C.prog C.w) P.A (pyIter (.ref r)) Q E s := by
  refine wpAny_pyIter_range hr hsmall ?_
  have hlen : (rng a c n).length = n := by simp [rng]
  refine k _ [s.heap.objs.size] [s.heap.objs.size] _ _ s.toks ((Ext.refl _ _).push _) (Iter.of_walks (ds := rng a c n) (fun A hA => hlen.symm ▸ Walks.range hA s.heap.objs.size a c n) ?_ ?_ ?_)
    ⟨0, Nat.zero_le _, rfl, by
      show IsRangeIter _ _ _ _ _
      rw [hn]
      have := Heap.get?_push_size s.heap (o := { cls := .type "range_iterator", data := .fields #[rawInt a, rawInt (n : Int), rawInt c] }) rfl
      simpa [IsRangeIter, hlen] using this⟩ ?_ ?_
  · rintro i w d ⟨t, rfl⟩ hd O h'
    have : d = .int (a + (i : Int) * c) := by
      simp only [rng, List.getElem?_map] at hd
      obtain ⟨j, hj, rfl⟩ := Option.map_eq_some_iff.mp hd
      rw [List.getElem?_range (by have := (List.getElem?_eq_some_iff.mp hj).1; simpa using this)] at hj
      cases hj; rfl
    subst this
    exact .int _ _
  · intro i h' st b hb
    simp only [List.mem_cons, List.not_mem_nil, or_false] at hb
    subst hb
    exact ⟨_, st, fun _ _ q => by cases q⟩
  · intro i h' st b hb
    simp only [List.mem_cons, List.not_mem_nil, or_false] at hb
    subst hb
    exact ⟨_, _, st, rfl⟩
  · intro b hb
    simp only [List.mem_cons, List.not_mem_nil, or_false] at hb
    subst hb
    exact Heap.get?_none_of_le (Nat.le_refl _)
  · intro b hb q
    simp only [List.mem_cons, List.not_mem_nil, or_false] at hb
    obtain ⟨_, _, _, e⟩ := F.own_off _ q
    subst hb
    exact absurd (Heap.lt_size e) (Nat.lt_irrefl _)
theorem callT {P : Pt} {x : Str} {p pos : Pos} {e : Expr} {es : List Expr} {ds : List PyData} {T : String} {s : Shared} {Q E : Value → Shared → Prop} (ok : C.Ok) (R : Room P.A lv) (F : FS C sc P s.heap σ ow) (hg : C.mg x = none) (hb : C.mb x = some (.type T))
    (ha : EvAll C lv sc (e :: es) σ ow ds) (hl : sc.names.lookup x = some .globalImplicit) (hs : sc.kind = .function) (hd : (x == ("__debug__" : Str)) = false)
    (he : ∀ env, starEach (e :: es) env = (false, eval e env) :: starEach es env) (hp : ∀ env, (backTo pos (starEach (e :: es) env)).any (·.1) = false)
    (k : ∀ vs h' tk, Ext P.fs s.heap h' → RdAll P.OO h' vs ds → wpAny (model C.prog C.w) P.A (call (.type T) vs) Q E { s with heap := h', toks := tk }) :
    wpAny (model C.prog C.w) P.A (eval (.Call (.Name x p) (e :: es) [] pos) (P.env sc)) Q E s := by
  show wpAny _ _ (do callWith pos (← eval (.Name x p) (P.env sc)) [] (backTo pos (starEach (e :: es) (P.env sc))) (backToKw pos (keywordEach [] (P.env sc)))) Q E s
  refine wpAny_bind (built_at ok F hg hb hl hs hd ?_)
  exact PyProof.Rows.callWith_type (hp _) (evalArgs_cons (he _) (ha P s pos _ _ R F fun vs h₁ t₁ x₁ r₁ => k vs h₁ t₁ x₁ r₁))
theorem range_small {a b c : Int} (h : Builtin.Range.small a b c = true) : Builtin.Range.small a b c = true := h
theorem Src.range1 {x : Str} {p pos : Pos} {e : Expr} {b : Int} {n : Nat} (ok : C.Ok) (hg : C.mg x = none) (hb : C.mb x = some (.type "range")) (ha : Ev C lv sc e σ ow (.int b)) (hsmall : Builtin.Range.small 0 b 1 = true) (hn : Builtin.Range.rangeSize 0 b 1 = (n : Int)) (hl : sc.names.lookup x = some .globalImplicit) (hs : sc.kind = .function) (hd : (x == ("__debug__" : Str)) = false)
    (he : ∀ env, starEach [e] env = (false, eval e env) :: starEach [] env := by intro _; with_unfolding_all rfl) (hp : ∀ env, (backTo pos (starEach [e] env)).any (·.1) = false := by intro _; with_unfolding_all rfl) :
    Src C lv sc (.Call (.Name x p) [e] [] pos) σ ow (rng 0 1 n) := by
  intro P s Q E R F k
  refine callT ok R F hg hb (EvAll.cons ha .nil he) hl hs hd he hp fun vs h₁ t₁ x₁ r₁ => ?_
  obtain ⟨v, rfl, r₂⟩ := r₁.one
  obtain ⟨t, rfl⟩ := r₂.intInv
  refine call_range_1 ?_
  exact Src.rangeAt (s := ⟨_, s.gens, _, _, _⟩) ((F.ext' x₁).ext' ((Ext.refl _ _).push _)) (IsRange.new ..) hsmall hn fun it sup fp J h' tk x' I hJ h1 h2 => k it sup fp J h' tk ((x₁.push _).trans x') I hJ (fun b m => by
    cases q : s.heap.get? b with
    | none => rfl
    | some o' => obtain ⟨_, e'⟩ := (x₁.push _).up _ _ q; have := h1 b m; rw [show _ = some _ from e'] at this; cases this) h2
theorem Src.range3 {x : Str} {p pos : Pos} {e1 e2 e3 : Expr} {a b c : Int} {n : Nat} (ok : C.Ok) (hg : C.mg x = none) (hb : C.mb x = some (.type "range")) (ha : EvAll C lv sc [e1, e2, e3] σ ow [.int a, .int b, .int c]) (hc : c ≠ 0) (hsmall : Builtin.Range.small a b c = true) (hn : Builtin.Range.rangeSize a b c = (n : Int))
    (hpl : Builtin.divisionGoesByPylong (b - a) c = false) (hl : sc.names.lookup x = some .globalImplicit) (hs : sc.kind = .function) (hd : (x == ("__debug__" : Str)) = false)
    (he : ∀ env, starEach [e1, e2, e3] env = (false, eval e1 env) :: starEach [e2, e3] env := by intro _; with_unfolding_all rfl) (hp : ∀ env, (backTo pos (starEach [e1, e2, e3] env)).any (·.1) = false := by intro _; with_unfolding_all rfl) :
    Src C lv sc (.Call (.Name x p) [e1, e2, e3] [] pos) σ ow (rng a c n) := by
  intro P s Q E R F k
  refine callT ok R F hg hb ha hl hs hd he hp fun vs h₁ t₁ x₁ r₁ => ?_
  obtain ⟨v, ws, rfl, r₂, r₃⟩ := r₁.inv
  obtain ⟨v2, v3, rfl, r₄, r₅⟩ := r₃.two
  obtain ⟨t, rfl⟩ := r₂.intInv
  obtain ⟨t2, rfl⟩ := r₄.intInv
  obtain ⟨t3, rfl⟩ := r₅.intInv
  refine call_range_3 hc ?_ (.inl hpl)
  exact Src.rangeAt (s := ⟨_, s.gens, _, _, _⟩) ((F.ext' x₁).ext' ((Ext.refl _ _).push _)) (IsRange.new ..) hsmall hn fun it sup fp J h' tk x' I hJ h1 h2 => k it sup fp J h' tk ((x₁.push _).trans x') I hJ (fun b m => by
    cases q : s.heap.get? b with
    | none => rfl
    | some o' => obtain ⟨_, e'⟩ := (x₁.push _).up _ _ q; have := h1 b m; rw [show _ = some _ from e'] at this; cases this) h2
end
end Mine

set_option maxRecDepth 100000
set_option autoImplicit false
set_option linter.unusedVariables false
namespace Mine
open PySem PySem.Calls PyProof.Rows

def del (σ : Sg) (x : Str) : Sg := σ.filter fun p => !(p.1 == x)
theorem del_lookup {x y : Str} {d : PyData} : ∀ {σ : Sg}, (del σ x).lookup y = some d → y ≠ x ∧ σ.lookup y = some d
  | [], e => by cases e
  | (z, c) :: σ, e => by
    unfold del at e
    rw [List.filter_cons] at e
    by_cases q : z = x
    · rw [if_neg (by simp [q])] at e
      obtain ⟨h1, h2⟩ := del_lookup e
      refine ⟨h1, ?_⟩
      rw [List.lookup_cons, beq_eq_false_iff_ne.mpr (by rw [q]; exact h1)]
      exact h2
    · rw [if_pos (by simp [q]), List.lookup_cons] at e
      rw [List.lookup_cons]
      by_cases r : y = z
      · subst r
        rw [beq_self_eq_true] at e ⊢
        exact ⟨q, e⟩
      · rw [beq_eq_false_iff_ne.mpr r] at e ⊢
        exact del_lookup e

section
variable {C : Cx} {lv : Nat} {sc : Scope} {σ : Sg} {ow : Ow}

/-- an expression that makes a new list -/
def EvNew (C : Cx) (lv : Nat) (sc : Scope) (e : Expr) (σ : Sg) (ow : Ow) (ds : List PyData) : Prop :=
  ∀ (P : Pt) (s : Shared) (Q E : Value → Shared → Prop), Room P.A lv → FS C sc P s.heap σ ow →
    (∀ b vs h' tk, Ext P.fs s.heap h' → s.heap.get? b = none → h'.get? b = some { cls := .type "list", data := .seq vs 0 } → RdAll (b :: P.OO) h' vs.toList ds → Q (.ref b) { s with heap := h', toks := tk }) →
    wpAny (model C.prog C.w) P.A (eval e (P.env sc)) Q E s
theorem fresh_at {fs : List Addr} {h h' : Heap} (x : Ext fs h h') : h.get? h'.objs.size = none := by
  cases q : h.get? h'.objs.size with
  | none => rfl
  | some o => obtain ⟨_, e⟩ := x.up _ _ q; exact absurd (Heap.lt_size e) (Nat.lt_irrefl _)
theorem EvNew.list {es : List Expr} {pos : Pos} {ds : List PyData} (h : EvAll C lv sc es σ ow ds) (hs : ds.length ≤ sizeLine := by decide) : EvNew C lv sc (.List es pos) σ ow ds := by
  intro P s Q E R F k
  refine wpAny_List (h P s _ _ _ R F fun vs h₁ t₁ x₁ r₁ => ⟨by rw [r₁.length]; exact hs, ?_⟩)
  refine k _ vs.toArray _ t₁ (x₁.push _) (fresh_at x₁) (Heap.get?_push_size _ rfl) ?_
  exact (Ext.refl P.fs _).push _ |>.rdAll ((by simpa using r₁ : RdAll P.OO h₁ vs.toArray.toList ds).more (Heap.get?_none_of_le (Nat.le_refl _)))
theorem foldl_rep {v : Value} : ∀ (n : Nat) (acc : Array Value), (List.foldl (fun x1 x2 => x1 ++ x2) acc (List.replicate n #[v])).toList = acc.toList ++ List.replicate n v
  | 0, acc => by simp
  | n + 1, acc => by
    rw [List.replicate_succ, List.foldl_cons, foldl_rep n]
    simp [List.replicate_succ]
theorem rdAll_rep {O : List Addr} {h : Heap} {v : Value} {d : PyData} (r : Rd O h v d) : ∀ n : Nat, RdAll O h (List.replicate n v) (List.replicate n d)
  | 0 => .nil
  | n + 1 => .cons r (rdAll_rep r n)
/-- [d] * n -/
theorem EvNew.rep {e r : Expr} {p pos : Pos} {d : PyData} {n : Int} (he : Ev C lv sc e σ ow d) (hr : Ev C lv sc r σ ow (.int n)) (hn : n ≤ 2 ^ 24) (hn' : -(2 ^ 60) ≤ n) (hst : ∀ env, starEach [e] env = (false, eval e env) :: starEach [] env := by intro _; with_unfolding_all rfl) :
    EvNew C lv sc (.BinOp (.List [e] p) .Mult r pos) σ ow (List.replicate n.toNat d) := by
  intro P s Q E R F k
  refine wpAny_BinOp (wpAny_List ((EvAll.cons he .nil hst) P s _ _ _ R F fun vs h₁ t₁ x₁ r₁ => ⟨by rw [r₁.length]; show 1 ≤ sizeLine; decide, ?_⟩))
  obtain ⟨v, rfl, r₂⟩ := r₁.one
  have F₁ := F.ext' (x₁.push { cls := .type "list", data := .seq [v].toArray })
  refine hr P _ _ _ R F₁ fun u h₂ t₂ x₂ r₃ => ?_
  obtain ⟨t, rfl⟩ := r₃.intInv
  have hb : h₂.get? h₁.objs.size = some { cls := .type "list", data := .seq #[v] 0 } := x₂.keep _ _ (Heap.get?_push_size _ rfl) (F₁.stk.off (Heap.get?_push_size _ rfl) fun _ _ q => by cases q)
  have x₃ := (x₁.push { cls := .type "list", data := .seq [v].toArray }).trans x₂
  have F₂ := F₁.ext' x₂
  have hnn : (#[v] : Array Value).size * n.toNat ≤ 2 ^ 24 := by simp; omega
  refine wpAny_binaryOp_repeat_ref (T := "list") (U := "int") (s := { s with heap := h₂, toks := t₂ }) (by decide) ⟨_, hb, rfl⟩ (fun s' => typeIs_int s' n t) noFill_list_mul PySem.F.fills_int_mul PySem.F.slot_int_rmul repeat_list PySem.F.slot_int_index.lookup
    (call_meets PySem.F.slot_int_rmul (typeIs_int _ n t) PySem.F.entry_int_rmul (PySem.F.args_int_rmul_2 _ _) (int___rmul___int_list n t h₁.objs.size #[v] 0)
      ⟨hb, rfl, ⟨_, hb, rfl⟩, call_meets PySem.F.slot_list_mul ⟨_, hb, rfl⟩ PySem.F.entry_list_mul (PySem.F.args_list_mul_2 _ _)
        (AutoListH.list___mul___list_int_3 h₁.objs.size #[v] 0 n t (by simp [Builtin.List.listFitsIndex]; omega) (by omega) (by simp [Builtin.List.listTooLong, sizeLine]; omega)) ⟨hb, ?_⟩⟩)
  refine k h₂.objs.size _ _ _ (x₃.push _) (fresh_at x₃) (Heap.get?_push_size _ rfl) ?_
  rw [foldl_rep]
  simp only [List.nil_append, Array.toList_empty]
  have r₅ : RdAll P.OO h₂ (List.replicate n.toNat v) (List.replicate n.toNat d) := rdAll_rep (x₂.rd (((Ext.refl P.fs _).push _).rd r₂)) _
  exact (Ext.refl P.fs _).push _ |>.rdAll (by simpa using r₅.more (Heap.get?_none_of_le (Nat.le_refl _)))

theorem Rd.upd {O : List Addr} {h h' : Heap} {b : Addr} {o : Obj} {v : Value} {d : PyData} (hb : b ∈ O) (ho : h.get? b = some o) (hc : o.cls = .type "list") (hs : Heap.SameBut b h h') : Rd O h v d → Rd O h' v d
  | ⟨as, r, k⟩ => ⟨as, reads_on r fun a o' e q => ⟨o', (hs.2 a fun z => by
      subst z
      rcases q with q | ⟨q, _⟩
      · exact k _ q hb
      · rw [ho] at e; cases e; rw [hc] at q; exact absurd (Value.type.inj q) (by decide)).trans e, rfl, rfl⟩, k⟩
theorem RdAll.upd {O : List Addr} {h h' : Heap} {b : Addr} {o : Obj} {v : List Value} {d : List PyData} (hb : b ∈ O) (ho : h.get? b = some o) (hc : o.cls = .type "list") (hs : Heap.SameBut b h h') : RdAll O h v d → RdAll O h' v d
  | ⟨as, r, k⟩ => ⟨as, readsAll_on r fun a o' e q => ⟨o', (hs.2 a fun z => by
      subst z
      rcases q with q | ⟨q, _⟩
      · exact k _ q hb
      · rw [ho] at e; cases e; rw [hc] at q; exact absurd (Value.type.inj q) (by decide)).trans e, rfl, rfl⟩, k⟩
/-- the list that the frame owns is changed -/
theorem FS.upd {P : Pt} {h h' : Heap} {x : Str} {xs ys : List PyData} {b : Addr} {vs ws : Array Value} {n n' : Nat} {m : Str → Option Value} (S : Stk C P.A (P.l sc) h) (l : Live P.O h) (ob : ∀ b, P.oa = some b → C.base.get? b = none ∧ b ∉ P.O) (hn : Nv sc h P.L m) (hv : Vars P h σ m) (h1 : P.oa = some b) (h2 : m x = some (.ref b))
    (h3 : h.get? b = some { cls := .type "list", data := .seq vs n }) (hs : Heap.SameBut b h h') (h3' : h'.get? b = some { cls := .type "list", data := .seq ws n' }) (r : RdAll P.OO h ws.toList ys) : FS C sc P h' σ (some (x, ys)) ∧ Chg P h h' := by
  have hbO : b ∈ P.OO := List.mem_append_left _ (by rw [h1]; exact .head _)
  have off := S.off h3 (fun _ _ q => by cases q)
  have hL : P.L ≠ b := fun e => off (e ▸ .head _)
  refine ⟨⟨⟨S.frames, fun a o e => (hs.2 a ?_).trans (S.base a o e), funFrames_to (fun a o e f => ?_) S.fun_, fun a q => ?_⟩, fun a q => ?_, ob, m, hn.other hs h3 rfl, fun y d e => ?_, ?_⟩, ?_, ?_, ?_⟩
  · rintro rfl; rw [(ob _ h1).1] at e; cases e
  · by_cases z : a = b
    · subst z
      exact ⟨_, h3', fun _ q => by cases q⟩
    · exact ⟨o, (hs.2 a z).trans e, f⟩
  · obtain ⟨o, es, k, e, hd⟩ := S.dicts a q
    exact ⟨o, es, k, (hs.2 a fun z => off (z ▸ q)).trans e, hd⟩
  · by_cases z : a = b
    · subst z; exact ⟨_, h3'⟩
    · obtain ⟨o, e⟩ := l a q; exact ⟨o, (hs.2 a z).trans e⟩
  · obtain ⟨v, e', r'⟩ := hv y d e
    exact ⟨v, e', r'.upd hbO h3 rfl hs⟩
  · exact ⟨b, ws, n', h1, h2, h3', r.upd hbO h3 rfl hs⟩
  · intro a o e _ q
    exact (hs.2 a fun z => q (z ▸ h1)).trans e
  · intro a o e _ q
    exact ⟨o.slots, (hs.2 a fun z => q (z ▸ h1)).trans e⟩
  · intro a o e
    by_cases z : a = b
    · subst z; exact ⟨_, h3'⟩
    · exact ⟨o, (hs.2 a z).trans e⟩

/-- x = a new list: the frame owns it -/
theorem Sp.own {x : Str} {p pos : Pos} {e : Expr} {ds : List PyData} {Φ : Res → Prop} (he : EvNew C lv sc e σ none ds) (h : Φ (.next (del σ x) (some (x, ds)))) (hl : sc.names.lookup x = some .local) (hk : sc.kind = .function)
    (hs : ∀ env, swapsWith e (some (.Name x p)) pos.line env = pure false := by intro _; with_unfolding_all rfl) : Sp C lv sc (.Assign [.Name x p] e pos) σ none Φ := by
  intro P s Q E R F K
  have hoa : P.oa = none := by obtain ⟨_, _, _, _, _, _, ho⟩ := F; exact ho
  refine wpAny_Assign_Name (he P s _ _ R F fun b vs h₁ t₁ x₁ hb h₃ r₁ => ?_) (hs _)
  have F' := F
  obtain ⟨S0, l0, ob, m, hn0, hv, ho⟩ := F'
  have S := S0.ext x₁
  have l := l0.ext x₁
  have hn := x₁.nv hn0
  have off := S.off h₃ (fun _ _ q => by cases q)
  have hL : b ≠ P.L := fun z => off (z ▸ .head _)
  refine store_nv (s := { s with heap := h₁, toks := t₁ }) hl hn (fun h' hn' hs' => ?_) (by show (sc.kind == .class || (sc.kind == .module && _)) = false; rw [hk]; rfl)
  have hLO : P.L ∈ P.OO := List.mem_append_right _ (.head _)
  have hOO : (P.at (some b)).OO = b :: P.OO := by simp [Pt.OO, hoa]
  have hbl : ∀ o, C.base.get? b ≠ some o := fun o q => by have := F.stk.base b o q; rw [hb] at this; cases this
  refine K.next _ _ (some b) h' _ h ⟨stk_same S hn hn' hs', fun a k => ?_, fun b' q => ?_, _, hn', fun y d q => ?_, ?_⟩ ((Chg.of_ext x₁).trans (oa := P.oa) (OaOk.refl _ _) (Chg.same hn' hs')) (fun b' q => .inr (by cases q; exact hb))
  · by_cases z : a = P.L
    · obtain ⟨o, _, _, e, _⟩ := hn'; exact ⟨o, z ▸ e⟩
    · obtain ⟨o, e⟩ := l a k; exact ⟨o, (hs'.2 a z).trans e⟩
  · cases q
    refine ⟨?_, fun q => ?_⟩
    · cases z : C.base.get? b with
      | none => rfl
      | some o => exact absurd z (hbl o)
    · obtain ⟨o, e⟩ := F.live b q; rw [hb] at e; cases e
  · obtain ⟨hy, q'⟩ := del_lookup q
    obtain ⟨u, e', r'⟩ := hv y d q'
    refine ⟨u, by simp [hy, e'], ?_⟩
    rw [hOO]
    exact rd_same hn hs' (.tail _ hLO) (x₁.rd (r'.more hb))
  · refine ⟨b, vs, 0, rfl, by simp, (hs'.2 b hL).trans h₃, ?_⟩
    rw [hOO]
    exact rdAll_same hn hs' (.tail _ hLO) r₁

theorem append_at {prog : Program} {w : World} {A : Around} {E : Value → Shared → Prop} {s : Shared} {l : Addr} {its : Array Value} {n : Nat} {x : Value} {Q : Value → Shared → Prop}
    (ho : s.heap.get? l = some { cls := .type "list", data := .seq its n }) (hQ : ∀ h' n', h'.get? l = some { cls := .type "list", data := .seq (its.push x) n' } → Heap.SameBut l s.heap h' → Q .none { s with heap := h' })
    (hsz : its.size ≤ sizeLine) : wpAny (model prog w) A (call (.builtin "list.append") [.ref l, x]) Q E s := by
  have hT : s.TypeIs (.ref l) "list" := ⟨_, ho, rfl⟩
  refine wpAny_call_entry slot_list_append hT entry_list_append ?_ (args_list_append _ _)
  show wpAny _ _ (updateSeq l (·.push x) >>= fun _ => ret .none) _ _ s
  refine wpAny_bind ?_
  refine wpAny_updateSeq ho rfl (wpAny_pure ⟨.none, rfl, hQ _ (n + 1) ?_ (Heap.SameBut.update ..)⟩)
  have := Heap.get?_update_self (Obj.mapSeq (·.push x)) ho rfl
  simpa [Obj.mapSeq] using this
theorem interactive_no {P : Pt} (hk : sc.kind = .function) : interactive (P.env sc) = false := by
  unfold interactive
  simp [Pt.env, envOfC, hk]
theorem Sp.append {x : Str} {p ap cp pos : Pos} {e : Expr} {xs : List PyData} {d : PyData} {Φ : Res → Prop} (he : Ev C lv sc e σ (some (x, xs)) d) (h : Φ (.next σ (some (x, xs ++ [d])))) (hl : sc.names.lookup x = some .local) (hk : sc.kind = .function) (hd : (x == ("__debug__" : Str)) = false)
    (hsz : xs.length ≤ sizeLine) (hline : (ap.endLine == cp.line) = true)
    (hfew : ∀ env, ((backTo cp (starEach [e] env)).all (fun x => !x.1) && (backToKw cp (keywordEach [] env)).all (fun x => x.1.isSome) && decide (([e] : List Expr).length + ([] : List Keyword).length + (if ([] : List Keyword).isEmpty then 0 else 1) < 30)) = true := by intro _; with_unfolding_all rfl)
    (htrees : ∀ env, backTo cp (starEach [e] env) = [(false, eval e env)] := by intro _; with_unfolding_all rfl) :
    Sp C lv sc (.Expr (.Call (.Attribute (.Name x p) "append" ap) [e] [] cp) pos) σ (some (x, xs)) Φ := by
  intro P s Q E R F K
  refine wpAny_Expr_any (wpAny_Call_append rfl (hfew _) hline (htrees _) ?_) (interactive_no hk) rfl
  have F' := F
  obtain ⟨S, l, ob, m, hn, hv, b, vs, n, h1, h2, h3, h4⟩ := F'
  refine wpAny_Name (load_nv hk hl hn h2 ⟨b, vs, rfl, ⟨_, n, h3, rfl, rfl, rfl⟩, ?_⟩) hd
  refine he P s _ _ R F fun y h₁ t₁ x₁ r₁ => ?_
  have off := S.off h3 (fun _ _ q => by cases q)
  have hsz' : vs.size ≤ sizeLine := by rw [← Array.length_toList, h4.length]; exact hsz
  refine append_at (s := { s with heap := h₁, toks := t₁ }) (x₁.keep _ _ h3 off) (fun h₂ n' e₂ hs₂ => ?_) hsz'
  have U := FS.upd (C := C) (sc := sc) (σ := σ) (xs := xs) (ys := xs ++ [d]) (S.ext x₁) (l.ext x₁) ob (x₁.nv hn) (fun y d q => let ⟨v, e, r⟩ := hv y d q; ⟨v, e, x₁.rd r⟩) h1 h2 (x₁.keep _ _ h3 off) hs₂ e₂
    (by rw [Array.toList_push]; exact (x₁.rdAll h4).append (.cons r₁ .nil))
  exact K.next _ _ P.oa h₂ t₁ h U.1 ((Chg.of_ext x₁).trans (oa := P.oa) (OaOk.refl _ _) U.2) (OaOk.refl _ _)
theorem Sp.setItem {x : Str} {p q pos : Pos} {e i : Expr} {xs : List PyData} {d : PyData} {k : Int} {Φ : Res → Prop} (he : Ev C lv sc e σ (some (x, xs)) d) (hi : Ev C lv sc i σ (some (x, xs)) (.int k)) (h0 : 0 ≤ k) (h1 : k < xs.length) (hbig : xs.length < 2 ^ 60)
    (h : Φ (.next σ (some (x, xs.set k.toNat d)))) (hl : sc.names.lookup x = some .local) (hk : sc.kind = .function) (hd : (x == ("__debug__" : Str)) = false)
    (hs : ∀ env, swapsWith e (some (.Subscript (.Name x p) i q)) pos.line env = pure false := by intro _; with_unfolding_all rfl) : Sp C lv sc (.Assign [.Subscript (.Name x p) i q] e pos) σ (some (x, xs)) Φ := by
  intro P s Q E R F K
  refine wpAny_Assign_Subscript (he P s _ _ R F fun y h₁ t₁ x₁ r₁ => ?_) (hs _)
  have F₁ := F.ext' x₁
  have F' := F₁
  obtain ⟨S, l, ob, m, hn, hv, b, vs, n, e1, e2, e3, e4⟩ := F'
  refine wpAny_Name (load_nv hk hl hn e2 ?_) hd
  refine hi P _ _ _ R F₁ fun j h₂ t₂ x₂ r₂ => ?_
  obtain ⟨t, rfl⟩ := r₂.intInv
  have off := S.off e3 (fun _ _ q => by cases q)
  have e3' := x₂.keep _ _ e3 off
  have hvs : vs.size = xs.length := by rw [← Array.length_toList, e4.length]
  refine W.ki_setAt (s := { s with heap := h₂, toks := t₂ }) (n := n) e3' h0 (by omega) (by omega) ?_
  have e5 : (h₂.update b (Obj.mapSeq (·.setIfInBounds k.toNat y))).get? b = some { cls := .type "list", data := .seq (vs.setIfInBounds k.toNat y) n } := by
    have := Heap.get?_update_self (Obj.mapSeq (·.setIfInBounds k.toNat y)) e3' rfl
    simpa [Obj.mapSeq] using this
  have U := FS.upd (C := C) (sc := sc) (σ := σ) (xs := xs) (ys := xs.set k.toNat d) (S.ext x₂) (l.ext x₂) ob (x₂.nv hn) (fun y d q => let ⟨v, e, r⟩ := hv y d q; ⟨v, e, x₂.rd r⟩) e1 e2 e3' (Heap.SameBut.update ..) e5
    (by rw [Array.toList_setIfInBounds]; exact (x₂.rdAll e4).set _ (x₂.rd r₁))
  exact K.next _ _ P.oa _ t₂ h U.1 ((Chg.of_ext (x₁.trans x₂)).trans (oa := P.oa) (OaOk.refl _ _) U.2) (OaOk.refl _ _)
theorem Ev.itemOwn {x : Str} {p pos : Pos} {slice : Expr} {xs : List PyData} {i : Int} {r : PyData} (h : Ev C lv sc slice σ (some (x, xs)) (.int i)) (h0 : 0 ≤ i) (h1 : i < 2 ^ 60) (hi : xs[i.toNat]? = some r) (hl : sc.names.lookup x = some .local) (hk : sc.kind = .function) (hd : (x == ("__debug__" : Str)) = false)
    (hs : ∀ o j, subscripted slice false o j = operate [o, j] (getItem o j) := by intro _ _; with_unfolding_all rfl) : Ev C lv sc (.Subscript (.Name x p) slice pos) σ (some (x, xs)) r := by
  intro P s Q E R F k
  have F' := F
  obtain ⟨S, l, ob, m, hn, hv, b, vs, n, e1, e2, e3, e4⟩ := F'
  refine Subscript_ (wpAny_Name (load_nv hk hl hn e2 ?_) hd)
  refine h P s _ _ R F fun j h₂ t₂ x₂ r₂ => ?_
  obtain ⟨t, rfl⟩ := r₂.intInv
  obtain ⟨v, ev, rv⟩ := e4.get _ _ hi
  have hL : h₂.IsList b vs := ⟨_, x₂.keep _ _ e3 (S.off e3 (fun _ _ q => by cases q)), rfl, n, rfl⟩
  exact subTail (s := { s with heap := h₂, toks := t₂ }) hL.typeIs slot_list_getitem.lookup (wpAny_getItem_list hL h0 (by omega) (by simpa using ev) (k v h₂ t₂ x₂ (x₂.rd rv))) (hs _ _)
/-- the owned list becomes a datum -/
theorem WP.release {ss : List Stmt} {x : Str} {xs : List PyData} {Φ : Res → Prop} (h : WP C lv sc ss ((x, .list xs) :: σ) none Φ) : WP C lv sc ss σ (some (x, xs)) Φ := by
  intro P s Q E R F p
  refine h (P.at none) s Q E R ?_ (p.moved (tk := s.toks) (Chg.refl _ _) fun b e => by cases e)
  obtain ⟨S, l, ob, m, hn, hv, b, vs, n, e1, e2, e3, e4⟩ := F
  have hsub : ∀ a ∈ (P.at none).OO, a ∈ P.OO := fun a q => List.mem_append_right _ (by simpa [Pt.OO] using q)
  refine ⟨S, l, fun b q => (by cases q), m, hn, fun y d q => ?_, rfl⟩
  rw [List.lookup_cons] at q
  by_cases z : y = x
  · subst z
    rw [beq_self_eq_true] at q; cases q
    refine ⟨_, e2, Rd.list e3 rfl rfl ?_ (e4.sub hsub)⟩
    intro z
    rcases List.mem_cons.mp (by simpa [Pt.OO] using z : b ∈ P.L :: P.O) with z | z
    · exact S.off e3 (fun _ _ q => by cases q) (z ▸ .head _)
    · exact (ob b e1).2 z
  · rw [beq_eq_false_iff_ne.mpr z] at q
    obtain ⟨v, e, r⟩ := hv y d q
    exact ⟨v, e, r.sub hsub⟩
end
end Mine

set_option maxRecDepth 100000
set_option autoImplicit false
set_option linter.unusedVariables false
namespace Mine
open PySem PySem.Calls PyProof.Rows

/-- a def of the text -/
structure IsFn (C : Cx) (n : Str) (ps : Arguments) (body : List Stmt) (sc : Scope) : Prop where
  there : ∃ a o pm cd doc, C.mg n = some (.ref a) ∧ C.base.get? a = some o ∧ o.data = .func (docDef n ps body sc pm cd doc) ∧ C.base.CodeRec cd n
/-- its parameters are plain names -/
structure Plain (n : Str) (ps : Arguments) (body : List Stmt) (sc : Scope) (xs : List Str) : Prop where
  bind : ∀ vs : List Value, vs.length = xs.length → ∀ pm cd doc, bindArgs (docDef n ps body sc pm cd doc) ⟨vs, []⟩ = pure (xs.zip vs)
  loc : ∀ x ∈ xs, sc.names.lookup x = some .local
  co : sc.isCoroutine = false
  gen : sc.isGenerator = false
  kind : sc.kind = .function
  cell : ∀ x ∈ sc.names, x.2 ≠ .cell

/-- its parameters are plain names, some in cells -/
structure PlainC (n : Str) (ps : Arguments) (body : List Stmt) (sc : Scope) (xs : List Str) : Prop where
  bind : ∀ vs : List Value, vs.length = xs.length → ∀ pm cd doc, bindArgs (docDef n ps body sc pm cd doc) ⟨vs, []⟩ = pure (xs.zip vs)
  kinds : ∀ x ∈ xs, sc.names.lookup x = some .local ∨ (sc.names.lookup x = some .cell ∧ ∀ n, ((cellsFrom n sc.names []).lookup x).isSome = true)
  co : sc.isCoroutine = false
  gen : sc.isGenerator = false
  kind : sc.kind = .function
theorem Plain.c {n : Str} {ps : Arguments} {body : List Stmt} {sc : Scope} {xs : List Str} (p : Plain n ps body sc xs) : PlainC n ps body sc xs := ⟨p.bind, fun x h => .inl (p.loc x h), p.co, p.gen, p.kind⟩
theorem bind_miss {kd : Str → Option NameKind} {x : Str} : ∀ (bs : List (Str × Value)) (m cm : Str → Option Value), bs.lookup x = none → bindL kd bs m x = m x ∧ bindC kd bs cm x = cm x
  | [], _, _, _ => ⟨rfl, rfl⟩
  | (y, w) :: bs, m, cm, e => by
    rw [List.lookup_cons] at e
    by_cases q : x = y
    · subst q; rw [beq_self_eq_true] at e; cases e
    · rw [beq_eq_false_iff_ne.mpr q] at e
      unfold bindL bindC
      obtain ⟨h1, h2⟩ := bind_miss (kd := kd) bs (if kd y = some .local then fun z => if z = y then some w else m z else m) (if kd y = some .local then cm else fun z => if z = y then some w else cm z) e
      rw [h1, h2]
      constructor <;> split <;> simp [q]
theorem look_rev {x : Str} : ∀ {bs : List (Str × Value)}, bs.reverse.lookup x = none → bs.lookup x = none := fun {bs} e => by
  rw [List.lookup_eq_none_iff] at e ⊢
  exact fun p hp => e p (List.mem_reverse.mpr hp)
theorem bind_look {kd : Str → Option NameKind} {x : Str} {v : Value} : ∀ (bs : List (Str × Value)) (m cm : Str → Option Value), (∀ y ∈ bs, kd y.1 = some .local ∨ kd y.1 = some .cell) → bs.reverse.lookup x = some v →
    (if kd x = some .cell then bindC kd bs cm x else bindL kd bs m x) = some v
  | [], _, _, _, e => by cases e
  | (y, w) :: bs, m, cm, hk, e => by
    rw [List.reverse_cons, List.lookup_append] at e
    unfold bindL bindC
    cases q : bs.reverse.lookup x with
    | some u =>
      rw [q] at e
      obtain rfl : u = v := by simpa using e
      exact bind_look bs _ _ (fun z hz => hk z (.tail _ hz)) q
    | none =>
      rw [q] at e
      obtain ⟨h1, h2⟩ := bind_miss (kd := kd) bs (if kd y = some .local then fun z => if z = y then some w else m z else m) (if kd y = some .local then cm else fun z => if z = y then some w else cm z) (look_rev q)
      rw [h1, h2]
      have e' : List.lookup x [(y, w)] = some v := by simpa using e
      rw [List.lookup_cons] at e'
      by_cases z : x = y
      · subst z
        rw [beq_self_eq_true] at e'; cases e'
        rcases hk _ (.head _) with h | h
        · have h : kd x = some .local := h
          simp [h]
        · have h : kd x = some .cell := h
          simp [h]
      · rw [beq_eq_false_iff_ne.mpr z] at e'; cases e'

theorem zip_lookup {O : List Addr} {h : Heap} {x : Str} {d : PyData} : ∀ {xs : List Str} {vs : List Value} {ds : List PyData}, RdAll O h vs ds → (xs.zip ds).reverse.lookup x = some d → ∃ v, (xs.zip vs).reverse.lookup x = some v ∧ Rd O h v d := by
  intro xs vs ds r
  have key : ∀ (xs : List Str) (vs : List Value) (ds : List PyData), RdAll O h vs ds → ∀ (acc : List (Str × PyData)) (acc' : List (Str × Value)), (∀ d, acc.lookup x = some d → ∃ v, acc'.lookup x = some v ∧ Rd O h v d) → (acc.lookup x = none → acc'.lookup x = none) →
      ∀ d, (List.reverseAux (xs.zip ds) acc).lookup x = some d → ∃ v, (List.reverseAux (xs.zip vs) acc').lookup x = some v ∧ Rd O h v d := by
    intro xs
    induction xs with
    | nil => intro vs ds r acc acc' h1 _ d e; simpa using h1 d (by simpa using e)
    | cons y xs ih =>
      intro vs ds r acc acc' h1 h2 d e
      cases ds with
      | nil => rw [r.invNil]; simpa using h1 d (by simpa using e)
      | cons d' ds =>
        obtain ⟨v, ws, rfl, r1, r2⟩ := r.inv
        refine ih ws ds r2 ((y, d') :: acc) ((y, v) :: acc') ?_ ?_ d (by simpa [List.zip_cons_cons, List.reverseAux] using e)
        · intro d₂ e₂
          rw [List.lookup_cons] at e₂ ⊢
          by_cases q : x = y
          · subst q; rw [beq_self_eq_true] at e₂ ⊢; cases e₂; exact ⟨v, rfl, r1⟩
          · rw [beq_eq_false_iff_ne.mpr q] at e₂ ⊢; exact h1 d₂ e₂
        · intro e₂
          rw [List.lookup_cons] at e₂ ⊢
          by_cases q : x = y
          · subst q; rw [beq_self_eq_true] at e₂; cases e₂
          · rw [beq_eq_false_iff_ne.mpr q] at e₂ ⊢; exact h2 e₂
  intro e
  exact key xs vs ds r [] [] (fun d e => by cases e) (fun _ => rfl) d e

section
variable {C : Cx} {lv : Nat} {sc : Scope} {n : Str} {ps : Arguments} {body : List Stmt} {xs : List Str} {ds : List PyData}

/-- the frame of a call -/
theorem enter {A : Around} {l : List Env} {O : List Addr} {s : Shared} {vs : List Value} {a : Addr} {o : Obj} {pm cd doc : Value} {R : Result → Shared → Prop} (ok : C.Ok) (pl : PlainC n ps body sc xs) (hlen : ds.length = xs.length)
    (ho : C.base.get? a = some o) (hd : o.data = .func (docDef n ps body sc pm cd doc)) (hc : C.base.CodeRec cd n) (Rm : Room A (lv + 1)) (S : Stk C A l s.heap) (hO : Live O s.heap) (r : RdAll O s.heap vs ds)
    (k : ∀ P : Pt, ∀ h₁ tk, P.outer = l → P.O = O → P.oa = none → P.A = A.deeper (P.env sc) → P.cd = cd → (∀ b, P.L ≤ b → s.heap.get? b = none) → Room P.A lv → FS C sc P h₁ ((xs.zip ds).reverse) none → s.heap.StaysIn h₁ →
      wpAny (model C.prog C.w) P.A (execs body (P.env sc)) (fun f s' => R (.ok (.ret (match f with | .ret v => v | _ => .none))) s')
        (fun e s' => wpAny (model C.prog C.w) P.A (leaving (P.env sc) e) (fun _ s'' => R (.error e) s'') (fun e' s'' => R (.error e') s'') s') { s with heap := h₁, toks := tk }) :
    codeAny (model C.prog C.w) A (.call (.ref a) ⟨vs, []⟩) R s := by
  have hl : vs.length = xs.length := by rw [r.length, hlen]
  refine call_cells Rm.limit (S.base _ _ ho) hd (ok.nolimit.keeps S.base) (hc.keeps S.base) (pl.bind vs hl pm cd doc) (fun x hx => (pl.kinds x.1 (List.of_mem_zip hx).1).imp id fun q => ⟨q.1, q.2 _⟩) (fun h₁ tk F X => ?_) pl.co pl.gen pl.kind
  have hnone : s.heap.get? s.heap.objs.size = none := Heap.get?_none_of_le (Nat.le_refl _)
  have hns := F.ns
  obtain ⟨oL, esL, epL, eL, hdL, _⟩ := hns
  refine k ⟨n, a, cd, s.heap.objs.size, A.deeper (envOfC n sc s.heap.objs.size a cd), l, O, none⟩ h₁ _ rfl rfl rfl rfl rfl (fun b hb => Heap.get?_none_of_le hb) (Rm.deeper _) ⟨⟨?_, fun b o e => F.keep b o (S.base b o e), ?_, ?_⟩, ?_, fun b q => (by cases q), _, ⟨oL, esL, epL, eL, hdL, _, _, F.ns, X, fun _ => rfl⟩, fun x d e => ?_, rfl⟩ F.keep
  · exact Around.frames_deeper S.frames
  · exact ⟨by show sc.kind ≠ _; rw [pl.kind]; decide, ⟨s.heap.objs.size, oL, rfl, S.base.fresh, eL, fun vs q => by rw [hdL] at q; cases q⟩, (Ext.of_stays (fs := []) F.keep).funFrames S.fun_⟩
  · intro b m
    rcases List.mem_cons.mp m with rfl | m
    · exact ⟨oL, esL, epL, eL, hdL⟩
    · obtain ⟨o, es, k, e, hd⟩ := S.dicts b m
      exact ⟨o, es, k, F.keep b o e, hd⟩
  · intro b m
    obtain ⟨o, e⟩ := hO b m
    exact ⟨o, F.keep b o e⟩
  · obtain ⟨v, e', r'⟩ := zip_lookup r e
    have hb := bind_look (kd := (envOfC n sc s.heap.objs.size a cd).kindOf) (xs.zip vs) (fun _ => none) (fun _ => none) (fun y hy => Or.imp id And.left (pl.kinds y.1 (List.of_mem_zip hy).1)) e'
    exact ⟨v, hb, (Ext.of_stays (fs := []) F.keep).rd (r'.more hnone)⟩

theorem ext_of_chg {P : Pt} {h h₁ h' : Heap} (hL : h.get? P.L = none) (ha : P.oa = none) (st : h.StaysIn h₁) (c : Chg P h₁ h') : Ext (frsOf P.outer) h h' := by
  have ne : ∀ b o, h.get? b = some o → b ≠ P.L := fun b o e q => by rw [q, hL] at e; cases e
  exact ⟨fun b o e m => c.keep b o (st b o e) (fun q => (List.mem_cons.mp q).elim (ne b o e) m) (by rw [ha]; intro q; cases q), fun b o e m => c.slot b o (st b o e) (ne b o e) (by rw [ha]; intro q; cases q)⟩

theorem Gives.of_bodyC {d : PyData} (ok : C.Ok) (fn : IsFn C n ps body sc) (pl : PlainC n ps body sc xs) (hlen : ds.length = xs.length) (h : WP C lv sc body ((xs.zip ds).reverse) none (fun r => r = .ret d)) : Gives C (lv + 1) n ds d := by
  obtain ⟨a, o, pm, cd, doc, hg, ho, hd, hc⟩ := fn.there
  refine ⟨a, o, _, hg, ho, hd, fun A l O s vs Q E Rm S hO r k => wpAny_call (enter ok pl hlen ho hd hc Rm S hO r fun P h₁ tk e1 e2 e3 e4 _ hL Rm' F st => ?_)⟩
  refine h P _ _ _ Rm' F ⟨?_, ?_, ?_, ?_⟩
  · intro σ ow oa h' tk' q; cases q
  · intro σ ow oa h' tk' q; cases q
  · intro v d' h' tk' q r' S' c
    cases q
    have := ext_of_chg (hL _ (Nat.le_refl _)) e3 st c
    rw [e1] at this
    rw [e2] at r'
    exact k v h' tk' this r'
  · intro e cls h₁ h' tk' q; cases q

theorem Gives.of_body {d : PyData} (ok : C.Ok) (fn : IsFn C n ps body sc) (pl : Plain n ps body sc xs) (hlen : ds.length = xs.length) (h : WP C lv sc body ((xs.zip ds).reverse) none (fun r => r = .ret d)) : Gives C (lv + 1) n ds d := Gives.of_bodyC ok fn pl.c hlen h
/-- an exception that has left the frame that raised it -/
structure Fly (C : Cx) (l : List Env) (h : Heap) (cls : String) (e : Addr) (h' : Heap) : Prop where
  out : ∃ B t, C.base.StaysIn B ∧ (∀ b o, h.get? b = some o → b ∉ frsOf l → B.get? b = some o) ∧ Heap.FlyingW B l e (.type cls) (.ref t) h'
  up : h.UpToSlots h'
def Raises (C : Cx) (lv : Nat) (n : Str) (ds : List PyData) (cls : String) : Prop :=
  ∃ a o fd, C.mg n = some (.ref a) ∧ C.base.get? a = some o ∧ o.data = .func fd ∧
    ∀ (A : Around) (l : List Env) (O : List Addr) (s : Shared) (vs : List Value) (Q E : Value → Shared → Prop), Room A lv → Stk C A l s.heap → Live O s.heap → RdAll O s.heap vs ds →
      (∀ e h' tk, Fly C l s.heap cls e h' → E (.ref e) { s with heap := h', toks := tk }) → wpAny (model C.prog C.w) A (call (.ref a) vs) Q E s
theorem Raises.of_bodyC {cls : String} (ok : C.Ok) (fn : IsFn C n ps body sc) (pl : PlainC n ps body sc xs) (hlen : ds.length = xs.length) (h : WP C lv sc body ((xs.zip ds).reverse) none (fun r => r = .exc cls)) : Raises C (lv + 1) n ds cls := by
  obtain ⟨a, o, pm, cd, doc, hg, ho, hd, hc⟩ := fn.there
  refine ⟨a, o, _, hg, ho, hd, fun A l O s vs Q E Rm S hO r k => wpAny_call (enter ok pl hlen ho hd hc Rm S hO r fun P h₁ tk e1 e2 e3 e4 _ hL Rm' F st => ?_)⟩
  refine h P _ _ _ Rm' F ⟨?_, ?_, ?_, ?_⟩
  · intro σ ow oa h' tk' q; cases q
  · intro σ ow oa h' tk' q; cases q
  · intro v d' h' tk' q; cases q
  · intro e cls h₂ h' tk' q S' c mk
    cases q
    have x := ext_of_chg (hL _ (Nat.le_refl _)) e3 st c
    have hin : ∀ env ∈ P.l sc, ∀ b, env.frame = some b → b ∈ frsOf (P.l sc) := fun env he b hb => List.mem_filterMap.mpr ⟨env, he, hb⟩
    have hB : C.base.StaysIn (W.hideAll h₂ (frsOf (P.l sc))) := fun b o q => W.hideAll_get _ (S'.base b o q) fun hm => by
      rw [(S'.fun_.mem hm).1] at q; cases q
    rcases mk with ⟨args, mk⟩ | ⟨B, t, hB', hkB, hh, hu⟩
    rotate_left
    · unfold leaving
      refine wpAny_bind (wpAny_noteFrame_againW (s := { s with heap := h', toks := tk' }) rfl hh.2.2.2 ?_)
      refine wpAny_landsW (s := { s with heap := h', toks := tk' }) hh fun h₃ hfl hu' => ?_
      obtain ⟨k1, k2, ⟨_, _, k3⟩, k4⟩ := hfl
      refine k e h₃ tk' ⟨⟨B, t, hB', fun b o q m => hkB b o (x.keep b o q (e1 ▸ m)) ?_, e1 ▸ ⟨k1, k2, k3, k4⟩⟩, fun b o q f => ?_⟩
      · intro m'
        rcases List.mem_cons.mp (show b ∈ P.L :: frsOf P.outer from m') with z | z
        · rw [z, hL _ (Nat.le_refl _)] at q; cases q
        · exact m (e1 ▸ z)
      · obtain ⟨sl, e5⟩ := x.up b o q
        have := Heap.UpToSlots.trans hu hu' b _ e5 f
        exact this
    refine wpAny_leaves_madeW (s := { s with heap := h', toks := tk' }) (base := W.hideAll h₂ (frsOf (P.l sc))) S'.frames rfl (fun b o q => W.of_hideAll _ q) (W.funFrames_hide S'.fun_ hin) mk fun h₃ t x1 x2 x3 x4 => ?_
    refine k e h₃ tk' ⟨⟨_, t, hB, fun b o q m => W.hideAll_get _ (x.keep b o q (e1 ▸ m)) ?_, e1 ▸ x1⟩, fun b o q f => ?_⟩
    · intro m'
      rcases List.mem_cons.mp (show b ∈ P.L :: frsOf P.outer from m') with z | z
      · rw [z, hL _ (Nat.le_refl _)] at q; cases q
      · exact m (e1 ▸ z)
    · obtain ⟨sl, e5⟩ := x.up b o q
      have := x4 b _ (mk.keeps b _ e5) f
      exact this
theorem Raises.of_body {cls : String} (ok : C.Ok) (fn : IsFn C n ps body sc) (pl : Plain n ps body sc xs) (hlen : ds.length = xs.length) (h : WP C lv sc body ((xs.zip ds).reverse) none (fun r => r = .exc cls)) : Raises C (lv + 1) n ds cls := Raises.of_bodyC ok fn pl.c hlen h
end
end Mine

set_option maxRecDepth 100000
set_option autoImplicit false
set_option linter.unusedVariables false
namespace Mine
open PySem PySem.Calls PyProof.Rows

section
variable {C : Cx} {lv : Nat} {sc : Scope} {σ : Sg} {ow : Ow}

theorem FS.reA {P : Pt} {h : Heap} {A : Around} (F : FS C sc P h σ ow) (hA : A.frames = P.A.frames) : FS C sc { P with A := A } h σ ow := by
  obtain ⟨S, l, ob, m, hn, hv, ho⟩ := F
  refine ⟨⟨hA.trans S.frames, S.base, S.fun_, S.dicts⟩, l, ob, m, hn, hv, ?_⟩
  cases ow with
  | none => exact ho
  | some p => exact ho

theorem Sp.raise {X : Str} {np cpos pos mp : Pos} {mk : Nat} {msg : Str} {cls newId initId : String} {Φ : Res → Prop} (ok : C.Ok) (Fc : ExcCallFacts cls newId initId) (G : ExcRaiseFacts cls) (hg : C.mg X = none) (hb : C.mb X = some (.type cls)) (h : Φ (.exc cls))
    (hl : sc.names.lookup X = some .globalImplicit) (hk : sc.kind = .function) (hd : (X == ("__debug__" : Str)) = false) :
    Sp C lv sc (.Raise (some (.Call (.Name X np) [.Constant (.str msg) mk mp] [] cpos)) none pos) σ ow Φ := by
  intro P s Q E R F K
  refine wpAny_Raise_call Fc G R.handled rfl (built_at ok F hg hb hl hk hd ⟨rfl, ?_⟩)
  refine evalArgs_cons rfl ((EvAll.cons (C := C) (lv := lv) (sc := sc) (σ := σ) (ow := ow) (Ev.str) EvAll.nil) P s cpos _ _ R F fun vs h₁ t₁ x₁ r₁ => ⟨rfl, ?_, fun h' e mk => ?_⟩)
  · rw [r₁.length]; show 1 ≤ sizeLine; decide
  · exact K.exc e cls h₁ h' t₁ h (F.stk.ext x₁) (.of_ext x₁) (.inl ⟨_, mk.of⟩)

def NoExc (Φ : Res → Prop) : Res → Prop
  | .next σ ow => Φ (.next σ ow)
  | .brk σ ow => Φ (.brk σ ow)
  | .ret d => Φ (.ret d)
  | .exc _ => False
theorem Sp.tryOk {body : List Stmt} {h₀ : ExceptHandler} {hs : List ExceptHandler} {pos : Pos} {Φ : Res → Prop} (h : WP C lv sc body σ ow (NoExc Φ)) : Sp C lv sc (.Try body (h₀ :: hs) [] [] pos) σ ow Φ := by
  intro P s Q E R F K
  refine wpAny_Try_except (h P s _ _ R F ⟨?_, ?_, ?_, ?_⟩)
  · intro σ' ow' oa h' tk f F' c o
    exact wpAny_execs_nil (K.next σ' ow' oa h' tk f F' c o)
  · intro σ' ow' oa h' tk f F' c o
    exact K.brk σ' ow' oa h' tk f F' c o
  · intro v d h' tk f r S c
    exact K.ret v d h' tk f r S c
  · intro e cls h₁ h' tk f
    exact f.elim

theorem ext_of_fly {l : List Env} {A : Around} {h h' B : Heap} (S : Stk C A l h) (k : ∀ b o, h.get? b = some o → b ∉ frsOf l → B.get? b = some o) (st : B.StaysIn h') (u : h.UpToSlots h') : Ext (frsOf l) h h' :=
  ⟨fun b o e m => st b o (k b o e m), fun b o e m => by
    obtain ⟨o', es, n, e', hd⟩ := S.dicts b m
    rw [e] at e'; cases e'
    exact u b o e fun vs q => by rw [hd] at q; cases q⟩

theorem Sp.tryExc {x f T y : Str} {p fp cp ap tp yp kp hp hpos pos : Pos} {k kk : Nat} {e : Expr} {es : List Expr} {ds : List PyData} {cls : String} {Φ : Res → Prop} (ok : C.Ok) (ha : EvAll C lv sc (e :: es) σ ow ds) (hf : Raises C k f ds cls) (hk : k ≤ lv)
    (hexc : isSubtype (.type cls) (.type "BaseException") = pure true) (hnt : isSubtype (.type ((Manifest.find? cls).elim "type" fun x => x.metatype)) (.type "tuple") = pure false) (hself : isSubtype (.type cls) (.type cls) = pure true)
    (hg : C.mg T = none) (hb : C.mb T = some (.type cls)) (h : Φ (.next ((y, .bool true) :: σ) ow)) (hy : ∀ z xs, ow = some (z, xs) → z ≠ y)
    (hlf : sc.names.lookup f = some .globalImplicit) (hlT : sc.names.lookup T = some .globalImplicit) (hly : sc.names.lookup y = some .local) (hs : sc.kind = .function) (hdf : (f == ("__debug__" : Str)) = false) (hdT : (T == ("__debug__" : Str)) = false)
    (he : ∀ env, starEach (e :: es) env = (false, eval e env) :: starEach es env := by intro _; with_unfolding_all rfl)
    (hsw : ∀ env, swapsWith (.Call (.Name f fp) (e :: es) [] cp) (some (.Name x p)) ap.line env = pure false := by intro _; with_unfolding_all rfl) :
    Sp C lv sc (.Try [.Assign [.Name x p] (.Call (.Name f fp) (e :: es) [] cp) ap] [.ExceptHandler (some (.Name T tp)) none [.Assign [.Name y yp] (.Constant (.bool true) kk kp) hp] hpos] [] [] pos) σ ow Φ := by
  intro P s Q E R F K
  obtain ⟨a, o, fd, hg', ho, hdat, hcall⟩ := hf
  refine wpAny_Try_except (wpAny_execs_cons (wpAny_Assign_Name ?_ (hsw _)))
  show wpAny _ _ (do callWith cp (← eval (.Name f fp) (P.env sc)) [] (backTo cp (starEach (e :: es) (P.env sc))) (backToKw cp (keywordEach [] (P.env sc)))) _ _ s
  refine wpAny_bind (glob_at ok F hg' hlf hs hdf ?_)
  refine callWith_function (o := o) (fd := fd) (evalArgs_cons (he _) (ha P s cp _ _ R F fun vs h₁ t₁ x₁ r₁ => ?_))
  have F₁ := F.ext' x₁
  refine ⟨⟨F₁.stk.base _ _ ho, hdat⟩, ?_⟩
  refine hcall P.A (P.l sc) P.OO _ _ _ _ (R.le hk) F₁.stk (liveOO F₁) r₁ fun ex h₂ t₂ fly => ?_
  obtain ⟨⟨B, t, hB, hkeep, hfl⟩, hup⟩ := fly
  refine wpAny_looks_onW (s := { s with heap := h₂, toks := t₂ }) F₁.stk.frames rfl hfl fun h₄ hheld₄ hsm₄ => ?_
  refine wpAny_landsW (s := { s with heap := h₄, toks := t₂ }) hheld₄ fun h₅ hfl₅ hsm₅ => ?_
  have x₅ : Ext P.fs h₁ h₅ := ext_of_fly F₁.stk hkeep hfl₅.1 ((Heap.UpToSlots.trans hup hsm₄).trans hsm₅)
  have F₅ := (F₁.ext' x₅).reA (A := P.A.mark (some (.ref ex))) rfl
  obtain ⟨ob, hob, hobc⟩ := hfl₅.there
  refine wpAny_handleBy_builtin (s := { s with heap := h₅, toks := t₂ }) (X := cls) (T := cls) (b := true) hexc hnt hself (built_at (P := { P with A := P.A.mark (some (.ref ex)) }) ok F₅ hg hb hlT hs hdT ⟨rfl, ⟨ob, hob, hobc⟩, ?_⟩)
  refine lands_againW (s := { s with heap := h₅, toks := t₂ }) hfl₅ fun h₆ hfl₆ hsm₆ => ?_
  have x₆ : Ext P.fs h₁ h₆ := ext_of_fly F₁.stk hkeep hfl₆.1 (((Heap.UpToSlots.trans hup hsm₄).trans hsm₅).trans hsm₆)
  have F₆ := (F₁.ext' x₆).reA (A := P.A.mark (some (.ref ex))) rfl
  refine wpAny_execs_cons (wpAny_Assign_Name (wpAny_Constant_bool (storeName_at (P := { P with A := P.A.mark (some (.ref ex)) }) (s := { s with heap := h₆, toks := t₂ }) (d := .bool true) F₆ (.bool true) hy hly hs fun h₇ t₇ F₇ c₇ => ?_)))
  have F₇' := F₇.reA (A := P.A) rfl
  have c₇' : Chg P h₆ h₇ := ⟨c₇.keep, c₇.slot, c₇.live⟩
  exact wpAny_execs_nil (K.next _ _ P.oa h₇ t₇ h F₇' ((Chg.of_ext (x₁.trans x₆)).trans (oa := P.oa) (OaOk.refl _ _) c₇') (OaOk.refl _ _))
end
end Mine

set_option maxRecDepth 100000
set_option autoImplicit false
set_option linter.unusedVariables false
namespace Mine
open PySem PySem.Calls PyProof.Rows

section
variable {C : Cx} {lv : Nat} {sc : Scope} {σ : Sg} {ow : Ow}

/-- names take values one behind the other -/
theorem stores {P : Pt} {E : Value → Shared → Prop} (act : Str → Value → Sem Unit) (hact : ∀ x v (Q : Unit → Shared → Prop) s, wpAny (model C.prog C.w) P.A (storeName (P.env sc) x v) Q E s → wpAny (model C.prog C.w) P.A (act x v) Q E s) :
    ∀ (xs : List Str) (vs : List Value) (ds : List PyData) (σ : Sg) (s : Shared) (Q : Unit → Shared → Prop), xs.length = ds.length → FS C sc P s.heap σ ow → RdAll P.OO s.heap vs ds →
    (∀ x ∈ xs, (∀ y zs, ow = some (y, zs) → y ≠ x) ∧ sc.names.lookup x = some .local) → sc.kind = .function →
    (∀ h' tk, FS C sc P h' ((xs.zip ds).reverse ++ σ) ow → Chg P s.heap h' → Q () { s with heap := h', toks := tk }) → wpAny (model C.prog C.w) P.A (assignInOrder (xs.map act) vs) Q E s
  | [], vs, ds, σ, s, Q, hl, F, r, hx, hk, k => by
    have : ds = [] := List.eq_nil_of_length_eq_zero hl.symm
    subst this
    exact wpAny_pure (k s.heap s.toks F (Chg.refl _ _))
  | x :: xs, vs, [], σ, s, Q, hl, F, r, hx, hk, k => by cases hl
  | x :: xs, vs, d :: ds, σ, s, Q, hl, F, r, hx, hk, k => by
    obtain ⟨v, ws, rfl, r1, r2⟩ := r.inv
    show wpAny _ _ (do holding ws (act x v); assignInOrder (xs.map act) ws) Q E s
    refine wpAny_bind (wpAny_holding (hact x v _ s ?_))
    obtain ⟨S, l, ob, m, hn, hv, ho⟩ := F
    refine store_nv (hx x (.head _)).2 hn (fun h' hn' hs => ?_) (by show (sc.kind == .class || (sc.kind == .module && _)) = false; rw [hk]; rfl)
    have F' := FS.store (C := C) (sc := sc) (σ := σ) S l ob hn hv ho r1 (hx x (.head _)).1 hn' hs
    have c := Chg.same hn' hs
    refine stores act hact xs ws ds ((x, d) :: σ) { s with heap := h', toks := s.toks + 1 } Q (by simpa using hl) F' (rdAll_same hn hs (List.mem_append_right _ (.head _)) r2) (fun y hy => hx y (.tail _ hy)) hk fun h₂ tk F₂ c₂ => ?_
    exact k h₂ tk (by simpa [List.zip_cons_cons] using F₂) (c.trans (oa := P.oa) (OaOk.refl _ _) c₂)
/-- the position of a target matters not -/
theorem assign_pos {x : Str} {p : Pos} {env : Env} : assign (.Name x p) env = fun v => (do standAt p; bindName env x v) := rfl
theorem Asg.tuple2 {x y : Str} {px py pos : Pos} {kk : Nat} {d e : PyData} (hx : ∀ z zs, ow = some (z, zs) → z ≠ x ∧ z ≠ y) (hlx : sc.names.lookup x = some .local) (hly : sc.names.lookup y = some .local) (hk : sc.kind = .function) :
    Asg C sc (.Tuple [.Name x px, .Name y py] kk pos) (.tuple [d, e]) σ ow ((y, e) :: (x, d) :: σ) := by
  intro P s v Q E R F r k
  obtain ⟨t, o, vs, n, rfl, h1, h2, h3, r₂⟩ := r.tupleInv
  have ht : s.heap.IsTuple t vs := ⟨o, h1, h2, n, h3⟩
  have hsz : vs.size = 2 := by rw [← Array.length_toList, r₂.length]; rfl
  refine wpAny_assign_Tuple R.handled ht (by rw [hsz]; rfl) rfl fun h' he => ?_
  have x₁ : Ext P.fs s.heap h' := .of_stays (extBut_stays he)
  obtain ⟨v1, v2, e1, r3, r4⟩ := r₂.two
  rw [e1]
  show wpAny _ _ (do holding [v2] (assign (.Name x px) (P.env sc) v1); (do holding [] (assign (.Name y py) (P.env sc) v2); pure ())) Q E _
  refine wpAny_bind (wpAny_holding (wpAny_assign_Name (storeName_at (s := { s with heap := h' }) (F.ext' x₁) (x₁.rd r3) (fun z zs q => (hx z zs q).1) hlx hk fun h₂ t₂ F₂ c₂ => ?_)))
  have r4' : Rd P.OO h₂ v2 e := by
    obtain ⟨as, rr, kk⟩ := x₁.rd r4
    refine ⟨as, reads_on rr fun b o e q => ?_, kk⟩
    by_cases z : b = P.L
    · exfalso
      rcases q with q | ⟨_, ws, n, q⟩
      · exact kk _ q (z ▸ List.mem_append_right _ (.head _))
      · obtain ⟨_, _, _, m, ⟨o', es, ep, e', hd, _⟩, _⟩ := F.ext' x₁
        rw [z, e'] at e; cases e; rw [hd] at q; cases q
    · by_cases w : P.oa = some b
      · exfalso
        rcases q with q | ⟨q, _⟩
        · exact kk _ q (List.mem_append_left _ (by rw [w]; exact .head _))
        · obtain ⟨_, _, _, e'⟩ := (F.ext' x₁).own_off b w
          rw [e] at e'; cases e'; exact absurd (Value.type.inj q) (by decide)
      · obtain ⟨sl, e'⟩ := c₂.slot b o e z w
        exact ⟨_, e', rfl, rfl⟩
  refine wpAny_bind (wpAny_holding (wpAny_assign_Name (storeName_at (s := { s with heap := h₂, toks := t₂ }) F₂ r4' (fun z zs q => (hx z zs q).2) hly hk fun h₃ t₃ F₃ c₃ => ?_)))
  exact wpAny_pure (k h₃ t₃ F₃ (((Chg.of_ext x₁).trans (oa := P.oa) (OaOk.refl _ _) c₂).trans (oa := P.oa) (OaOk.refl _ _) c₃))
/-- the data stay under a statement's change -/
theorem Chg.rd {P : Pt} {h h' : Heap} {v : Value} {d : PyData} (F : FS C sc P h σ ow) (c : Chg P h h') : Rd P.OO h v d → Rd P.OO h' v d
  | ⟨as, rr, kk⟩ => by
    refine ⟨as, reads_on rr fun b o e q => ?_, kk⟩
    by_cases z : b = P.L
    · exfalso
      rcases q with q | ⟨_, ws, n, q⟩
      · exact kk _ q (z ▸ List.mem_append_right _ (.head _))
      · obtain ⟨_, _, _, m, ⟨o', es, ep, e', hd, _⟩, _⟩ := F
        rw [z, e'] at e; cases e; rw [hd] at q; cases q
    · by_cases w : P.oa = some b
      · exfalso
        rcases q with q | ⟨q, _⟩
        · exact kk _ q (List.mem_append_left _ (by rw [w]; exact .head _))
        · obtain ⟨_, _, _, e'⟩ := F.own_off b w
          rw [e] at e'; cases e'; exact absurd (Value.type.inj q) (by decide)
      · obtain ⟨sl, e'⟩ := c.slot b o e z w
        exact ⟨_, e', rfl, rfl⟩
theorem Asg.tuple3 {x y z : Str} {px py pz pos : Pos} {kk : Nat} {d e f : PyData} (hx : ∀ u zs, ow = some (u, zs) → u ≠ x ∧ u ≠ y ∧ u ≠ z) (hlx : sc.names.lookup x = some .local) (hly : sc.names.lookup y = some .local) (hlz : sc.names.lookup z = some .local) (hk : sc.kind = .function) :
    Asg C sc (.Tuple [.Name x px, .Name y py, .Name z pz] kk pos) (.tuple [d, e, f]) σ ow ((z, f) :: (y, e) :: (x, d) :: σ) := by
  intro P s v Q E R F r k
  obtain ⟨t, o, vs, n, rfl, h1, h2, h3, r₂⟩ := r.tupleInv
  have ht : s.heap.IsTuple t vs := ⟨o, h1, h2, n, h3⟩
  have hsz : vs.size = 3 := by rw [← Array.length_toList, r₂.length]; rfl
  refine wpAny_assign_Tuple R.handled ht (by rw [hsz]; rfl) rfl fun h' he => ?_
  have x₁ : Ext P.fs s.heap h' := .of_stays (extBut_stays he)
  obtain ⟨v1, ws, e1, r3, r5⟩ := r₂.inv
  obtain ⟨v2, v3, rfl, r4, r6⟩ := r5.two
  rw [e1]
  show wpAny _ _ (do holding [v2, v3] (assign (.Name x px) (P.env sc) v1); (do holding [v3] (assign (.Name y py) (P.env sc) v2); (do holding [] (assign (.Name z pz) (P.env sc) v3); pure ()))) Q E _
  refine wpAny_bind (wpAny_holding (wpAny_assign_Name (storeName_at (s := { s with heap := h' }) (F.ext' x₁) (x₁.rd r3) (fun z zs q => (hx z zs q).1) hlx hk fun h₂ t₂ F₂ c₂ => ?_)))
  have q4 := Chg.rd (F.ext' x₁) c₂ (x₁.rd r4)
  have q6 := Chg.rd (F.ext' x₁) c₂ (x₁.rd r6)
  refine wpAny_bind (wpAny_holding (wpAny_assign_Name (storeName_at (s := { s with heap := h₂, toks := t₂ }) F₂ q4 (fun z zs q => (hx z zs q).2.1) hly hk fun h₃ t₃ F₃ c₃ => ?_)))
  have p6 := Chg.rd F₂ c₃ q6
  refine wpAny_bind (wpAny_holding (wpAny_assign_Name (storeName_at (s := { s with heap := h₃, toks := t₃ }) F₃ p6 (fun z zs q => (hx z zs q).2.2) hlz hk fun h₄ t₄ F₄ c₄ => ?_)))
  exact wpAny_pure (k h₄ t₄ F₄ ((((Chg.of_ext x₁).trans (oa := P.oa) (OaOk.refl _ _) c₂).trans (oa := P.oa) (OaOk.refl _ _) c₃).trans (oa := P.oa) (OaOk.refl _ _) c₄))
theorem Sp.unpack {ts : List Expr} {kk : Nat} {tp pos : Pos} {e : Expr} {d : PyData} {σ' : Sg} {Φ : Res → Prop} (he : Ev C lv sc e σ ow d) (ha : Asg C sc (.Tuple ts kk tp) d σ ow σ') (h : Φ (.next σ' ow))
    (hs : ∀ P : Pt, swapsWithSole [.Tuple ts kk tp] e pos.line (P.env sc) = pure false := by intro _; with_unfolding_all rfl) (hw : ∀ P : Pt, swappedStores [.Tuple ts kk tp] e (P.env sc) = pure none := by intro _; with_unfolding_all rfl) : Sp C lv sc (.Assign [.Tuple ts kk tp] e pos) σ ow Φ := by
  intro P s Q E R F K
  refine Assign_Tuple (he P s _ _ R F fun v h₁ t₁ x₁ r₁ => ?_) (hs P) (hw P)
  exact ha P _ v _ _ R.zero (F.ext' x₁) r₁ fun h₂ t₂ F₂ c₂ => K.next _ _ P.oa h₂ t₂ h F₂ ((Chg.of_ext x₁).trans (oa := P.oa) (OaOk.refl _ _) c₂) (OaOk.refl _ _)
/-- x, y = (a, b): the stores go backwards -/
theorem Sp.swap2 {ts : List Expr} {kk : Nat} {tp pos : Pos} {e : Expr} {x y : Str} {d₁ d₂ : PyData} {Φ : Res → Prop} (he : Ev C lv sc e σ ow (.tuple [d₁, d₂])) (h : Φ (.next ((x, d₁) :: (y, d₂) :: σ) ow)) (hx : ∀ z zs, ow = some (z, zs) → z ≠ x ∧ z ≠ y) (hlx : sc.names.lookup x = some .local) (hly : sc.names.lookup y = some .local) (hk : sc.kind = .function)
    (hs : ∀ P : Pt, swapsWithSole [.Tuple ts kk tp] e pos.line (P.env sc) = pure false := by intro _; with_unfolding_all rfl) (hw : ∀ P : Pt, swappedStores [.Tuple ts kk tp] e (P.env sc) = pure (some [x, y]) := by intro _; with_unfolding_all rfl) : Sp C lv sc (.Assign [.Tuple ts kk tp] e pos) σ ow Φ := by
  intro P s Q E R F K
  refine Assign_Tuple_swapped (he P s _ _ R F fun v h₁ t₁ x₁ r₁ => ?_) (hs P) (hw P)
  obtain ⟨t, o, vs, n, rfl, h1, h2, h3, r₂⟩ := r₁.tupleInv
  have ht : h₁.IsTuple t vs := ⟨o, h1, h2, n, h3⟩
  have hsz : vs.size = 2 := by rw [← Array.length_toList, r₂.length]; rfl
  have hu := wpAny_unpackItems_tuple (prog := C.prog) (w := C.w) (A := P.A) (E := E) (s := { s with heap := h₁, toks := t₁ }) (Q := fun items s₂ => wpAny (model C.prog C.w) P.A (assignInOrder ([x, y].reverse.map fun n => bindName (P.env sc) n) items.reverse) (fun _ => Q .next) E s₂) R.handled ht fun h' he => ?_
  · rw [hsz] at hu; exact hu
  have x₂ : Ext P.fs h₁ h' := .of_stays (extBut_stays he)
  have F₂ := (F.ext' x₁).ext' x₂
  have hr := (x₂.rdAll r₂).reverse
  refine stores (C := C) (sc := sc) (ow := ow) (P := P) (fun n v => bindName (P.env sc) n v) (fun x v Q s h => wpAny_bindName h) [y, x] vs.toList.reverse [d₂, d₁] σ { s with heap := h', toks := t₁ } _ rfl F₂ hr (fun z hz => ?_) hk fun h₃ t₃ F₃ c₃ => ?_
  · simp only [List.mem_cons, List.not_mem_nil, or_false] at hz
    rcases hz with rfl | rfl
    · exact ⟨fun u zs q => (hx u zs q).2, hly⟩
    · exact ⟨fun u zs q => (hx u zs q).1, hlx⟩
  · exact K.next _ _ P.oa h₃ t₃ h F₃ ((Chg.of_ext (x₁.trans x₂)).trans (oa := P.oa) (OaOk.refl _ _) c₃) (OaOk.refl _ _)

/-- a slice -/
def pick (ds : List PyData) (lo hi st : Option Int) : List PyData := (sliceRange (sliceBounds lo hi st ds.length).1 (sliceBounds lo hi st ds.length).2.1 (sliceBounds lo hi st ds.length).2.2).filterMap (ds[·]?)
theorem RdAll.picked {O : List Addr} {h : Heap} {vs : List Value} {ds : List PyData} (r : RdAll O h vs ds) : ∀ is : List Nat, RdAll O h (is.filterMap (vs[·]?)) (is.filterMap (ds[·]?))
  | [] => .nil
  | i :: is => by
    have ih := r.picked is
    cases q : ds[i]? with
    | none =>
      have : vs[i]? = none := by
        rw [List.getElem?_eq_none_iff] at q ⊢
        rw [r.length]; exact q
      simp only [List.filterMap_cons, q, this]
      exact ih
    | some d =>
      obtain ⟨v, e, rv⟩ := r.get i d q
      simp only [List.filterMap_cons, q, e]
      exact .cons rv ih
/-- a part of a slice -/
def Prt (C : Cx) (lv : Nat) (sc : Scope) (e : Option Expr) (σ : Sg) (ow : Ow) (i : Option Int) : Prop :=
  ∀ (P : Pt) (s : Shared) (Q E : Value → Shared → Prop), Room P.A lv → FS C sc P s.heap σ ow → (∀ v h' tk, Ext P.fs s.heap h' → IsPart v i → Q v { s with heap := h', toks := tk }) → wpAny (model C.prog C.w) P.A (evalPart e (P.env sc)) Q E s
theorem Prt.none : Prt C lv sc .none σ ow .none := fun P s Q E R F k => wpAny_pure (k _ s.heap s.toks (Ext.refl _ _) .none)
theorem Prt.some {e : Expr} {i : Int} (h : Ev C lv sc e σ ow (.int i)) : Prt C lv sc (.some e) σ ow (.some i) := fun P s Q E R F k => h P s _ _ R F fun v h₁ t₁ x₁ r₁ => by
  obtain ⟨t, rfl⟩ := r₁.intInv
  exact k _ h₁ t₁ x₁ (.int _ _)
theorem Ev.slice {v : Expr} {lower upper step : Option Expr} {p pos : Pos} {ds : List PyData} {lo hi st : Option Int} (hv : Ev C lv sc v σ ow (.list ds)) (hl : Prt C lv sc lower σ ow lo) (hu : Prt C lv sc upper σ ow hi) (hs : Prt C lv sc step σ ow st) (h0 : st ≠ Option.some 0) (hsz : ds.length ≤ sizeLine)
    (ho : ∀ o j, ∃ ops, subscripted (.Slice lower upper step p) false o j = operate ops (getItem o j) := by intro _ _; with_unfolding_all exact ⟨_, rfl⟩) : Ev C lv sc (.Subscript v (.Slice lower upper step p) pos) σ ow (.list (pick ds lo hi st)) := by
  intro P s Q E R F k
  refine Subscript_ (hv P s _ _ R F fun u h₁ t₁ x₁ r₁ => ?_)
  have F₁ := F.ext' x₁
  refine wpAny_Slice (hl P _ _ _ R F₁ fun a h₂ t₂ x₂ p₂ => ?_)
  have F₂ := F₁.ext' x₂
  refine hu P _ _ _ R F₂ fun b h₃ t₃ x₃ p₃ => ?_
  have F₃ := F₂.ext' x₃
  refine hs P _ _ _ R F₃ fun c h₄ t₄ x₄ p₄ => ?_
  have F₄ := F₃.ext' x₄
  obtain ⟨l, o, vs, n, rfl, e1, e2, e3, hO, r₂⟩ := (((x₂.trans x₃).trans x₄).rd r₁).listInv
  have hL : h₄.IsList l vs := ⟨o, e1, e2, n, e3⟩
  have hsz' : vs.size ≤ sizeLine := by rw [← Array.length_toList, r₂.length]; exact hsz
  obtain ⟨ops, hops⟩ := ho (.ref l) (.ref h₄.objs.size)
  have x₅ := ((x₁.trans x₂).trans x₃).trans x₄
  refine subTail (s := { s with heap := h₄.push _, toks := t₄ }) (Heap.IsList.typeIs (s := { s with heap := h₄.push _, toks := t₄ }) (hL.push _)) slot_list_getitem.lookup (wpAny_getItem_list_slice (s := { s with heap := h₄.push { cls := .type "slice", data := .fields #[a, b, c] }, toks := t₄ }) (hL.push _) (Heap.IsSliceOf.new ..) p₂ p₃ p₄ h0 ?_ hsz') hops
  refine k _ _ t₄ ((x₅.push _).push _) (Rd.list (Heap.get?_push_size _ rfl) rfl rfl (liveOO (F₄.ext' ((Ext.refl _ _).push _))).fresh ?_)
  have e : (slicePick vs lo hi st).toList = (sliceRange (sliceBounds lo hi st ds.length).1 (sliceBounds lo hi st ds.length).2.1 (sliceBounds lo hi st ds.length).2.2).filterMap (vs.toList[·]?) := by
    have : vs.size = ds.length := by rw [← Array.length_toList, r₂.length]
    simp [slicePick, this]
  rw [e]
  exact ((((Ext.refl P.fs h₄).push _).push _).rdAll (r₂.picked _))
theorem Bin.addList {ds es : List PyData} (hsz : ds.length + es.length ≤ sizeLine) : Bin C .Add (.list ds) (.list es) (.list (ds ++ es)) := by
  intro A O s v u Q E R L _ r r' k
  obtain ⟨l, ⟨c1, d1, dt1, s1⟩, vs, n, rfl, e1, e2, e3, _, r₁⟩ := r.listInv
  obtain ⟨l2, ⟨c2, d2, dt2, s2⟩, ws, n2, rfl, f1, f2, f3, _, r₂⟩ := r'.listInv
  simp only at e2 e3 f2 f3
  subst e2 e3 f2 f3
  have h1 : vs.size = ds.length := by rw [← Array.length_toList, r₁.length]
  have h2 : ws.size = es.length := by rw [← Array.length_toList, r₂.length]
  refine concat_meets ⟨_, e1, rfl⟩ ⟨_, f1, rfl⟩ noFill_list_add seq_list_add PySem.F.slot_list_add PySem.F.entry_list_add (PySem.F.args_list_add_2 _ _) (list_addW l l2 vs ws n n2 d1 d2 s1 s2 (by omega)) ⟨e1, f1, ?_⟩
  refine k _ _ _ (stays_push _ _) (Rd.list (Heap.get?_push_size _ rfl) rfl rfl L.fresh ?_)
  rw [Array.toList_append]
  exact ((Ext.refl [] _).push _).rdAll (r₁.append r₂)
end
end Mine

set_option maxRecDepth 100000
set_option autoImplicit false
set_option linter.unusedVariables false
namespace Mine
open PySem PySem.Calls PyProof.Rows

def tyName : PyData → String
  | .none => "NoneType"
  | .bool _ => "bool"
  | .int _ => "int"
  | .str _ => "str"
  | .list _ => "list"
  | .tuple _ => "tuple"
  | .dict _ => "dict"
theorem Rd.typeIs {O : List Addr} {s : Shared} {v : Value} {d : PyData} (r : Rd O s.heap v d) : s.TypeIs v (tyName d) := by
  obtain ⟨_, r, _⟩ := r
  cases r with
  | list h1 h2 _ _ => exact ⟨_, h1, h2⟩
  | tuple h1 h2 _ _ => exact ⟨_, h1, h2⟩
  | dict h1 h2 _ _ _ => exact ⟨_, h1, h2⟩
  | _ => rfl
theorem tyName_ne (d : PyData) : (Value.type (tyName d) == Value.type "builtin_function_or_method") = false := by cases d <;> (show (Value.type _ == Value.type _) = false; simp only [tyName]; decide)

section
variable {C : Cx} {lv : Nat} {sc : Scope} {σ : Sg} {ow : Ow}
theorem typeIs_at {P : Pt} {s : Shared} {x T : Str} {p cp : Pos} {e : Expr} {d : PyData} {Tn : String} {Q E : Value → Shared → Prop} (ok : C.Ok) (R : Room P.A lv) (F : FS C sc P s.heap σ ow) (he : Ev C lv sc e σ ow d) (hg : C.mg x = none) (hb : C.mb x = some (.type "type")) (hgT : C.mg T = none) (hbT : C.mb T = some (.type Tn))
    (hl : sc.names.lookup x = some .globalImplicit) (hlT : sc.names.lookup T = some .globalImplicit) (hs : sc.kind = .function) (hd : (x == ("__debug__" : Str)) = false) (hdT : (T == ("__debug__" : Str)) = false)
    (hst : ∀ env, starEach [e] env = (false, eval e env) :: starEach [] env) (hp : ∀ env, (backTo cp (starEach [e] env)).any (·.1) = false)
    (k : ∀ h' tk, Ext P.fs s.heap h' → Q (.type (tyName d)) { s with heap := h', toks := tk }) :
    wpAny (model C.prog C.w) P.A (eval (.Call (.Name x p) [e] [] cp) (P.env sc)) Q E s := by
  refine callT ok R F hg hb (EvAll.cons he .nil hst) hl hs hd hst hp fun vs h₁ t₁ x₁ r₁ => ?_
  obtain ⟨v, rfl, r₂⟩ := r₁.one
  exact call_type_of (s := { s with heap := h₁, toks := t₁ }) (Rd.typeIs (s := { s with heap := h₁, toks := t₁ }) r₂) (tyName_ne d) (k h₁ t₁ x₁)
theorem Ev.typeIs {x T : Str} {p tp cp pos : Pos} {e : Expr} {d : PyData} {Tn : String} (ok : C.Ok) (he : Ev C lv sc e σ ow d) (hg : C.mg x = .none) (hb : C.mb x = some (.type "type")) (hgT : C.mg T = .none) (hbT : C.mb T = some (.type Tn))
    (hl : sc.names.lookup x = some .globalImplicit) (hlT : sc.names.lookup T = some .globalImplicit) (hs : sc.kind = .function) (hd : (x == ("__debug__" : Str)) = false) (hdT : (T == ("__debug__" : Str)) = false)
    (hst : ∀ env, starEach [e] env = (false, eval e env) :: starEach [] env := by intro _; with_unfolding_all rfl) (hp : ∀ env, (backTo cp (starEach [e] env)).any (·.1) = false := by intro _; with_unfolding_all rfl) :
    Ev C lv sc (.Compare (.Call (.Name x p) [e] [] cp) [.Is] [.Name T tp] pos) σ ow (.bool (decide (tyName d = Tn))) := by
  intro P s Q E R F k
  refine wpAny_Compare1 (typeIs_at ok R F he hg hb hgT hbT hl hlT hs hd hdT hst hp fun h₁ t₁ x₁ => ?_)
  refine built_at (s := { s with heap := h₁, toks := t₁ }) ok (F.ext' x₁) hgT hbT hlT hs hdT ?_
  refine wpAny_is_plain rfl ?_
  rw [show (Value.type (tyName d) == Value.type Tn) = decide (tyName d = Tn) from by by_cases h : tyName d = Tn <;> simp [h]]
  exact k _ h₁ t₁ x₁ (.bool _)
theorem Tst.typeIs {x T : Str} {p tp cp pos : Pos} {e : Expr} {d : PyData} {Tn : String} (ok : C.Ok) (he : Ev C lv sc e σ ow d) (hg : C.mg x = none) (hb : C.mb x = some (.type "type")) (hgT : C.mg T = none) (hbT : C.mb T = some (.type Tn))
    (hl : sc.names.lookup x = some .globalImplicit) (hlT : sc.names.lookup T = some .globalImplicit) (hs : sc.kind = .function) (hd : (x == ("__debug__" : Str)) = false) (hdT : (T == ("__debug__" : Str)) = false)
    (hst : ∀ env, starEach [e] env = (false, eval e env) :: starEach [] env := by intro _; with_unfolding_all rfl) (hp : ∀ env, (backTo cp (starEach [e] env)).any (·.1) = false := by intro _; with_unfolding_all rfl) :
    Tst C lv sc (.Compare (.Call (.Name x p) [e] [] cp) [.Is] [.Name T tp] pos) σ ow (decide (tyName d = Tn)) := by
  intro P s Q E R F k
  refine wpAny_isTrue_Compare1 (typeIs_at ok R F he hg hb hgT hbT hl hlT hs hd hdT hst hp fun h₁ t₁ x₁ => ?_)
  refine built_at (s := { s with heap := h₁, toks := t₁ }) ok (F.ext' x₁) hgT hbT hlT hs hdT ?_
  refine wpAny_is_plain rfl ?_
  rw [show (Value.type (tyName d) == Value.type Tn) = decide (tyName d = Tn) from by by_cases h : tyName d = Tn <;> simp [h]]
  exact wpAny_truthy_bool (k h₁ t₁ x₁)
theorem Tst.typeIsNot {x T : Str} {p tp cp pos : Pos} {e : Expr} {d : PyData} {Tn : String} (ok : C.Ok) (he : Ev C lv sc e σ ow d) (hg : C.mg x = none) (hb : C.mb x = some (.type "type")) (hgT : C.mg T = none) (hbT : C.mb T = some (.type Tn))
    (hl : sc.names.lookup x = some .globalImplicit) (hlT : sc.names.lookup T = some .globalImplicit) (hs : sc.kind = .function) (hd : (x == ("__debug__" : Str)) = false) (hdT : (T == ("__debug__" : Str)) = false)
    (hst : ∀ env, starEach [e] env = (false, eval e env) :: starEach [] env := by intro _; with_unfolding_all rfl) (hp : ∀ env, (backTo cp (starEach [e] env)).any (·.1) = false := by intro _; with_unfolding_all rfl) :
    Tst C lv sc (.Compare (.Call (.Name x p) [e] [] cp) [.IsNot] [.Name T tp] pos) σ ow (!decide (tyName d = Tn)) := by
  intro P s Q E R F k
  refine wpAny_isTrue_Compare1 (typeIs_at ok R F he hg hb hgT hbT hl hlT hs hd hdT hst hp fun h₁ t₁ x₁ => ?_)
  refine built_at (s := { s with heap := h₁, toks := t₁ }) ok (F.ext' x₁) hgT hbT hlT hs hdT ?_
  refine wpAny_isNot_plain rfl ?_
  rw [show (Value.type (tyName d) == Value.type Tn) = decide (tyName d = Tn) from by by_cases h : tyName d = Tn <;> simp [h]]
  exact wpAny_truthy_bool (k h₁ t₁ x₁)
theorem rdAll_ints {O : List Addr} {h : Heap} : ∀ {vs : List Value} {ns : List Int}, RdAll O h vs (ns.map .int) → IntsAre vs ns
  | vs, [], r => by rw [r.invNil]; exact .nil
  | vs, n :: ns, r => by
    obtain ⟨v, ws, rfl, r1, r2⟩ := r.inv
    obtain ⟨t, rfl⟩ := r1.intInv
    exact .cons _ _ (rdAll_ints r2)
theorem Cmp.inInts {x : Int} {ns : List Int} : Cmp C .In (.int x) (.tuple (ns.map .int)) (ns.any (· == x)) := by
  intro A O s v u Q E R _ _ r r' k
  obtain ⟨t, rfl⟩ := r.intInv
  obtain ⟨a, o, vs, n, rfl, h1, h2, h3, r₂⟩ := r'.tupleInv
  exact in_tuple_ints ⟨o, h1, h2, n, h3⟩ (rdAll_ints r₂) (k s.heap s.toks (stays_refl _))
end
end Mine

set_option maxRecDepth 100000
set_option autoImplicit false
set_option linter.unusedVariables false
namespace Mine
open PySem PySem.Calls PyProof.Rows

/-- the text's own, read off its statements -/
def nameAt (p : Program) (i : Nat) : Str := match p.main.body[i]? with | some (.FunctionDef n ..) => n | _ => ""
def bodyAt (p : Program) (i : Nat) : List Stmt := match p.main.body[i]? with | some (.FunctionDef _ _ b ..) => b | _ => []
def paramsAt (p : Program) (i : Nat) : Arguments := match p.main.body[i]? with | some (.FunctionDef _ a ..) => a | _ => default
def scopeAt (p : Program) (i : Nat) : Scope := match p.main.body[i]? with | some (.FunctionDef _ _ _ _ _ _ s _ _ _) => s | _ => default

def Lk (σ : Sg) (x : Str) (d : PyData) : Prop := σ.lookup x = some d
theorem Lk.here {σ : Sg} {x : Str} {d : PyData} : Lk ((x, d) :: σ) x d := by show List.lookup _ _ = _; rw [List.lookup_cons, beq_self_eq_true]
theorem Lk.there {σ : Sg} {x y : Str} {c d : PyData} (h : (x == y) = false) (k : Lk σ x d) : Lk ((y, c) :: σ) x d := by show List.lookup _ _ = _; rw [List.lookup_cons, h]; exact k

/-- the world of a text: its defs, its tables, the built-in names that it reads -/
structure Wd (C : Cx) (p : Program) (glo : List (Str × PyData)) (blt : List (Str × Value)) : Prop where
  ok : C.Ok
  fn : ∀ i, (match p.main.body[i]? with | some (.FunctionDef ..) => true | _ => false) = true → IsFn C (nameAt p i) (paramsAt p i) (bodyAt p i) (scopeAt p i)
  glo : ∀ y ∈ glo, Glo C y.1 y.2
  blt : ∀ y ∈ blt, C.mg y.1 = none ∧ C.mb y.1 = some y.2

/-- how a name is read in a scope -/
structure Gl (sc : Scope) (x : Str) : Prop where
  imp : sc.names.lookup x = some .globalImplicit
  kind : sc.kind = .function
  dbg : (x == ("__debug__" : Str)) = false
structure Lo (sc : Scope) (x : Str) : Prop where
  loc : sc.names.lookup x = some .local
  kind : sc.kind = .function
  dbg : (x == ("__debug__" : Str)) = false

abbrev I (xs : List Int) : List PyData := xs.map PyData.int
abbrev L (xs : List Int) : PyData := .list (I xs)

section
variable {C : Cx} {p : Program} {glo : List (Str × PyData)} {blt : List (Str × Value)} {lv : Nat} {sc : Scope} {σ : Sg} {ow : Ow}

theorem Bin.modP {a b : Int} (h : 0 < b) : Bin C .Mod (.int a) (.int b) (.int (a % b)) := by
  have := Bin.fmod (C := C) (a := a) (b := b) (by omega)
  rwa [Int.fmod_eq_emod_of_nonneg _ (by omega)] at this
theorem Bin.divP {a b : Int} (h : 0 < b) (h' : b < 1073741824) : Bin C .FloorDiv (.int a) (.int b) (.int (a / b)) := by
  have := Bin.fdiv (C := C) (a := a) (b := b) (by omega) (PyProof.noPylong_small (by omega))
  rwa [Int.fdiv_eq_ediv_of_nonneg _ (by omega)] at this
theorem Bin.mulL {a b : Int} (h1 : -(2 ^ 64) < a) (h2 : a < 2 ^ 64) : Bin C .Mult (.int a) (.int b) (.int (a * b)) := Bin.mul (IntMulOk.of_left (intBits_le_64 h1 h2))
theorem Bin.mulR {a b : Int} (h1 : -(2 ^ 64) < b) (h2 : b < 2 ^ 64) : Bin C .Mult (.int a) (.int b) (.int (a * b)) := Bin.mul (IntMulOk.of_right (intBits_le_64 h1 h2))
theorem Bin.addI {xs ys : List Int} (h : xs.length + ys.length ≤ sizeLine) : Bin C .Add (L xs) (L ys) (L (xs ++ ys)) := by
  have := Bin.addList (C := C) (ds := I xs) (es := I ys) (by simpa using h)
  rwa [← List.map_append] at this
theorem Itm.listI {xs : List Int} {i : Int} (h0 : 0 ≤ i) (h1 : i < xs.length) (hb : xs.length < 2 ^ 60) : Itm C (L xs) i (.int (xs.getD i.toNat 0)) :=
  Itm.list h0 (by omega) (by
    have h : i.toNat < xs.length := by omega
    simp [h])
theorem Itm.at0 {a : PyData} {ds : List PyData} : Itm C (.tuple (a :: ds)) 0 a := Itm.tuple (by decide) (by decide) rfl
theorem Itm.at1 {a b : PyData} {ds : List PyData} : Itm C (.tuple (a :: b :: ds)) 1 b := Itm.tuple (by decide) (by decide) rfl
theorem Itm.at2 {a b c : PyData} {ds : List PyData} : Itm C (.tuple (a :: b :: c :: ds)) 2 c := Itm.tuple (by decide) (by decide) rfl

theorem Ev.nm {x : Str} {pos : Pos} {d : PyData} (hσ : Lk σ x d) (l : Lo sc x) : Ev C lv sc (.Name x pos) σ ow d := Ev.name hσ l.loc l.kind l.dbg
theorem Ev.gl {x : Str} {pos : Pos} {d : PyData} (W : Wd C p glo blt) (hm : (x, d) ∈ glo) (g : Gl sc x) : Ev C lv sc (.Name x pos) σ ow d := Ev.glob W.ok (W.glo _ hm) g.imp g.kind g.dbg
theorem Ev.fn {x : Str} {q pos : Pos} {e : Expr} {es : List Expr} {ds : List PyData} {r : PyData} {k : Nat} (W : Wd C p glo blt) (ha : EvAll C lv sc (e :: es) σ ow ds) (hf : Gives C k x ds r) (hk : k ≤ lv) (g : Gl sc x)
    (he : ∀ env, starEach (e :: es) env = (false, eval e env) :: starEach es env := by intro _; with_unfolding_all rfl) : Ev C lv sc (.Call (.Name x q) (e :: es) [] pos) σ ow r := Ev.call W.ok hf ha hk g.imp g.kind g.dbg he
theorem Ev.len {x : Str} {q pos : Pos} {e : Expr} {ds : List PyData} (W : Wd C p glo blt) (hm : (x, Value.builtin "len") ∈ blt) (g : Gl sc x) (h : Ev C lv sc e σ ow (.list ds)) (hs : ds.length < 2 ^ 60)
    (he : ∀ env, starEach [e] env = (false, eval e env) :: starEach [] env := by intro _; with_unfolding_all rfl) (hp : ∀ env, (backTo pos (starEach [e] env)).any (·.1) = false := by intro _; with_unfolding_all rfl) : Ev C lv sc (.Call (.Name x q) [e] [] pos) σ ow (.int ds.length) :=
  Ev.blt W.ok (W.blt _ hm).1 (W.blt _ hm).2 (Blt.len hs) (EvAll.cons h .nil he) g.imp g.kind g.dbg he hp
theorem Ev.lenI {x : Str} {q pos : Pos} {e : Expr} {xs : List Int} (W : Wd C p glo blt) (hm : (x, Value.builtin "len") ∈ blt) (g : Gl sc x) (h : Ev C lv sc e σ ow (L xs)) (hs : xs.length < 2 ^ 60)
    (he : ∀ env, starEach [e] env = (false, eval e env) :: starEach [] env := by intro _; with_unfolding_all rfl) (hp : ∀ env, (backTo pos (starEach [e] env)).any (·.1) = false := by intro _; with_unfolding_all rfl) : Ev C lv sc (.Call (.Name x q) [e] [] pos) σ ow (.int xs.length) := by
  have := Ev.len (lv := lv) (sc := sc) (σ := σ) (ow := ow) (q := q) (pos := pos) W hm g h (by simpa using hs) he hp
  rwa [List.length_map] at this
theorem Ev.maxI {x : Str} {q pos : Pos} {e f : Expr} {a b : Int} (W : Wd C p glo blt) (hm : (x, Value.builtin "max") ∈ blt) (g : Gl sc x) (h : Ev C lv sc e σ ow (.int a)) (h' : Ev C lv sc f σ ow (.int b))
    (he : ∀ env, starEach [e, f] env = (false, eval e env) :: starEach [f] env := by intro _; with_unfolding_all rfl) (hf : ∀ env, starEach [f] env = (false, eval f env) :: starEach [] env := by intro _; with_unfolding_all rfl) (hp : ∀ env, (backTo pos (starEach [e, f] env)).any (·.1) = false := by intro _; with_unfolding_all rfl) :
    Ev C lv sc (.Call (.Name x q) [e, f] [] pos) σ ow (.int (max a b)) := by
  have := Ev.blt (lv := lv) (sc := sc) (σ := σ) (ow := ow) (p := q) (pos := pos) W.ok (W.blt _ hm).1 (W.blt _ hm).2 (Blt.max (a := a) (b := b)) (EvAll.cons h (EvAll.cons h' .nil hf) he) g.imp g.kind g.dbg he hp
  rwa [show (if b > a then b else a) = max a b by omega] at this
theorem Ev.absI {x : Str} {q pos : Pos} {e : Expr} {a : Int} (W : Wd C p glo blt) (hm : (x, Value.builtin "abs") ∈ blt) (g : Gl sc x) (h : Ev C lv sc e σ ow (.int a))
    (he : ∀ env, starEach [e] env = (false, eval e env) :: starEach [] env := by intro _; with_unfolding_all rfl) (hp : ∀ env, (backTo pos (starEach [e] env)).any (·.1) = false := by intro _; with_unfolding_all rfl) : Ev C lv sc (.Call (.Name x q) [e] [] pos) σ ow (.int a.natAbs) := by
  have := Ev.blt (lv := lv) (sc := sc) (σ := σ) (ow := ow) (p := q) (pos := pos) W.ok (W.blt _ hm).1 (W.blt _ hm).2 (Blt.abs (a := a)) (EvAll.cons h .nil he) g.imp g.kind g.dbg he hp
  rwa [show (if a < 0 then -a else a) = (a.natAbs : Int) by omega] at this
/-- a display of ints -/
def EvI (C : Cx) (lv : Nat) (sc : Scope) (es : List Expr) (σ : Sg) (ow : Ow) (xs : List Int) : Prop := EvAll C lv sc es σ ow (I xs)
theorem EvI.nil : EvI C lv sc [] σ ow [] := EvAll.nil
theorem EvI.cons {e : Expr} {es : List Expr} {x : Int} {xs : List Int} (h : Ev C lv sc e σ ow (.int x)) (h' : EvI C lv sc es σ ow xs) (he : ∀ env, starEach (e :: es) env = (false, eval e env) :: starEach es env := by intro _; with_unfolding_all rfl) : EvI C lv sc (e :: es) σ ow (x :: xs) := EvAll.cons h h' he
theorem Ev.listI {es : List Expr} {pos : Pos} {xs : List Int} (h : EvI C lv sc es σ ow xs) (hs : xs.length ≤ sizeLine) : Ev C lv sc (.List es pos) σ ow (L xs) := Ev.list h (by simpa using hs)
theorem EvNew.listI {es : List Expr} {pos : Pos} {xs : List Int} (h : EvI C lv sc es σ ow xs) (hs : xs.length ≤ sizeLine) : EvNew C lv sc (.List es pos) σ ow (I xs) := EvNew.list h (by simpa using hs)
theorem EvNew.repI {e r : Expr} {q pos : Pos} {d : Int} {n : Int} (he : Ev C lv sc e σ ow (.int d)) (hr : Ev C lv sc r σ ow (.int n)) (hn : n ≤ 2 ^ 24) (hn' : 0 ≤ n) (hst : ∀ env, starEach [e] env = (false, eval e env) :: starEach [] env := by intro _; with_unfolding_all rfl) :
    EvNew C lv sc (.BinOp (.List [e] q) .Mult r pos) σ ow (I (List.replicate n.toNat d)) := by
  have := EvNew.rep (C := C) (lv := lv) (sc := sc) (σ := σ) (ow := ow) (p := q) (pos := pos) he hr hn (by omega) hst
  simpa [I, List.map_replicate] using this
theorem pick_take (ds : List PyData) (n : Int) (h0 : 0 ≤ n) : pick ds none (some n) none = ds.take n.toNat := by
  have e : sliceBounds none (some n) none ds.length = (((0 : Nat) : Int), ((min n.toNat ds.length : Nat) : Int), 1) := by
    simp only [sliceBounds, Option.getD_none]
    have h2 : ¬ (n < 0) := by omega
    simp only [h2, if_false, show (1 : Int) > 0 by decide, if_true]
    congr 1
    congr 1; omega
  unfold pick
  rw [e]
  simp only [sliceRange_one]
  have := pick_run ds.toArray 0 (min n.toNat ds.length - 0)
  simp only [List.drop_zero, Nat.sub_zero] at this ⊢
  rw [show (fun x => ds[x]?) = (fun x => ds.toArray[x]?) from by funext x; simp]
  rw [this]
  simp only [Nat.min_def]
  split
  · rfl
  · rw [List.take_of_length_le (Nat.le_refl _), List.take_of_length_le (by omega)]
theorem pick_drop (ds : List PyData) (n : Int) (h0 : 0 ≤ n) : pick ds (some n) none none = ds.drop n.toNat := by
  have e : sliceBounds (some n) none none ds.length = (((min n.toNat ds.length : Nat) : Int), (ds.length : Int), 1) := by
    simp only [sliceBounds, Option.getD_none]
    have h2 : ¬ (n < 0) := by omega
    simp only [h2, if_false, show (1 : Int) > 0 by decide, if_true]
    congr 1
    omega
  unfold pick
  rw [e]
  simp only [sliceRange_one]
  have := pick_run ds.toArray (min n.toNat ds.length) (ds.length - min n.toNat ds.length)
  rw [show (fun x => ds[x]?) = (fun x => ds.toArray[x]?) from by funext x; simp]
  rw [this]
  simp only
  rw [List.take_of_length_le (by simp)]
  simp only [Nat.min_def]
  split
  · rfl
  · rw [List.drop_of_length_le (Nat.le_refl _), List.drop_of_length_le (by omega)]
theorem pick_all (ds : List PyData) : pick ds none none none = ds := by
  have e : sliceBounds none none none ds.length = (((0 : Nat) : Int), (ds.length : Int), 1) := by simp [sliceBounds]
  unfold pick
  rw [e]
  simp only [sliceRange_one]
  have := pick_run ds.toArray 0 (ds.length - 0)
  rw [show (fun x => ds[x]?) = (fun x => ds.toArray[x]?) from by funext x; simp]
  rw [this]
  simp
theorem filterMap_getD (ds : List PyData) : ∀ (l : List Nat), (∀ k ∈ l, k < ds.length) → l.filterMap (fun x => ds[x]?) = l.map (fun k => ds.getD k .none)
  | [], _ => rfl
  | k :: l, h => by
    have hk := h k (.head _)
    rw [List.filterMap_cons, List.map_cons, filterMap_getD ds l fun k m => h k (.tail _ m)]
    simp [hk]
theorem pick_rev (ds : List PyData) : pick ds none none (some (-1)) = ds.reverse := by
  have e : sliceBounds none none (some (-1)) ds.length = ((ds.length : Int) - 1, -1, -1) := by simp [sliceBounds]
  unfold pick
  rw [e]
  simp only [sliceRange, show ¬ ((-1 : Int) > 0) by decide, if_false]
  have hc : (if (ds.length : Int) - 1 > -1 then ((ds.length : Int) - 1 - -1 - -1 - 1) / (- -1) else 0) = (ds.length : Int) := by
    split
    · simp
    · omega
  rw [hc]
  simp only [Int.toNat_natCast]
  rw [filterMap_getD _ _ (fun k hk => by
    obtain ⟨i, hi, rfl⟩ := List.mem_map.mp hk
    simp only [List.mem_range] at hi
    omega)]
  apply List.ext_getElem
  · simp
  · intro i h1 h2
    simp only [List.length_map, List.length_range] at h1
    simp only [List.getElem_map, List.getElem_range, List.getElem_reverse]
    rw [show ((ds.length : Int) - 1 + -1 * (i : Int)).toNat = ds.length - 1 - i by omega]
    have : ds.length - 1 - i < ds.length := by omega
    simp [this]
theorem Ev.sliceI {v : Expr} {lower upper step : Option Expr} {q pos : Pos} {xs ys : List Int} {lo hi st : Option Int} (hv : Ev C lv sc v σ ow (L xs)) (hl : Prt C lv sc lower σ ow lo) (hu : Prt C lv sc upper σ ow hi) (hs : Prt C lv sc step σ ow st) (h0 : st ≠ some 0) (hsz : xs.length ≤ sizeLine)
    (hp : pick (I xs) lo hi st = I ys) (ho : ∀ o j, ∃ ops, subscripted (.Slice lower upper step q) false o j = operate ops (getItem o j) := by intro _ _; with_unfolding_all exact ⟨_, rfl⟩) : Ev C lv sc (.Subscript v (.Slice lower upper step q) pos) σ ow (L ys) := by
  have := Ev.slice (pos := pos) hv hl hu hs h0 (by simpa using hsz) ho
  rwa [hp] at this
theorem Ev.takeI {v u : Expr} {q pos : Pos} {xs : List Int} {n : Int} (hv : Ev C lv sc v σ ow (L xs)) (hu : Ev C lv sc u σ ow (.int n)) (h0 : 0 ≤ n) (hsz : xs.length ≤ sizeLine) : Ev C lv sc (.Subscript v (.Slice none (some u) none q) pos) σ ow (L (xs.take n.toNat)) :=
  Ev.sliceI hv .none (.some hu) .none (by simp) hsz (by rw [pick_take _ _ h0, I, I, List.map_take])
theorem Ev.dropI {v u : Expr} {q pos : Pos} {xs : List Int} {n : Int} (hv : Ev C lv sc v σ ow (L xs)) (hu : Ev C lv sc u σ ow (.int n)) (h0 : 0 ≤ n) (hsz : xs.length ≤ sizeLine) : Ev C lv sc (.Subscript v (.Slice (some u) none none q) pos) σ ow (L (xs.drop n.toNat)) :=
  Ev.sliceI hv (.some hu) .none .none (by simp) hsz (by rw [pick_drop _ _ h0, I, I, List.map_drop])
theorem Ev.copyI {v : Expr} {q pos : Pos} {xs : List Int} (hv : Ev C lv sc v σ ow (L xs)) (hsz : xs.length ≤ sizeLine) : Ev C lv sc (.Subscript v (.Slice none none none q) pos) σ ow (L xs) :=
  Ev.sliceI hv .none .none .none (by simp) hsz (by rw [pick_all])
theorem Ev.revI {v u : Expr} {q pos : Pos} {xs : List Int} (hv : Ev C lv sc v σ ow (L xs)) (hu : Ev C lv sc u σ ow (.int (-1))) (hsz : xs.length ≤ sizeLine) : Ev C lv sc (.Subscript v (.Slice none none (some u) q) pos) σ ow (L xs.reverse) :=
  Ev.sliceI hv .none .none (.some hu) (by simp) hsz (by rw [pick_rev, I, I, List.map_reverse])

theorem flatI {xs : List Int} : ∀ d ∈ I xs, flat d = true := fun d h => by
  obtain ⟨_, _, rfl⟩ := List.mem_map.mp h; rfl
theorem Src.listI {e : Expr} {xs : List Int} (h : Ev C lv sc e σ ow (L xs)) : Src C lv sc e σ ow (I xs) := Src.list h flatI
theorem eqv_ints : ∀ xs ys : List Int, PyData.eqvAll (I xs) (I ys) = decide (xs = ys)
  | [], [] => rfl
  | [], _ :: _ => rfl
  | _ :: _, [] => rfl
  | x :: xs, y :: ys => by
    simp only [I, List.map_cons, PyData.eqvAll, PyData.eqv]
    rw [show PyData.eqvAll (xs.map .int) (ys.map .int) = decide (xs = ys) from eqv_ints xs ys]
    by_cases h1 : x = y <;> by_cases h2 : xs = ys <;> simp [h1, h2]
theorem lay_ints : ∀ xs : List Int, PyData.canLayAll0 (I xs) = true
  | [] => rfl
  | _ :: xs => by simp only [I, List.map_cons, PyData.canLayAll0, PyData.canLay0]; rw [show PyData.canLayAll0 (xs.map .int) = true from lay_ints xs]; rfl
theorem depth_ints : ∀ xs : List Int, PyData.depthAll (I xs) = 0
  | [] => rfl
  | _ :: xs => by simp only [I, List.map_cons, PyData.depthAll, PyData.depth]; rw [show PyData.depthAll (xs.map .int) = 0 from depth_ints xs]; rfl
end
end Mine

set_option autoImplicit false
set_option linter.unusedVariables false
namespace Mine

/-- the value of limbs, the least first -/
def val : List Int → Int
  | [] => 0
  | x :: xs => x + 10000 * val xs
/-- the limbs of a number -/
def dig (n : Nat) : List Int := if n = 0 then [] else ((n % 10000 : Nat) : Int) :: dig (n / 10000)
termination_by n
decreasing_by omega
theorem dig_zero : dig 0 = [] := by rw [dig]; simp
theorem dig_pos {n : Nat} (h : 0 < n) : dig n = ((n % 10000 : Nat) : Int) :: dig (n / 10000) := by
  rw [dig]; rw [if_neg (by omega)]
def Lim (xs : List Int) : Prop := ∀ x ∈ xs, 0 ≤ x ∧ x < 10000
def Nz (xs : List Int) : Prop := xs.getLast? ≠ some 0

theorem val_dig (n : Nat) : val (dig n) = (n : Int) := by
  induction n using Nat.strongRecOn with
  | _ n ih =>
    by_cases h : n = 0
    · subst h; rw [dig_zero]; rfl
    · rw [dig_pos (by omega), val, ih (n / 10000) (by omega)]; omega
theorem lim_dig (n : Nat) : Lim (dig n) := by
  induction n using Nat.strongRecOn with
  | _ n ih =>
    by_cases h : n = 0
    · subst h; rw [dig_zero]; intro x hx; cases hx
    · rw [dig_pos (by omega)]
      intro x hx
      rcases List.mem_cons.mp hx with rfl | hx
      · omega
      · exact ih (n / 10000) (by omega) x hx
theorem dig_nil_iff {n : Nat} : dig n = [] ↔ n = 0 := by
  constructor
  · intro h
    by_cases q : n = 0
    · exact q
    · rw [dig_pos (by omega)] at h; cases h
  · rintro rfl; exact dig_zero
theorem nz_dig (n : Nat) : Nz (dig n) := by
  induction n using Nat.strongRecOn with
  | _ n ih =>
    by_cases h : n = 0
    · subst h; rw [dig_zero]; intro q; cases q
    · rw [dig_pos (by omega)]
      unfold Nz
      by_cases q : n / 10000 = 0
      · rw [q, dig_zero]
        simp only [List.getLast?_singleton]
        intro e
        have := Option.some.inj e
        omega
      · have := ih (n / 10000) (by omega)
        unfold Nz at this
        obtain ⟨y, ys, e⟩ : ∃ y ys, dig (n / 10000) = y :: ys := by
          cases z : dig (n / 10000) with
          | nil => exact absurd (dig_nil_iff.mp z) q
          | cons y ys => exact ⟨y, ys, rfl⟩
        rw [e] at this ⊢
        rwa [List.getLast?_cons_cons]
theorem val_nonneg {xs : List Int} (h : Lim xs) : 0 ≤ val xs := by
  induction xs with
  | nil => exact Int.le_refl _
  | cons x xs ih =>
    have h1 := h x (.head _)
    have h2 := ih fun y hy => h y (.tail _ hy)
    unfold val; omega
theorem Lim.tail {x : Int} {xs : List Int} (h : Lim (x :: xs)) : Lim xs := fun y hy => h y (.tail _ hy)
theorem Lim.head {x : Int} {xs : List Int} (h : Lim (x :: xs)) : 0 ≤ x ∧ x < 10000 := h x (.head _)
theorem Lim.nil : Lim [] := fun _ h => nomatch h
theorem Lim.cons {x : Int} {xs : List Int} (h0 : 0 ≤ x) (h1 : x < 10000) (h : Lim xs) : Lim (x :: xs) := fun y hy => by
  rcases List.mem_cons.mp hy with rfl | hy
  · exact ⟨h0, h1⟩
  · exact h y hy
theorem Lim.append {xs ys : List Int} (h : Lim xs) (h' : Lim ys) : Lim (xs ++ ys) := fun y hy => (List.mem_append.mp hy).elim (h y) (h' y)
theorem Lim.of_append_left {xs ys : List Int} (h : Lim (xs ++ ys)) : Lim xs := fun y hy => h y (List.mem_append_left _ hy)
theorem Lim.snoc {x : Int} {xs : List Int} (h : Lim xs) (h0 : 0 ≤ x) (h1 : x < 10000) : Lim (xs ++ [x]) := h.append (Lim.cons h0 h1 Lim.nil)
theorem Lim.take {xs : List Int} (h : Lim xs) (n : Nat) : Lim (xs.take n) := fun y hy => h y (List.mem_of_mem_take hy)
theorem Lim.drop {xs : List Int} (h : Lim xs) (n : Nat) : Lim (xs.drop n) := fun y hy => h y (List.mem_of_mem_drop hy)
theorem Lim.getD {xs : List Int} (h : Lim xs) (i : Nat) : 0 ≤ xs.getD i 0 ∧ xs.getD i 0 < 10000 := by
  by_cases q : i < xs.length
  · have : xs.getD i 0 = xs[i] := by simp [q]
    rw [this]; exact h _ (List.getElem_mem q)
  · have : xs.getD i 0 = 0 := by simp [Nat.le_of_not_lt q]
    rw [this]; decide
theorem val_pos {xs : List Int} (h : Lim xs) (hz : Nz xs) (hne : xs ≠ []) : 0 < val xs := by
  induction xs with
  | nil => exact absurd rfl hne
  | cons x xs ih =>
    have h1 := h.head
    cases xs with
    | nil =>
      have : x ≠ 0 := fun e => hz (by rw [e]; rfl)
      show 0 < x + 10000 * 0; omega
    | cons y ys =>
      have := ih h.tail (by unfold Nz at hz ⊢; rwa [List.getLast?_cons_cons] at hz) (by simp)
      show 0 < x + 10000 * val (y :: ys); omega
/-- limbs are those of their value -/
theorem dig_val {xs : List Int} (h : Lim xs) (hz : Nz xs) : dig (val xs).toNat = xs := by
  induction xs with
  | nil => exact dig_zero
  | cons x xs ih =>
    have hp := val_pos h hz (by simp)
    have h1 := h.head
    have h2 := val_nonneg h.tail
    have hz' : Nz xs := by
      cases xs with
      | nil => intro e; cases e
      | cons y ys => unfold Nz at hz ⊢; rwa [List.getLast?_cons_cons] at hz
    have ev : val (x :: xs) = x + 10000 * val xs := rfl
    rw [ev] at hp ⊢
    rw [dig_pos (by omega)]
    have e1 : (((x + 10000 * val xs).toNat % 10000 : Nat) : Int) = x := by omega
    have e2 : (x + 10000 * val xs).toNat / 10000 = (val xs).toNat := by omega
    rw [e1, e2, ih h.tail hz']
theorem val_inj {xs ys : List Int} (h : Lim xs) (hz : Nz xs) (h' : Lim ys) (hz' : Nz ys) (e : val xs = val ys) : xs = ys := by
  rw [← dig_val h hz, ← dig_val h' hz', e]
theorem eq_dig {xs : List Int} {n : Nat} (h : Lim xs) (hz : Nz xs) (e : val xs = n) : xs = dig n := by
  rw [← dig_val h hz, e]; simp

def trim : List Int → List Int
  | [] => []
  | x :: xs => match trim xs with
    | [] => if x = 0 then [] else [x]
    | y :: ys => x :: y :: ys
theorem trim_val (xs : List Int) : val (trim xs) = val xs := by
  induction xs with
  | nil => rfl
  | cons x xs ih =>
    unfold trim
    split
    · rename_i e
      rw [e] at ih
      split
      · rename_i z; subst z; show (0 : Int) = 0 + 10000 * val xs; rw [← ih]; rfl
      · show x + 10000 * 0 = x + 10000 * val xs; rw [← ih]; rfl
    · rename_i y ys e
      show x + 10000 * val (y :: ys) = x + 10000 * val xs
      rw [← ih, e]
theorem trim_lim {xs : List Int} (h : Lim xs) : Lim (trim xs) := by
  induction xs with
  | nil => exact h
  | cons x xs ih =>
    have ih := ih h.tail
    unfold trim
    split
    · split
      · exact Lim.nil
      · exact Lim.cons h.head.1 h.head.2 Lim.nil
    · rename_i y ys e
      rw [e] at ih
      exact Lim.cons h.head.1 h.head.2 ih
theorem trim_nz (xs : List Int) : Nz (trim xs) := by
  induction xs with
  | nil => intro e; cases e
  | cons x xs ih =>
    unfold trim
    split
    · split
      · intro e; cases e
      · rename_i z
        intro e
        exact z (Option.some.inj e)
    · rename_i y ys e
      rw [e] at ih
      unfold Nz at ih ⊢
      rwa [List.getLast?_cons_cons]
theorem trim_eq {xs : List Int} {n : Nat} (h : Lim xs) (e : val xs = n) : trim xs = dig n := eq_dig (trim_lim h) (trim_nz xs) (by rw [trim_val, e])
theorem trim_self {xs : List Int} (hz : Nz xs) : trim xs = xs := by
  induction xs with
  | nil => rfl
  | cons x xs ih =>
    have hz' : Nz xs := by
      cases xs with
      | nil => intro e; cases e
      | cons y ys => unfold Nz at hz ⊢; rwa [List.getLast?_cons_cons] at hz
    unfold trim
    rw [ih hz']
    cases xs with
    | nil =>
      have : x ≠ 0 := fun e => hz (by rw [e]; rfl)
      simp [this]
    | cons y ys => rfl
theorem trim_zeros {xs : List Int} (h : ∀ j, xs.getD j 0 = 0) : trim xs = [] := by
  induction xs with
  | nil => rfl
  | cons x xs ih =>
    have h0 := h 0
    have := ih fun j => by simpa using h (j + 1)
    unfold trim
    rw [this]
    simp at h0
    simp [h0]
theorem trim_take : ∀ (xs : List Int) (n : Nat), n ≤ xs.length → (∀ j, n ≤ j → xs.getD j 0 = 0) → (n = 0 ∨ xs.getD (n - 1) 0 ≠ 0) → xs.take n = trim xs
  | [], n, h, _, _ => by simp at h; subst h; rfl
  | x :: xs, 0, _, h, _ => by rw [trim_zeros fun j => h j (Nat.zero_le _)]; rfl
  | x :: xs, n + 1, hl, h, h' => by
    have hl' : n ≤ xs.length := by simpa using hl
    have h1 : ∀ j, n ≤ j → xs.getD j 0 = 0 := fun j hj => by simpa using h (j + 1) (by omega)
    have h2 : x :: xs.take n = x :: xs.take n := rfl
    rw [List.take_succ_cons]
    unfold trim
    by_cases q : n = 0
    · subst q
      rw [trim_zeros fun j => h1 j (Nat.zero_le _)]
      rcases h' with h' | h'
      · cases h'
      · simp at h'
        simp [h']
    · have ih := trim_take xs n hl' h1 (.inr (by
        rcases h' with h' | h'
        · cases h'
        · obtain ⟨m, rfl⟩ : ∃ m, n = m + 1 := ⟨n - 1, by omega⟩
          simpa using h'))
      rw [← ih]
      obtain ⟨m, rfl⟩ : ∃ m, n = m + 1 := ⟨n - 1, by omega⟩
      cases xs with
      | nil => simp at hl'
      | cons y ys => simp
theorem val_append (xs ys : List Int) : val (xs ++ ys) = val xs + 10000 ^ xs.length * val ys := by
  induction xs with
  | nil => simp [val]
  | cons x xs ih =>
    rw [List.cons_append, val, ih, val, List.length_cons, Int.pow_succ, Int.mul_add]
    have : (10000 : Int) ^ xs.length * 10000 * val ys = 10000 * (10000 ^ xs.length * val ys) := by
      rw [Int.mul_comm ((10000 : Int) ^ xs.length) 10000, Int.mul_assoc]
    omega
theorem val_snoc (xs : List Int) (x : Int) : val (xs ++ [x]) = val xs + 10000 ^ xs.length * x := by
  rw [val_append]; simp [val]
theorem val_lt {xs : List Int} (h : Lim xs) : val xs < 10000 ^ xs.length := by
  induction xs with
  | nil => simp [val]
  | cons x xs ih =>
    have := ih h.tail
    have := h.head
    rw [val, List.length_cons, Int.pow_succ]; omega
theorem pow_pos' (n : Nat) : (0 : Int) < 10000 ^ n := Int.pow_pos (by decide)
theorem len_dig {n k : Nat} (h : n < 10000 ^ k) : (dig n).length ≤ k := by
  induction k generalizing n with
  | zero =>
    have : n = 0 := by simpa using h
    subst this; rw [dig_zero]; exact Nat.le_refl _
  | succ k ih =>
    by_cases q : n = 0
    · subst q; rw [dig_zero]; exact Nat.zero_le _
    · rw [dig_pos (by omega), List.length_cons]
      have := ih (n := n / 10000) (by rw [Nat.pow_succ] at h; omega)
      omega
/-- what is small enough -/
def big : Nat := 10000 ^ 25
theorem len_big {n : Nat} (h : n < big) : (dig n).length ≤ 25 := len_dig h
theorem big_is : big = 10000000000000000000000000000000000000000000000000000000000000000000000000000000000000000000000000000 := by decide
theorem take_succ_getD (xs : List Int) (i : Nat) (h : i < xs.length) : xs.take (i + 1) = xs.take i ++ [xs.getD i 0] := by
  rw [List.take_add_one]
  simp [h]
theorem last_zero_val {xs : List Int} (h : Lim xs) (e : xs.getLast? = some 0) : val xs < 10000 ^ (xs.length - 1) := by
  obtain ⟨ys, rfl⟩ := List.getLast?_eq_some_iff.mp e
  rw [val_snoc]
  have := val_lt (h.of_append_left)
  simpa using this
theorem nz_of_ge {xs : List Int} (h : Lim xs) (hv : xs ≠ [] → 10000 ^ (xs.length - 1) ≤ val xs) : Nz xs := fun e => by
  have h1 := last_zero_val h e
  have h2 := hv (by intro q; rw [q] at e; cases e)
  omega
theorem dig_ge {n : Nat} (h : 0 < n) : (10000 : Int) ^ ((dig n).length - 1) ≤ n := by
  induction n using Nat.strongRecOn with
  | _ n ih =>
    rw [dig_pos h, List.length_cons, Nat.add_sub_cancel]
    by_cases q : n / 10000 = 0
    · rw [q, dig_zero]
      show (10000 : Int) ^ 0 ≤ n
      rw [Int.pow_zero]; omega
    · have := ih (n / 10000) (by omega) (by omega)
      have hl : 0 < (dig (n / 10000)).length := List.length_pos_iff.mpr fun e => q (dig_nil_iff.mp e)
      obtain ⟨k, hk⟩ : ∃ k, (dig (n / 10000)).length = k + 1 := ⟨(dig (n / 10000)).length - 1, by omega⟩
      rw [hk] at this ⊢
      rw [Nat.add_sub_cancel] at this
      rw [Int.pow_succ]
      omega
theorem pow_mono {i j : Nat} (h : i ≤ j) : (10000 : Int) ^ i ≤ 10000 ^ j := by
  obtain ⟨k, rfl⟩ := Nat.exists_eq_add_of_le h
  rw [Int.pow_add]
  have h1 := pow_pos' i
  have h2 := pow_pos' k
  have := Int.mul_le_mul_of_nonneg_left (show (1 : Int) ≤ 10000 ^ k by omega) (Int.le_of_lt h1)
  omega
theorem dig_lt (n : Nat) : (n : Int) < 10000 ^ (dig n).length := by
  have := val_lt (lim_dig n)
  rwa [val_dig] at this
theorem len_lt {m n : Nat} (h : (dig m).length < (dig n).length) : m < n := by
  have hn : 0 < n := by
    by_cases q : n = 0
    · subst q; rw [dig_zero] at h; simp at h
    · omega
  have h1 := dig_lt m
  have h2 := dig_ge hn
  have h3 := pow_mono (show (dig m).length ≤ (dig n).length - 1 by omega)
  omega
theorem len_le {m n : Nat} (h : m ≤ n) : (dig m).length ≤ (dig n).length := by
  by_cases q : (dig n).length < (dig m).length
  · have := len_lt q; omega
  · omega
theorem getD_cons_succ' (x : Int) (xs : List Int) (j : Nat) : (x :: xs).getD (j + 1) 0 = xs.getD j 0 := by simp
theorem ext_getD : ∀ {xs ys : List Int}, xs.length = ys.length → (∀ j : Nat, xs.getD j 0 = ys.getD j 0) → xs = ys
  | [], [], _, _ => rfl
  | [], _ :: _, h, _ => by simp at h
  | _ :: _, [], h, _ => by simp at h
  | x :: xs, y :: ys, h, k => by
    have h0 := k 0
    simp at h0
    have e : xs = ys := ext_getD (by simpa using h) fun j => by simpa using k (j + 1)
    rw [h0, e]
/-- the greatest place that differs decides -/
theorem val_lt_of_top : ∀ {xs ys : List Int} {i : Nat}, xs.length = ys.length → Lim xs → Lim ys → (∀ j, i < j → xs.getD j 0 = ys.getD j 0) → xs.getD i 0 < ys.getD i 0 → val xs < val ys
  | [], [], i, _, _, _, _, h => by simp at h
  | [], _ :: _, _, h, _, _, _, _ => by simp at h
  | _ :: _, [], _, h, _, _, _, _ => by simp at h
  | x :: xs, y :: ys, 0, hl, hx, hy, he, h => by
    have e : xs = ys := ext_getD (by simpa using hl) fun j => by simpa using he (j + 1) (by omega)
    subst e
    simp at h
    unfold val; omega
  | x :: xs, y :: ys, i + 1, hl, hx, hy, he, h => by
    have := val_lt_of_top (xs := xs) (ys := ys) (i := i) (by simpa using hl) hx.tail hy.tail (fun j hj => by simpa using he (j + 1) (by omega)) (by simpa using h)
    have h1 := hx.head
    have h2 := hy.head
    unfold val; omega
theorem take_of_ge (xs : List Int) {i : Nat} (h : xs.length ≤ i) : xs.take i = xs := List.take_of_length_le h
/-- one more limb of a number that may be shorter -/
theorem val_take_succ (xs : List Int) (i : Nat) : val (xs.take (i + 1)) = val (xs.take i) + 10000 ^ i * xs.getD i 0 := by
  by_cases h : i < xs.length
  · rw [take_succ_getD xs i h, val_snoc]
    rw [List.length_take, Nat.min_eq_left (Nat.le_of_lt h)]
  · rw [take_of_ge xs (by omega), take_of_ge xs (by omega)]
    have : xs.getD i 0 = 0 := by simp [Nat.le_of_not_lt h]
    rw [this]; omega
theorem getD_ge {xs : List Int} {i : Nat} (h : xs.length ≤ i) : xs.getD i 0 = 0 := by simp [h]
theorem snoc_nz {xs : List Int} {x : Int} (h : x ≠ 0) : Nz (xs ++ [x]) := by unfold Nz; simp [h]
end Mine

set_option maxRecDepth 100000
set_option autoImplicit false
set_option linter.unusedVariables false
namespace Mine
open PySem PySem.Calls PyProof.Rows

section
variable {C : Cx} {p : Program} {glo : List (Str × PyData)} {blt : List (Str × Value)} {lv : Nat} {sc : Scope} {σ : Sg} {ow : Ow} {rest : List Stmt} {Φ : Res → Prop}

/-- the owned list bears another name -/
def Off (ow : Ow) (x : Str) : Prop := ∀ y xs, ow = some (y, xs) → y ≠ x
theorem Off.none {x : Str} : Off none x := fun _ _ e => by cases e
theorem Off.some {x y : Str} {xs : List PyData} (h : (y == x) = false) : Off (some (y, xs)) x := fun _ _ e => by cases e; exact beq_eq_false_iff_ne.mp h

theorem WP.asg {x : Str} {q pos : Pos} {e : Expr} {d : PyData} (he : Ev C lv sc e σ ow d) (l : Lo sc x) (o : Off ow x) (h : WP C lv sc rest ((x, d) :: σ) ow Φ)
    (hs : ∀ env, swapsWith e (some (.Name x q)) pos.line env = pure false := by intro _; with_unfolding_all rfl) : WP C lv sc (.Assign [.Name x q] e pos :: rest) σ ow Φ := WP.cons (Sp.assign he h o l.loc l.kind hs)
theorem WP.aug {x : Str} {q pos : Pos} {op : Operator} {e : Expr} {d₀ d₁ d : PyData} (hσ : Lk σ x d₀) (he : Ev C lv sc e σ ow d₁) (hb : Aug C op d₀ d₁ d) (l : Lo sc x) (o : Off ow x) (h : WP C lv sc rest ((x, d) :: σ) ow Φ) :
    WP C lv sc (.AugAssign (.Name x q) op e pos :: rest) σ ow Φ := WP.cons (Sp.aug hσ he hb h o l.loc l.kind)
theorem WP.ret {e : Expr} {pos : Pos} {d : PyData} (he : Ev C lv sc e σ ow d) (h : Φ (.ret d)) : WP C lv sc (.Return (some e) pos :: rest) σ ow Φ := WP.cons (Sp.ret he h)
theorem WP.brk {pos : Pos} (h : Φ (.brk σ ow)) : WP C lv sc (.Break pos :: rest) σ ow Φ := WP.cons (Sp.brk h)
theorem WP.ite {t : Expr} {b : Bool} {body orelse : List Stmt} {pos : Pos} (ht : Tst C lv sc t σ ow b) (h1 : b = true → WP C lv sc body σ ow (Then C lv sc rest Φ)) (h2 : b = false → WP C lv sc orelse σ ow (Then C lv sc rest Φ)) : WP C lv sc (.If t body orelse pos :: rest) σ ow Φ := WP.cons (Sp.ite ht h1 h2)
theorem WP.ifT {t : Expr} {body orelse : List Stmt} {pos : Pos} (ht : Tst C lv sc t σ ow true) (h1 : WP C lv sc body σ ow (Then C lv sc rest Φ)) : WP C lv sc (.If t body orelse pos :: rest) σ ow Φ := WP.cons (Sp.ite ht (fun _ => h1) (fun e => by cases e))
theorem WP.ifF {t : Expr} {body orelse : List Stmt} {pos : Pos} (ht : Tst C lv sc t σ ow false) (h2 : WP C lv sc orelse σ ow (Then C lv sc rest Φ)) : WP C lv sc (.If t body orelse pos :: rest) σ ow Φ := WP.cons (Sp.ite ht (fun e => by cases e) (fun _ => h2))
theorem WP.skip {t : Expr} {body : List Stmt} {pos : Pos} (ht : Tst C lv sc t σ ow false) (h2 : WP C lv sc rest σ ow Φ) : WP C lv sc (.If t body [] pos :: rest) σ ow Φ := WP.ifF ht (WP.nil h2)
theorem WP.while {t : Expr} {body : List Stmt} {pos : Pos} (J : Nat → Sg → Ow → Prop) (n : Nat) (h0 : J n σ ow)
    (turn : ∀ n σ ow, J n σ ow → ∃ b, Tst C lv sc t σ ow b ∧ (b = false → WP C lv sc rest σ ow Φ) ∧ (b = true → WP C lv sc body σ ow (Loop (fun σ' ow' => ∃ m, m < n ∧ J m σ' ow') (Then C lv sc rest Φ)))) :
    WP C lv sc (.While t body [] pos :: rest) σ ow Φ := WP.cons (Sp.while J n h0 turn)
theorem WP.for {t e : Expr} {body : List Stmt} {pos : Pos} {ds : List PyData} (J : List PyData → Sg → Ow → Prop) (hs : Src C lv sc e σ ow ds) (h0 : J ds σ ow)
    (turn : ∀ d r σ ow, J (d :: r) σ ow → ∃ σ', Asg C sc t d σ ow σ' ∧ WP C lv sc body σ' ow (Loop (J r) (Then C lv sc rest Φ))) (done : ∀ σ ow, J [] σ ow → WP C lv sc rest σ ow Φ)
    (hset : ∀ env x, foldedSetIterable e env x = pure x := by intro _ _; with_unfolding_all rfl) (hgo : ∀ it v, letOwnedTupleGo t it v = pure () := by intro _ _; with_unfolding_all rfl) : WP C lv sc (.For t e body [] pos :: rest) σ ow Φ := WP.cons (Sp.for J hs h0 turn done hset hgo)
theorem Asg.nm {x : Str} {q : Pos} {d : PyData} (l : Lo sc x) (o : Off ow x) : Asg C sc (.Name x q) d σ ow ((x, d) :: σ) := Asg.name o l.loc l.kind
theorem WP.own {x : Str} {q pos : Pos} {e : Expr} {ds : List PyData} (he : EvNew C lv sc e σ none ds) (l : Lo sc x) (h : WP C lv sc rest (del σ x) (some (x, ds)) Φ)
    (hs : ∀ env, swapsWith e (some (.Name x q)) pos.line env = pure false := by intro _; with_unfolding_all rfl) : WP C lv sc (.Assign [.Name x q] e pos :: rest) σ none Φ := WP.cons (Sp.own he h l.loc l.kind hs)
theorem WP.append {x : Str} {q ap cp pos : Pos} {e : Expr} {xs : List Int} {d : Int} (he : Ev C lv sc e σ (some (x, I xs)) (.int d)) (l : Lo sc x) (hsz : xs.length ≤ sizeLine) (hline : (ap.endLine == cp.line) = true) (h : WP C lv sc rest σ (some (x, I (xs ++ [d]))) Φ)
    (hfew : ∀ env, ((backTo cp (starEach [e] env)).all (fun x => !x.1) && (backToKw cp (keywordEach [] env)).all (fun x => x.1.isSome) && decide (([e] : List Expr).length + ([] : List Keyword).length + (if ([] : List Keyword).isEmpty then 0 else 1) < 30)) = true := by intro _; with_unfolding_all rfl)
    (htrees : ∀ env, backTo cp (starEach [e] env) = [(false, eval e env)] := by intro _; with_unfolding_all rfl) :
    WP C lv sc (.Expr (.Call (.Attribute (.Name x q) "append" ap) [e] [] cp) pos :: rest) σ (some (x, I xs)) Φ :=
  WP.cons (Sp.append he (by rw [I, List.map_append] at h; exact h) l.loc l.kind l.dbg (by simpa using hsz) hline hfew htrees)
theorem WP.setItem {x : Str} {q q' pos : Pos} {e i : Expr} {xs : List Int} {d : Int} {k : Int} (he : Ev C lv sc e σ (some (x, I xs)) (.int d)) (hi : Ev C lv sc i σ (some (x, I xs)) (.int k)) (h0 : 0 ≤ k) (h1 : k < xs.length) (hbig : xs.length < 2 ^ 60) (l : Lo sc x)
    (h : WP C lv sc rest σ (some (x, I (xs.set k.toNat d))) Φ) (hs : ∀ env, swapsWith e (some (.Subscript (.Name x q) i q')) pos.line env = pure false := by intro _; with_unfolding_all rfl) : WP C lv sc (.Assign [.Subscript (.Name x q) i q'] e pos :: rest) σ (some (x, I xs)) Φ :=
  WP.cons (Sp.setItem he hi h0 (by simpa using h1) (by simpa using hbig) (by rw [I, List.map_set] at h; exact h) l.loc l.kind l.dbg hs)
theorem Ev.itemOwnI {x : Str} {q pos : Pos} {slice : Expr} {xs : List Int} {i : Int} (h : Ev C lv sc slice σ (some (x, I xs)) (.int i)) (h0 : 0 ≤ i) (h1 : i < xs.length) (hb : xs.length < 2 ^ 60) (l : Lo sc x)
    (hs : ∀ o j, subscripted slice false o j = operate [o, j] (getItem o j) := by intro _ _; with_unfolding_all rfl) : Ev C lv sc (.Subscript (.Name x q) slice pos) σ (some (x, I xs)) (.int (xs.getD i.toNat 0)) :=
  Ev.itemOwn h h0 (by omega) (by
    have h : i.toNat < xs.length := by omega
    simp [h]) l.loc l.kind l.dbg hs
theorem WP.unpack2 {x y : Str} {px py tp pos : Pos} {kk : Nat} {e : Expr} {d₁ d₂ : PyData} (he : Ev C lv sc e σ ow (.tuple [d₁, d₂])) (lx : Lo sc x) (ly : Lo sc y) (ox : Off ow x) (oy : Off ow y) (h : WP C lv sc rest ((y, d₂) :: (x, d₁) :: σ) ow Φ)
    (hs : ∀ P : Pt, swapsWithSole [.Tuple [.Name x px, .Name y py] kk tp] e pos.line (P.env sc) = pure false := by intro _; with_unfolding_all rfl) (hw : ∀ P : Pt, swappedStores [.Tuple [.Name x px, .Name y py] kk tp] e (P.env sc) = pure none := by intro _; with_unfolding_all rfl) :
    WP C lv sc (.Assign [.Tuple [.Name x px, .Name y py] kk tp] e pos :: rest) σ ow Φ := WP.cons (Sp.unpack he (Asg.tuple2 (fun z zs q => ⟨ox z zs q, oy z zs q⟩) lx.loc ly.loc lx.kind) h hs hw)
theorem WP.unpack3 {x y z : Str} {px py pz tp pos : Pos} {kk : Nat} {e : Expr} {d₁ d₂ d₃ : PyData} (he : Ev C lv sc e σ ow (.tuple [d₁, d₂, d₃])) (lx : Lo sc x) (ly : Lo sc y) (lz : Lo sc z) (ox : Off ow x) (oy : Off ow y) (oz : Off ow z) (h : WP C lv sc rest ((z, d₃) :: (y, d₂) :: (x, d₁) :: σ) ow Φ)
    (hs : ∀ P : Pt, swapsWithSole [.Tuple [.Name x px, .Name y py, .Name z pz] kk tp] e pos.line (P.env sc) = pure false := by intro _; with_unfolding_all rfl) (hw : ∀ P : Pt, swappedStores [.Tuple [.Name x px, .Name y py, .Name z pz] kk tp] e (P.env sc) = pure none := by intro _; with_unfolding_all rfl) :
    WP C lv sc (.Assign [.Tuple [.Name x px, .Name y py, .Name z pz] kk tp] e pos :: rest) σ ow Φ := WP.cons (Sp.unpack he (Asg.tuple3 (fun u zs q => ⟨ox u zs q, oy u zs q, oz u zs q⟩) lx.loc ly.loc lz.loc lx.kind) h hs hw)
theorem WP.swap2 {ts : List Expr} {kk : Nat} {tp pos : Pos} {e : Expr} {x y : Str} {d₁ d₂ : PyData} (he : Ev C lv sc e σ ow (.tuple [d₁, d₂])) (lx : Lo sc x) (ly : Lo sc y) (ox : Off ow x) (oy : Off ow y) (hw : ∀ P : Pt, swappedStores [.Tuple ts kk tp] e (P.env sc) = pure (some [x, y])) (h : WP C lv sc rest ((x, d₁) :: (y, d₂) :: σ) ow Φ)
    (hs : ∀ P : Pt, swapsWithSole [.Tuple ts kk tp] e pos.line (P.env sc) = pure false := by intro _; with_unfolding_all rfl) :
    WP C lv sc (.Assign [.Tuple ts kk tp] e pos :: rest) σ ow Φ := WP.cons (Sp.swap2 he h (fun z zs q => ⟨ox z zs q, oy z zs q⟩) lx.loc ly.loc lx.kind hs hw)
theorem WP.raiseV {X : Str} {np cpos pos mp : Pos} {mk : Nat} {msg : Str} (W : Wd C p glo blt) (hm : (X, Value.type "ValueError") ∈ blt) (g : Gl sc X) (h : Φ (.exc "ValueError")) :
    WP C lv sc (.Raise (some (.Call (.Name X np) [.Constant (.str msg) mk mp] [] cpos)) none pos :: rest) σ ow Φ := WP.cons (Sp.raise W.ok PySem.F.excCall_ValueError PySem.F.excRaise_ValueError (W.blt _ hm).1 (W.blt _ hm).2 h g.imp g.kind g.dbg)
theorem WP.raiseZ {X : Str} {np cpos pos mp : Pos} {mk : Nat} {msg : Str} (W : Wd C p glo blt) (hm : (X, Value.type "ZeroDivisionError") ∈ blt) (g : Gl sc X) (h : Φ (.exc "ZeroDivisionError")) :
    WP C lv sc (.Raise (some (.Call (.Name X np) [.Constant (.str msg) mk mp] [] cpos)) none pos :: rest) σ ow Φ := WP.cons (Sp.raise W.ok PySem.F.excCall_ZeroDivisionError PySem.F.excRaise_ZeroDivisionError (W.blt _ hm).1 (W.blt _ hm).2 h g.imp g.kind g.dbg)
theorem WP.tryOk {body : List Stmt} {h₀ : ExceptHandler} {hs : List ExceptHandler} {pos : Pos} (h : WP C lv sc body σ ow (NoExc (Then C lv sc rest Φ))) : WP C lv sc (.Try body (h₀ :: hs) [] [] pos :: rest) σ ow Φ := WP.cons (Sp.tryOk h)
theorem nt_V : isSubtype (.type ((Manifest.find? "ValueError").elim "type" fun x => x.metatype)) (.type "tuple") = pure false := by
  rw [isSubtype_type]; kernel_rfl
theorem nt_Z : isSubtype (.type ((Manifest.find? "ZeroDivisionError").elim "type" fun x => x.metatype)) (.type "tuple") = pure false := by
  rw [isSubtype_type]; kernel_rfl
theorem WP.tryV {x f T y : Str} {q fp cp ap tp yp kp hp hpos pos : Pos} {k kk : Nat} {e : Expr} {es : List Expr} {ds : List PyData} (W : Wd C p glo blt) (ha : EvAll C lv sc (e :: es) σ ow ds) (hf : Raises C k f ds "ValueError") (hk : k ≤ lv) (hm : (T, Value.type "ValueError") ∈ blt) (gf : Gl sc f) (gT : Gl sc T) (ly : Lo sc y) (oy : Off ow y)
    (h : WP C lv sc rest ((y, .bool true) :: σ) ow Φ) (he : ∀ env, starEach (e :: es) env = (false, eval e env) :: starEach es env := by intro _; with_unfolding_all rfl) (hsw : ∀ env, swapsWith (.Call (.Name f fp) (e :: es) [] cp) (some (.Name x q)) ap.line env = pure false := by intro _; with_unfolding_all rfl) :
    WP C lv sc (.Try [.Assign [.Name x q] (.Call (.Name f fp) (e :: es) [] cp) ap] [.ExceptHandler (some (.Name T tp)) none [.Assign [.Name y yp] (.Constant (.bool true) kk kp) hp] hpos] [] [] pos :: rest) σ ow Φ :=
  WP.cons (Sp.tryExc W.ok ha hf hk PySem.F.isExc_ValueError nt_V PySem.F.self_ValueError (W.blt _ hm).1 (W.blt _ hm).2 h oy gf.imp gT.imp ly.loc ly.kind gf.dbg gT.dbg he hsw)
theorem WP.tryZ {x f T y : Str} {q fp cp ap tp yp kp hp hpos pos : Pos} {k kk : Nat} {e : Expr} {es : List Expr} {ds : List PyData} (W : Wd C p glo blt) (ha : EvAll C lv sc (e :: es) σ ow ds) (hf : Raises C k f ds "ZeroDivisionError") (hk : k ≤ lv) (hm : (T, Value.type "ZeroDivisionError") ∈ blt) (gf : Gl sc f) (gT : Gl sc T) (ly : Lo sc y) (oy : Off ow y)
    (h : WP C lv sc rest ((y, .bool true) :: σ) ow Φ) (he : ∀ env, starEach (e :: es) env = (false, eval e env) :: starEach es env := by intro _; with_unfolding_all rfl) (hsw : ∀ env, swapsWith (.Call (.Name f fp) (e :: es) [] cp) (some (.Name x q)) ap.line env = pure false := by intro _; with_unfolding_all rfl) :
    WP C lv sc (.Try [.Assign [.Name x q] (.Call (.Name f fp) (e :: es) [] cp) ap] [.ExceptHandler (some (.Name T tp)) none [.Assign [.Name y yp] (.Constant (.bool true) kk kp) hp] hpos] [] [] pos :: rest) σ ow Φ :=
  WP.cons (Sp.tryExc W.ok ha hf hk PySem.F.isExc_ZeroDivisionError nt_Z PySem.F.self_ZeroDivisionError (W.blt _ hm).1 (W.blt _ hm).2 h oy gf.imp gT.imp ly.loc ly.kind gf.dbg gT.dbg he hsw)
theorem Ev.ty {x T : Str} {q tp cp pos : Pos} {e : Expr} {d : PyData} {Tn : String} (W : Wd C p glo blt) (hm : (x, Value.type "type") ∈ blt) (hT : (T, Value.type Tn) ∈ blt) (g : Gl sc x) (gT : Gl sc T) (he : Ev C lv sc e σ ow d)
    (hst : ∀ env, starEach [e] env = (false, eval e env) :: starEach [] env := by intro _; with_unfolding_all rfl) (hp : ∀ env, (backTo cp (starEach [e] env)).any (·.1) = false := by intro _; with_unfolding_all rfl) : Ev C lv sc (.Compare (.Call (.Name x q) [e] [] cp) [.Is] [.Name T tp] pos) σ ow (.bool (decide (tyName d = Tn))) :=
  Ev.typeIs W.ok he (W.blt _ hm).1 (W.blt _ hm).2 (W.blt _ hT).1 (W.blt _ hT).2 g.imp gT.imp g.kind g.dbg gT.dbg hst hp
theorem Tst.ty {x T : Str} {q tp cp pos : Pos} {e : Expr} {d : PyData} {Tn : String} (W : Wd C p glo blt) (hm : (x, Value.type "type") ∈ blt) (hT : (T, Value.type Tn) ∈ blt) (g : Gl sc x) (gT : Gl sc T) (he : Ev C lv sc e σ ow d)
    (hst : ∀ env, starEach [e] env = (false, eval e env) :: starEach [] env := by intro _; with_unfolding_all rfl) (hp : ∀ env, (backTo cp (starEach [e] env)).any (·.1) = false := by intro _; with_unfolding_all rfl) : Tst C lv sc (.Compare (.Call (.Name x q) [e] [] cp) [.Is] [.Name T tp] pos) σ ow (decide (tyName d = Tn)) :=
  Tst.typeIs W.ok he (W.blt _ hm).1 (W.blt _ hm).2 (W.blt _ hT).1 (W.blt _ hT).2 g.imp gT.imp g.kind g.dbg gT.dbg hst hp
theorem Src.rng1 {x : Str} {q pos : Pos} {e : Expr} {n : Nat} (W : Wd C p glo blt) (hm : (x, Value.type "range") ∈ blt) (g : Gl sc x) (ha : Ev C lv sc e σ ow (.int n)) (hn : n < 2 ^ 60)
    (he : ∀ env, starEach [e] env = (false, eval e env) :: starEach [] env := by intro _; with_unfolding_all rfl) (hp : ∀ env, (backTo pos (starEach [e] env)).any (·.1) = false := by intro _; with_unfolding_all rfl) :
    Src C lv sc (.Call (.Name x q) [e] [] pos) σ ow (I ((List.range n).map Int.ofNat)) := by
  have := Src.range1 (C := C) (lv := lv) (sc := sc) (σ := σ) (ow := ow) (p := q) (pos := pos) (n := n) W.ok (W.blt _ hm).1 (W.blt _ hm).2 ha (small_one (by decide) (by decide) (by omega) (by omega)) (by rw [rangeSize_one]; split <;> omega) g.imp g.kind g.dbg he hp
  have e : rng 0 1 n = I ((List.range n).map Int.ofNat) := by simp [rng, I]
  rwa [e] at this
theorem small_down {n : Nat} (hn : n < 2 ^ 60) : Builtin.Range.small ((n : Int) - 1) (-1) (-1) = true := by
  have e : Builtin.Range.rangeSize ((n : Int) - 1) (-1) (-1) = (n : Int) := by
    unfold Builtin.Range.rangeSize
    rw [if_neg (by decide)]
    split
    · simp
    · omega
  unfold Builtin.Range.small
  rw [e]
  simp only [Builtin.Range.rangeFitsLong, Bool.and_eq_true, Bool.or_eq_true, decide_eq_true_eq, beq_iff_eq, show ¬ ((-1 : Int) > 0) by decide, if_false]
  omega
/-- range(n - 1, -1, -1) -/
theorem Src.rngDown {x : Str} {q pos : Pos} {e1 e2 e3 : Expr} {n : Nat} (W : Wd C p glo blt) (hm : (x, Value.type "range") ∈ blt) (g : Gl sc x) (h1 : Ev C lv sc e1 σ ow (.int ((n : Int) - 1))) (h2 : Ev C lv sc e2 σ ow (.int (-1))) (h3 : Ev C lv sc e3 σ ow (.int (-1))) (hn : n < 2 ^ 60)
    (he : ∀ env, starEach [e1, e2, e3] env = (false, eval e1 env) :: starEach [e2, e3] env := by intro _; with_unfolding_all rfl) (he2 : ∀ env, starEach [e2, e3] env = (false, eval e2 env) :: starEach [e3] env := by intro _; with_unfolding_all rfl) (he3 : ∀ env, starEach [e3] env = (false, eval e3 env) :: starEach [] env := by intro _; with_unfolding_all rfl)
    (hp : ∀ env, (backTo pos (starEach [e1, e2, e3] env)).any (·.1) = false := by intro _; with_unfolding_all rfl) :
    Src C lv sc (.Call (.Name x q) [e1, e2, e3] [] pos) σ ow (I ((List.range n).reverse.map Int.ofNat)) := by
  have := Src.range3 (C := C) (lv := lv) (sc := sc) (σ := σ) (ow := ow) (p := q) (pos := pos) (n := n) W.ok (W.blt _ hm).1 (W.blt _ hm).2 (EvAll.cons h1 (EvAll.cons h2 (EvAll.cons h3 .nil he3) he2) he) (by decide)
    (small_down (by omega)) (by
      unfold Builtin.Range.rangeSize
      rw [if_neg (by decide)]
      split
      · simp
      · omega) (PyProof.noPylong_small (by decide)) g.imp g.kind g.dbg he hp
  have e : rng ((n : Int) - 1) (-1) n = I ((List.range n).reverse.map Int.ofNat) := by
    apply List.ext_getElem
    · simp [rng]
    · intro i h1 h2
      simp only [rng, List.length_map, List.length_range] at h1
      simp [rng]; omega
  rwa [e] at this
end
end Mine

set_option maxRecDepth 100000
set_option autoImplicit false
set_option linter.unusedVariables false
namespace Mine
open PySem PySem.Calls PyProof.Rows

section
variable {C : Cx} {lv : Nat} {sc : Scope} {σ : Sg} {ow : Ow}
theorem Bin.powS {a n : Int} (h1 : -(2 ^ 64) < a) (h2 : a < 2 ^ 64) (h0 : 0 ≤ n) (hn : n ≤ 1000) : Bin C .Pow (.int a) (.int n) (.int (a ^ n.toNat)) := by
  intro A O s v u Q E R _ _ r r' k
  obtain ⟨t, rfl⟩ := r.intInv; obtain ⟨t', rfl⟩ := r'.intInv
  refine PyProof.Rows.pow_int h0 ?_ (k _ _ _ (stays_refl _) (.int _ _))
  have hb := intBits_le_64 h1 h2
  have : ((Builtin.Int.intBits a : Nat) : Int) * n ≤ 64 * 1000 := Int.mul_le_mul (by omega) hn h0 (by decide)
  omega

/-- names that hold ints, in a namespace or in cells -/
def Known (env : Env) (ρ : List (Str × Int)) (h : Heap) : Prop := ∀ x i, ρ.lookup x = some i → ∃ t, (∃ m, env.kindOf x = some .local ∧ h.Ns env.locals m ∧ m x = some (.int i t)) ∨ (∃ c, env.kindOf x = some .cell ∧ env.cells.lookup x = some c ∧ h.IsCell c (some (.int i t)))
theorem Known.stays {env : Env} {ρ : List (Str × Int)} {h h' : Heap} (K : Known env ρ h) (s : h.StaysIn h') : Known env ρ h' := fun x i e => by
  obtain ⟨t, q⟩ := K x i e
  refine ⟨t, q.imp (fun ⟨m, a, b, c⟩ => ⟨m, a, b.keeps s, c⟩) fun ⟨c, a, b, d⟩ => ⟨c, a, b, d.keeps s⟩⟩
/-- an expression of ints in such an environment -/
def NumE (C : Cx) (env : Env) (ρ : List (Str × Int)) (e : Expr) (i : Int) : Prop :=
  ∀ (A : Around) (s : Shared) (Q E : Value → Shared → Prop), Room A 0 → C.base.StaysIn s.heap → Known env ρ s.heap → (∀ t h' tk, s.heap.StaysIn h' → Q (.int i t) { s with heap := h', toks := tk }) → wpAny (model C.prog C.w) A (eval e env) Q E s
def BoolE (C : Cx) (env : Env) (ρ : List (Str × Int)) (e : Expr) (b : Bool) : Prop :=
  ∀ (A : Around) (s : Shared) (Q : Bool → Shared → Prop) (E : Value → Shared → Prop), Room A 0 → C.base.StaysIn s.heap → Known env ρ s.heap → (∀ h' tk, s.heap.StaysIn h' → Q b { s with heap := h', toks := tk }) → wpAny (model C.prog C.w) A (isTrue e env (eval e env)) Q E s
theorem stays_trans {h h' h'' : Heap} (a : h.StaysIn h') (b : h'.StaysIn h'') : h.StaysIn h'' := fun x o e => b x o (a x o e)
theorem NumE.const {env : Env} {ρ : List (Str × Int)} {i : Int} {k : Nat} {pos : Pos} : NumE C env ρ (.Constant (.int i) k pos) i := fun _ s _ _ _ _ _ k => wpAny_Constant_int (k _ _ _ (stays_refl _))
theorem NumE.name {env : Env} {ρ : List (Str × Int)} {x : Str} {i : Int} {pos : Pos} (h : ρ.lookup x = some i) (hk : env.scope.kind = .function) (hd : (x == ("__debug__" : Str)) = false) : NumE C env ρ (.Name x pos) i := by
  intro A s Q E R B K k
  obtain ⟨t, q⟩ := K x i h
  rcases q with ⟨m, a, b, c⟩ | ⟨c, a, b, d⟩
  · exact wpAny_Name (wpAny_loadName_local hk a b c (k t s.heap s.toks (stays_refl _))) hd
  · exact wpAny_Name (wpAny_loadName_cell hk a b d (k t s.heap s.toks (stays_refl _))) hd
theorem NumE.bin {env : Env} {ρ : List (Str × Int)} {l r : Expr} {op : Operator} {pos : Pos} {a b c : Int} (hl : NumE C env ρ l a) (hr : NumE C env ρ r b) (hb : Bin C op (.int a) (.int b) (.int c)) : NumE C env ρ (.BinOp l op r pos) c := by
  intro A s Q E R B K k
  refine wpAny_BinOp (hl A s _ _ R B K fun t h₁ t₁ x₁ => ?_)
  refine hr A _ _ _ R (stays_trans B x₁) (K.stays x₁) fun t' h₂ t₂ x₂ => ?_
  refine hb A [] _ _ _ _ _ R (fun _ m => nomatch m) (stays_trans B (stays_trans x₁ x₂)) (.int _ _) (.int _ _) fun x h₃ t₃ x₃ r₃ => ?_
  obtain ⟨u, rfl⟩ := r₃.intInv
  exact k u h₃ t₃ (stays_trans x₁ (stays_trans x₂ x₃))
theorem BoolE.cmp {env : Env} {ρ : List (Str × Int)} {l r : Expr} {op : CmpOp} {pos : Pos} {a b : Int} {c : Bool} (hl : NumE C env ρ l a) (hr : NumE C env ρ r b) (hb : Cmp C op (.int a) (.int b) c) (hm : behindInMarks op r = false := by with_unfolding_all rfl) : BoolE C env ρ (.Compare l [op] [r] pos) c := by
  intro A s Q E R B K k
  refine wpAny_isTrue_Compare1 (hl A s _ _ R B K fun t h₁ t₁ x₁ => ?_) hm
  refine hr A _ _ _ R (stays_trans B x₁) (K.stays x₁) fun t' h₂ t₂ x₂ => ?_
  refine hb A [] _ _ _ _ _ R (fun _ m => nomatch m) (stays_trans B (stays_trans x₁ x₂)) (.int _ _) (.int _ _) fun h₃ t₃ x₃ => ?_
  exact wpAny_truthy_bool (k h₃ t₃ (stays_trans x₁ (stays_trans x₂ x₃)))
/-- the values of a range -/
def isRng (a c : Int) (n : Nat) (vs : List Value) : Prop := vs.length = n ∧ ∀ (j : Nat) (v : Value), vs[j]? = some v → ∃ t, v = Value.int (a + (j : Int) * c) t
theorem isRng.ints {c : Int} : ∀ {vs : List Value} {a : Int} {n : Nat}, isRng a c n vs → Paired (fun (v : Value) (i : Int) => ∃ t, v = .int i t) vs ((List.range n).map fun j : Nat => a + (j : Int) * c)
  | [], a, n, ⟨h, _⟩ => by
    have : n = 0 := h.symm
    subst this; exact .nil
  | v :: vs, a, n, ⟨h, k⟩ => by
    obtain ⟨n, rfl⟩ : ∃ m, n = m + 1 := ⟨n - 1, by simp at h; omega⟩
    rw [List.range_succ_eq_map, List.map_cons, List.map_map]
    refine .cons (by simpa using k 0 v rfl) ?_
    have ih := isRng.ints (c := c) (vs := vs) (a := a + c) (n := n) ⟨by simpa using h, fun j w e => by
      obtain ⟨t, e'⟩ := k (j + 1) w (by simpa using e)
      refine ⟨t, e'.trans ?_⟩
      congr 1
      push_cast
      rw [Int.add_mul]; omega⟩
    have e : (fun j : Nat => a + c + (j : Int) * c) = ((fun j : Nat => a + (j : Int) * c) ∘ Nat.succ) := by
      funext j
      show _ = a + ((j + 1 : Nat) : Int) * c
      push_cast
      rw [Int.add_mul]; omega
    rw [← e]; exact ih
def onInt (q : Int → Bool) : Value → Bool
  | .int i _ => q i
  | _ => false
theorem paired_filter {q : Int → Bool} {f : Int → Int} : ∀ {vs : List Value} {ns : List Int} {ys : List Value}, Paired (fun (v : Value) (i : Int) => ∃ t, v = .int i t) vs ns →
    Paired (fun v y => ∃ i t t', v = .int i t ∧ y = .int (f i) t') (vs.filter (onInt q)) ys → ∀ h : Heap, ReadsAll h ys (I ((ns.filter q).map f)) []
  | [], _, ys, .nil, p, h => by
    cases p; exact .nil
  | v :: vs, i :: ns, ys, .cons ⟨t, e⟩ r, p, h => by
    subst e
    rw [List.filter_cons] at p ⊢
    by_cases c : q i = true
    · rw [if_pos (show onInt q (.int i t) = true from c)] at p
      rw [if_pos c]
      cases p with
      | cons hd tl =>
        obtain ⟨i', t1, t2, e1, e2⟩ := hd
        cases e1; subst e2
        exact ReadsAll.cons (.int _ _) (paired_filter r tl h)
    · rw [if_neg (show ¬ onInt q (.int i t) = true from c)] at p
      rw [if_neg c]
      exact paired_filter r p h
/-- a test of a comprehension -/
theorem tests_one {M : Model} {A : Around} {E : Value → Shared → Prop} {s : Shared} {env : Env} {c : Expr} {Q : Bool → Shared → Prop} (h : wpAny M A (isTrue c env (eval c env)) Q E s) :
    wpAny M A (forIn [c] true fun c r => if r = true then do let ok ← isTrue c env (eval c env); pure (ForInStep.yield ok) else pure (ForInStep.yield r)) Q E s := by
  rw [List.forIn_cons]
  simp only [if_true]
  refine wpAny_bind (wpAny_bind (wpAny_mono h (fun ok s' q => wpAny_pure ?_) fun _ _ e => e))
  show wpAny M A (forIn ([] : List Expr) ok _) Q E s'
  rw [List.forIn_nil]
  exact wpAny_pure q
theorem tests_none {M : Model} {A : Around} {E : Value → Shared → Prop} {s : Shared} {env : Env} {Q : Bool → Shared → Prop} (h : Q true s) :
    wpAny M A (forIn ([] : List Expr) true fun c r => if r = true then do let ok ← isTrue c env (eval c env); pure (ForInStep.yield ok) else pure (ForInStep.yield r)) Q E s := by
  rw [List.forIn_nil]; exact wpAny_pure h
/-- the tests of a comprehension -/
def Tests (C : Cx) (env : Env) (ρ : List (Str × Int)) (ifs : List Expr) (b : Bool) : Prop :=
  ∀ (A : Around) (s : Shared) (Q : Bool → Shared → Prop) (E : Value → Shared → Prop), Room A 0 → C.base.StaysIn s.heap → Known env ρ s.heap → (∀ h' tk, s.heap.StaysIn h' → Q b { s with heap := h', toks := tk }) →
    wpAny (model C.prog C.w) A (forIn ifs true fun c r => if r = true then do let ok ← isTrue c env (eval c env); pure (ForInStep.yield ok) else pure (ForInStep.yield r)) Q E s
theorem Tests.none {env : Env} {ρ : List (Str × Int)} : Tests C env ρ [] true := fun A s Q E _ _ _ k => tests_none (k s.heap s.toks (stays_refl _))
theorem Tests.one {env : Env} {ρ : List (Str × Int)} {c : Expr} {b : Bool} (h : BoolE C env ρ c b) : Tests C env ρ [c] b := fun A s Q E R B K k => tests_one (h A s Q E R B K k)
/-- an expression that makes a range -/
def Rng (C : Cx) (lv : Nat) (sc : Scope) (e : Expr) (σ : Sg) (ow : Ow) (a b c : Int) : Prop :=
  ∀ (P : Pt) (s : Shared) (Q E : Value → Shared → Prop), Room P.A lv → FS C sc P s.heap σ ow → (∀ r t u v h' tk, Ext P.fs s.heap h' → IsRange h' r a b c t u v → Q (.ref r) { s with heap := h', toks := tk }) → wpAny (model C.prog C.w) P.A (eval e (P.env sc)) Q E s
theorem Rng.one {p : Program} {glo : List (Str × PyData)} {blt : List (Str × Value)} {x : Str} {q pos : Pos} {e : Expr} {b : Int} (W : Wd C p glo blt) (hm : (x, Value.type "range") ∈ blt) (g : Gl sc x) (ha : Ev C lv sc e σ ow (.int b))
    (he : ∀ env, starEach [e] env = (false, eval e env) :: starEach [] env := by intro _; with_unfolding_all rfl) (hp : ∀ env, (backTo pos (starEach [e] env)).any (·.1) = false := by intro _; with_unfolding_all rfl) :
    Rng C lv sc (.Call (.Name x q) [e] [] pos) σ ow 0 b 1 := by
  intro P s Q E R F k
  refine callT W.ok R F (W.blt _ hm).1 (W.blt _ hm).2 (EvAll.cons ha .nil he) g.imp g.kind g.dbg he hp fun vs h₁ t₁ x₁ r₁ => ?_
  obtain ⟨v, rfl, r₂⟩ := r₁.one
  obtain ⟨t, rfl⟩ := r₂.intInv
  refine call_range_1 ?_
  exact k _ _ _ _ _ _ (x₁.push _) (IsRange.new ..)
theorem walks_lt {prog : Program} {w : World} {A : Around} {I : Addr} {fp wr : List Addr} {n : Nat} {P : Nat → Value → Prop} {St : Nat → Heap → Prop} (W : Walks prog w A I fp wr n P St) : Walks prog w A I fp wr n (fun i v => i < n ∧ P i v) St where
  sub := W.sub
  frame := W.frame
  item := fun i s Q E hi st k => W.item i s Q E hi st fun v h' tk hP => k v h' tk ⟨hi, hP⟩
  done := W.done
  self := W.self
theorem Ev.compRange {elt iter : Expr} {x : Str} {px pos : Pos} {ifs : List Expr} {scope : Scope} {a b c : Int} {n : Nat} (cl : Addr → List (Str × Addr)) (ρ : List (Str × Int)) (q : Int → Bool) (f : Int → Int)
    (hr : Rng C lv sc iter σ ow a b c) (hsmall : Builtin.Range.small a b c = true) (hn : Builtin.Range.rangeSize a b c = (n : Int)) (hnl : n ≤ sizeLine)
    (hclos : ∀ P : Pt, closureFor scope (P.env sc) = pure (cl P.L)) (hcell : ∀ y ∈ scope.names, y.2 ≠ .cell) (hkind : scope.kind = .function) (hnames : ∀ y ∈ scope.names, y.2 = .local → scope.names.lookup y.1 = some .local) (hx : scope.names.lookup x = some .local)
    (hρ : ∀ y i, ρ.lookup y = some i → σ.lookup y = some (.int i) ∧ sc.names.lookup y = some .cell ∧ (∀ L, ∃ c, (cellsFrom (L + 1) sc.names []).lookup y = some c ∧ (cl L).lookup y = some c) ∧ ∀ P : Pt, (relabel scope (P.env sc)).names.lookup y = some .cell)
    (htest : ∀ (P : Pt) (Cc : Addr) (j : Nat), j < n → Tests C (compEnvC scope (cl P.L) Cc (P.env sc)) ((x, a + (j : Int) * c) :: ρ) ifs (q (a + (j : Int) * c)))
    (helt : ∀ (P : Pt) (Cc : Addr) (j : Nat), j < n → q (a + (j : Int) * c) = true → NumE C (compEnvC scope (cl P.L) Cc (P.env sc)) ((x, a + (j : Int) * c) :: ρ) elt (f (a + (j : Int) * c)))
    (hs : ∀ env x, foldedSetIterable iter env x = pure x := by intro _ _; with_unfolding_all rfl) :
    Ev C lv sc (.ListComp elt [⟨.Name x px, iter, ifs, 0⟩] scope pos) σ ow (L ((((List.range n).map fun j : Nat => a + (j : Int) * c).filter q).map f)) := by
  intro P s Q E R F k
  refine wpAny_ListComp_free (onInt q) (fun v y => ∃ i t t', v = .int i t ∧ y = .int (f i) t') (hclos P) hcell hkind hnames hx ?_ (hs _)
  refine hr P s _ _ R F fun r t u v h₁ t₁ x₁ hR => ?_
  refine wpAny_pyIter_range (s := { s with heap := h₁, toks := t₁ }) hR hsmall ?_
  have F₁ := F.ext' x₁
  have up : ∀ o : Obj, h₁.StaysIn (h₁.push o) := fun o b o' e => Heap.get?_push_of_some o e
  have known : ∀ (Cc : Addr) (j : Nat) (v : Value) (s₃ : Shared) (m₃ : Str → Option Value) (o : Obj), (∃ t, v = .int (a + (j : Int) * c) t) → s₃.heap.Ns Cc m₃ → m₃ x = some v → (∀ b o', b ∉ [h₁.objs.size] → (h₁.push o).get? b = some o' → s₃.heap.get? b = some o') →
      C.base.StaysIn s₃.heap ∧ Known (compEnvC scope (cl P.L) Cc (P.env sc)) ((x, a + (j : Int) * c) :: ρ) s₃.heap := by
    intro Cc j v s₃ m₃ o hv hns hm hk
    have st : h₁.StaysIn s₃.heap := fun b o' e => hk b o' (fun m => by
      simp only [List.mem_cons, List.not_mem_nil, or_false] at m
      exact absurd (Heap.lt_size e) (by rw [m]; exact Nat.lt_irrefl _)) (up o b o' e)
    refine ⟨stays_trans F₁.stk.base st, fun y i e => ?_⟩
    rw [List.lookup_cons] at e
    by_cases z : y = x
    · subst z
      rw [beq_self_eq_true] at e; cases e
      obtain ⟨t, rfl⟩ := hv
      exact ⟨t, .inl ⟨m₃, lookup_relabel_local hx, hns, hm⟩⟩
    · rw [beq_eq_false_iff_ne.mpr z] at e
      obtain ⟨e1, e2, e3, e4⟩ := hρ y i e
      obtain ⟨_, _, _, m, hnv, hvars, _⟩ := F₁
      obtain ⟨v', hv', rv⟩ := hvars y _ e1
      obtain ⟨t, rfl⟩ := rv.intInv
      obtain ⟨_, _, _, _, _, ml, cm, _, X, qm⟩ := hnv
      obtain ⟨c', c1, c2⟩ := e3 P.L
      have : cm y = some (.int i t) := by rw [← hv', qm y, e2]; rfl
      exact ⟨t, .inr ⟨c', e4 P, c2, (this ▸ X.cell y c' c1).keeps st⟩⟩
  refine ⟨h₁.objs.size, [h₁.objs.size], [h₁.objs.size], n, _, _, rfl, walks_lt (Walks.range R.handled h₁.objs.size a c n), hnl, ?_, ?_, ⟨?_, ?_⟩, ?_⟩
  · have := Heap.get?_push_size h₁ (o := { cls := .type "range_iterator", data := .fields #[rawInt a, rawInt (n : Int), rawInt c] }) rfl
    show IsRangeIter _ _ _ _ _
    rw [hn]
    simpa [IsRangeIter] using this
  · intro b m
    simp only [List.mem_cons, List.not_mem_nil, or_false] at m
    subst m
    show _ < (h₁.push _).objs.size
    rw [Heap.size_push]; exact Nat.lt_succ_self _
  · intro Cc j v s₃ m₃ E' _ hP hns hm hk _
    obtain ⟨hj, hv⟩ := hP
    obtain ⟨K1, K2⟩ := known Cc j v s₃ m₃ _ hv hns hm hk
    obtain ⟨t, rfl⟩ := hv
    exact htest P Cc j hj P.A s₃ _ _ R.zero K1 K2 fun h' tk x => ⟨rfl, h', tk, rfl, x⟩
  · intro Cc j v s₃ m₃ E' _ hP hpv hns hm hk _
    obtain ⟨hj, hv⟩ := hP
    obtain ⟨K1, K2⟩ := known Cc j v s₃ m₃ _ hv hns hm hk
    obtain ⟨t, rfl⟩ := hv
    exact helt P Cc j hj hpv P.A s₃ _ _ R.zero K1 K2 fun t' h' tk x => ⟨⟨_, t, t', rfl, rfl⟩, h', tk, rfl, x⟩
  · intro D h' tk ys vs hD hl hpl hlen hP hF hk
    obtain ⟨o, e1, e2, n', e3⟩ := hl
    have st : h₁.StaysIn h' := fun b o' e => hk b o' (fun m => by
      simp only [List.mem_cons, List.not_mem_nil, or_false] at m
      exact absurd (Heap.lt_size e) (by rw [m]; exact Nat.lt_irrefl _)) (up _ b o' e)
    refine k (.ref D) h' tk (x₁.trans (Ext.of_stays st)) (Rd.list e1 e2 e3 (fun m => ?_) ⟨[], paired_filter (isRng.ints ⟨hlen, fun j v e => (hP j v e).2⟩) hF h', fun _ m => nomatch m⟩)
    obtain ⟨o', e'⟩ := liveOO F₁ D m
    have := up { cls := .type "range_iterator", data := .fields #[rawInt a, rawInt (Builtin.Range.rangeSize a b c), rawInt c] } D o' e'
    rw [show _ = none from hD] at this
    cases this
end
end Mine

set_option maxRecDepth 100000
set_option autoImplicit false
set_option linter.unusedVariables false
namespace Mine
open PySem PySem.Calls PyProof.Rows

theorem execs_append (pre rest : List Stmt) (env : Env) : execs (pre ++ rest) env = (execs pre env >>= fun f => match f with | .next => execs rest env | f => pure f) := by
  induction pre with
  | nil =>
    rw [List.nil_append, show execs [] env = pure Flow.next from by unfold execs; rfl, pure_bind]
  | cons s pre ih =>
    rw [List.cons_append, execs_cons, execs_cons, bind_assoc]
    congr 1
    funext f
    cases f with
    | next => exact ih
    | _ => simp only [pure_bind]
/-- the objects that are no records stay, but for their slots and for those of X -/
structure UpS (X : List Addr) (h h' : Heap) : Prop where
  slot : ∀ b o, h.get? b = some o → b ∉ X → (∀ vs, o.data ≠ .fields vs) → ∃ sl, h'.get? b = some { o with slots := sl }
  live : ∀ b o, h.get? b = some o → ∃ o', h'.get? b = some o'
theorem UpS.trans {X : List Addr} {h h' h'' : Heap} (x : UpS X h h') (y : UpS X h' h'') : UpS X h h'' :=
  ⟨fun b o e m n => let ⟨_, e'⟩ := x.slot b o e m n; let ⟨sl, e''⟩ := y.slot b _ e' m n; ⟨sl, e''⟩, fun b o e => let ⟨o', e'⟩ := x.live b o e; y.live b o' e'⟩
theorem UpS.of_chg {P : Pt} {h h' : Heap} (ha : P.oa = none) (c : Chg P h h') : UpS [P.L] h h' :=
  ⟨fun b o e m _ => c.slot b o e (fun z => m (by rw [z]; exact .head _)) (by rw [ha]; intro z; cases z), c.live⟩
theorem UpS.of_ext {fs X : List Addr} {h h' : Heap} (x : Ext fs h h') : UpS X h h' := ⟨fun b o e _ _ => x.up b o e, fun b o e => let ⟨_, e'⟩ := x.up b o e; ⟨_, e'⟩⟩
theorem UpS.more {X Y : List Addr} {h h' : Heap} (x : UpS X h h') (k : ∀ b ∈ X, b ∈ Y) : UpS Y h h' := ⟨fun b o e m n => x.slot b o e (fun q => m (k b q)) n, x.live⟩
/-- the same text, its heap at the start grown -/
abbrev Cx.on (C : Cx) (b : Heap) : Cx := { C with base := b }
theorem funFrames_re {h h' base b : Heap} (u : UpS [] h h') (hf : ∀ x, base.get? x = none → b.get? x = none) : ∀ {l : List Env}, h.FunFrames base l → h'.FunFrames b l
  | [], _ => trivial
  | _ :: _, ⟨hk, ⟨L, o, hfr, hn, ho, hd⟩, hr⟩ => let ⟨_, e⟩ := u.slot L o ho (fun m => nomatch m) hd; ⟨hk, ⟨L, _, hfr, hf L hn, e, hd⟩, funFrames_re u hf hr⟩
section
variable {C : Cx} {lv : Nat} {sc : Scope} {σ : Sg} {cd : Value} {Ψ : Heap → Prop}
theorem FS.rebase {P : Pt} {h h' b : Heap} (F : FS C sc P h σ none) (u : UpS [] h h') (hb : b.StaysIn h') (hf : ∀ x, C.base.get? x = none → b.get? x = none) : FS (C.on b) sc P h' σ none := by
  obtain ⟨S, l, ob, m, hn, hv, ho⟩ := F
  refine ⟨⟨S.frames, hb, funFrames_re u hf S.fun_, fun a q => ?_⟩, fun a q => ?_, fun a q => ?_, m, ?_, fun x d e => ?_, ho⟩
  · obtain ⟨o, es, n, e, hd⟩ := S.dicts a q
    obtain ⟨_, e'⟩ := u.slot a o e (fun m => nomatch m) (fun vs z => by rw [hd] at z; cases z)
    exact ⟨_, es, n, e', hd⟩
  · obtain ⟨o, e⟩ := l a q
    exact u.live a o e
  · rw [show P.oa = none from ho] at q; cases q
  · exact hn.data fun b o e n => let ⟨_, q⟩ := u.slot b o e (fun m => nomatch m) n; ⟨_, q, rfl⟩
  · obtain ⟨v, e', as, r, kk⟩ := hv x d e
    refine ⟨v, e', as, reads_on r fun b o e q => ?_, kk⟩
    obtain ⟨_, e''⟩ := u.slot b o e (fun m => nomatch m) (fun vs z => q.elim (fun q => by obtain ⟨o', e', n⟩ := reads_seq r b q; rw [e] at e'; cases e'; exact n vs z) fun ⟨_, _, _, q⟩ => by rw [q] at z; cases z)
    exact ⟨_, e'', rfl, rfl⟩
/-- a body that may make generators, and gives back True -/
def WPG (C : Cx) (lv : Nat) (sc : Scope) (cd : Value) (ss : List Stmt) (σ : Sg) (Ψ : Heap → Prop) : Prop :=
  ∀ (P : Pt) (s : Shared) (Q : Flow → Shared → Prop) (E : Value → Shared → Prop), Room P.A lv → P.cd = cd → P.oa = none → FS C sc P s.heap σ none → AllBare s.gens →
    (∀ b h' tk g, Ψ b → b.StaysIn h' → UpS [P.L] s.heap h' → AllBare g → Q (.ret (.bool true)) { s with heap := h', toks := tk, gens := g }) → wpAny (model C.prog C.w) P.A (execs ss (P.env sc)) Q E s
def SegG (C : Cx) (lv : Nat) (sc : Scope) (cd : Value) (rest : List Stmt) (Ψ : Heap → Prop) : Res → Prop
  | .next σ ow => ow = none ∧ WPG C lv sc cd rest σ Ψ
  | .ret d => d = .bool true ∧ Ψ C.base
  | _ => False
theorem WPG.seg {pre rest : List Stmt} (h : WP C lv sc pre σ none (SegG C lv sc cd rest Ψ)) : WPG C lv sc cd (pre ++ rest) σ Ψ := by
  intro P s Q E R hcd hoa F G k
  rw [execs_append]
  refine wpAny_bind (h P s _ _ R F ⟨?_, ?_, ?_, ?_⟩)
  · rintro σ' ow' oa h' tk ⟨rfl, f⟩ F' c ok
    have hoa' : oa = none := by obtain ⟨_, _, _, m, _, _, ho⟩ := F'; exact ho
    subst hoa'
    exact f (P.at none) { s with heap := h', toks := tk } Q E R hcd rfl F' G fun b h'' tk' g hΨ hb u hg => k b h'' tk' g hΨ hb ((UpS.of_chg hoa c).trans u) hg
  · intro σ' ow' oa h' tk f; exact f.elim
  · rintro v d h' tk ⟨rfl, hΨ⟩ r S c
    cases r.boolInv
    exact wpAny_pure (k C.base h' tk s.gens hΨ S.base (UpS.of_chg hoa c) G)
  · intro e cls h₁ h' tk f; exact f.elim
/-- a function whose body may make generators: it gives back True -/
def GivesG (C : Cx) (lv : Nat) (n : Str) (ds : List PyData) (Ψ : Heap → Prop) : Prop :=
  ∃ a o fd, C.mg n = some (.ref a) ∧ C.base.get? a = some o ∧ o.data = .func fd ∧
    ∀ (A : Around) (l : List Env) (O : List Addr) (s : Shared) (vs : List Value) (Q E : Value → Shared → Prop), Room A lv → Stk C A l s.heap → Live O s.heap → AllBare s.gens → RdAll O s.heap vs ds →
      (∀ b h' tk g, Ψ b → b.StaysIn h' → UpS [] s.heap h' → AllBare g → Q (.bool true) { s with heap := h', toks := tk, gens := g }) → wpAny (model C.prog C.w) A (call (.ref a) vs) Q E s
theorem GivesG.of_body {n : Str} {ps : Arguments} {body : List Stmt} {xs : List Str} {ds : List PyData} (ok : C.Ok) (fn : IsFn C n ps body sc) (pl : PlainC n ps body sc xs) (hlen : ds.length = xs.length)
    (h : ∀ a o pm cd doc, C.mg n = some (.ref a) → C.base.get? a = some o → o.data = .func (docDef n ps body sc pm cd doc) → WPG C lv sc cd body ((xs.zip ds).reverse) Ψ) : GivesG C (lv + 1) n ds Ψ := by
  obtain ⟨a, o, pm, cd, doc, hg, ho, hd, hc⟩ := fn.there
  refine ⟨a, o, _, hg, ho, hd, fun A l O s vs Q E Rm S hO G r k => wpAny_call (enter ok pl hlen ho hd hc Rm S hO r fun P h₁ tk e1 e2 e3 e4 ecd hL Rm' F st => ?_)⟩
  refine h a o pm cd doc hg ho hd P { s with heap := h₁, toks := tk } _ _ Rm' ecd e3 F G fun b h' tk' g hΨ hb u hg => ?_
  refine k b h' tk' g hΨ hb ⟨fun b o e _ n => u.slot b o (st b o e) (fun m => ?_) n, fun b o e => u.live b o (st b o e)⟩ hg
  rw [List.mem_singleton.mp m, hL _ (Nat.le_refl _)] at e; cases e
/-- if not f(..): return .. -/
theorem WPG.callIf {p : Program} {glo : List (Str × PyData)} {blt : List (Str × Value)} {f : Str} {fp cp np pos : Pos} {e : Expr} {es : List Expr} {ds : List PyData} {body rest : List Stmt} {k : Nat} {Ψ' : Heap → Prop} (W : Wd C p glo blt) (ha : EvAll C lv sc (e :: es) σ none ds) (hf : GivesG C k f ds Ψ') (hk : k ≤ lv) (g : Gl sc f)
    (hfr : ∀ b, Ψ' b → ∀ x, C.base.get? x = none → b.get? x = none) (h : ∀ b, Ψ' b → WPG (C.on b) lv sc cd rest σ Ψ)
    (he : ∀ env, starEach (e :: es) env = (false, eval e env) :: starEach es env := by intro _; with_unfolding_all rfl)
    (hv : ∀ env whole, isTrue (.Call (.Name f fp) (e :: es) [] cp) env whole = (do let v ← whole; standAt (Expr.Call (.Name f fp) (e :: es) [] cp).pos; holding [v] (truthy v)) := by intro _ _; with_unfolding_all rfl) :
    WPG C lv sc cd (.If (.UnaryOp .Not (.Call (.Name f fp) (e :: es) [] cp) np) body [] pos :: rest) σ Ψ := by
  intro P s Q E R hcd hoa F G K
  obtain ⟨a, o, fd, hg, ho, hdat, hcall⟩ := hf
  refine wpAny_execs_cons (wpAny_If (wpAny_isTrue_Not (wpAny_isTrue_value ?_ (hv _ _))))
  show wpAny _ _ (do callWith cp (← eval (.Name f fp) (P.env sc)) [] (backTo cp (starEach (e :: es) (P.env sc))) (backToKw cp (keywordEach [] (P.env sc)))) _ _ s
  refine wpAny_bind (glob_at W.ok F hg g.imp g.kind g.dbg ?_)
  refine callWith_function (o := o) (fd := fd) (evalArgs_cons (he _) (ha P s cp _ _ R F fun vs h₁ t₁ x₁ r₁ => ?_))
  have F₁ := F.ext' x₁
  refine ⟨⟨F₁.stk.base _ _ ho, hdat⟩, ?_⟩
  refine hcall P.A (P.l sc) P.OO _ _ _ _ (R.le hk) F₁.stk (liveOO F₁) G r₁ fun b h' tk gs hΨ hb u hgs => ?_
  refine wpAny_truthy_bool (wpAny_execs_nil ?_)
  refine h b hΨ P { s with heap := h', toks := tk, gens := gs } Q E R hcd hoa (F₁.rebase u hb (hfr b hΨ)) hgs fun b' h'' tk' g' hΨ' hb' u' hg' => ?_
  exact K b' h'' tk' g' hΨ' hb' (((UpS.of_ext x₁).trans (u.more fun _ m => nomatch m)).trans u') hg'
end
end Mine

set_option maxRecDepth 100000
set_option autoImplicit false
set_option linter.unusedVariables false
namespace Mine
open PySem PySem.Calls PyProof.Rows
theorem regrown_none {h : Heap} {T : Addr} {ps : Array Value} {o : Obj} (ht : h.get? T = some o) : ∀ x, h.get? x = none → (regrown h T ps).get? x = none := fun x e => by
  have hx : x ≠ T := fun z => by rw [z, ht] at e; cases e
  exact (Heap.get?_update_other _ _ (Ne.symm hx)).trans e
theorem regrown_stays {h h' : Heap} {T : Addr} {ps ps' : Array Value} {c : Addr} (ht : h.TableAt c T ps) (k : ∀ b o, h.get? b = some o → b ≠ T → h'.get? b = some o) (e : h'.get? T = some { cls := .none, data := .fields ps' }) : (regrown h T ps').StaysIn h' := fun b o q => by
  by_cases z : b = T
  · subst z
    rw [show (regrown h b ps').get? b = some { cls := .none, data := .fields ps' } from Heap.get?_update_self _ ht.2 rfl] at q
    cases q; exact e
  · rw [show (regrown h T ps').get? b = h.get? b from Heap.get?_update_other _ _ (Ne.symm z)] at q
    exact k b o q z
section
variable {C : Cx} {lv : Nat} {sc : Scope} {σ : Sg} {cd : Value} {Ψ : Heap → Prop}
/-- type(limb) is not int, in a generator's frame -/
theorem elt_isnt {A : Around} {E : Value → Shared → Prop} {s : Shared} {cenv : Env} {m : Str → Option Value} {tyN x intN : Str} {tp lp cp ip ep : Pos} {i : Int} {t : Tok} {Q : Value → Shared → Prop} (hg : s.heap.Ns cenv.globals C.mg) (hb : s.heap.Ns cenv.builtins C.mb) (hn : s.heap.Ns cenv.locals m) (hm : m x = some (.int i t))
    (t1 : C.mg tyN = none ∧ C.mb tyN = some (.type "type")) (t2 : C.mg intN = none ∧ C.mb intN = some (.type "int")) (hk : cenv.scope.kind = .function) (k1 : cenv.kindOf tyN = some .globalImplicit) (k2 : cenv.kindOf intN = some .globalImplicit) (k3 : cenv.kindOf x = some .local)
    (d1 : (tyN == ("__debug__" : Str)) = false) (d2 : (intN == ("__debug__" : Str)) = false) (d3 : (x == ("__debug__" : Str)) = false) (h : Q (.bool false) s) :
    wpAny (model C.prog C.w) A (eval (.Compare (.Call (.Name tyN tp) [.Name x lp] [] cp) [.IsNot] [.Name intN ip] ep) cenv) Q E s := by
  refine wpAny_Compare1 ?_
  show wpAny _ _ (do callWith cp (← eval (.Name tyN tp) cenv) [] (backTo cp (starEach [.Name x lp] cenv)) (backToKw cp (keywordEach [] cenv))) _ _ s
  refine wpAny_bind (Name_function_global hk k1 (loadGlobal_builtin hg t1.1 hb t1.2 ?_) d1)
  refine PyProof.Rows.callWith_type rfl (evalArgs_cons rfl (wpAny_items_cons (wpAny_Name (wpAny_loadName_local hk k3 hn hm ?_) d3) rfl))
  refine wpAny_items_nil ?_
  refine call_type_of (typeIs_int s i t) (by decide) ?_
  refine Name_function_global hk k2 (loadGlobal_builtin hg t2.1 hb t2.2 ?_) d2
  refine wpAny_isNot_plain rfl ?_
  exact h
/-- if any((type(x) is not int for x in ..)): .. -/
theorem WPG.anyIf {p : Program} {glo : List (Str × PyData)} {blt : List (Str × Value)} {anyN tyN intN x : Str} {np cp px gp pos tp lp cp2 ip ep : Pos} {iter : Expr} {scope : Scope} {body rest : List Stmt} {xs : List Int} {c T bm : Addr} {ob : Obj} {ps : Array Value} (W : Wd C p glo blt)
    (hm : (anyN, Value.builtin "any") ∈ blt) (ht : (tyN, Value.type "type") ∈ blt) (hi : (intN, Value.type "int") ∈ blt) (g : Gl sc anyN) (hcd : cd = .ref c) (hcode : C.base.IsCode c T ps) (htab : C.base.TableAt c T ps) (hnf : codeAmong gp ps.toList = none) (hTs : T ≠ cStatics) (M : BMod C.base mainGlobals C.mg bm ob)
    (hit : Ev C lv sc iter σ none (L xs)) (hco : scope.isCoroutine = false) (hclos : ∀ P : Pt, closureFor scope (P.env sc) = pure []) (hcell : ∀ y ∈ scope.names, y.2 ≠ .cell) (h0 : scope.names.lookup (".0" : Str) = some NameKind.local) (hx : scope.names.lookup x = some .local) (hkind : scope.kind = .function)
    (k1 : scope.names.lookup tyN = some .globalImplicit) (k2 : scope.names.lookup intN = some .globalImplicit) (d1 : (tyN == ("__debug__" : Str)) = false) (d2 : (intN == ("__debug__" : Str)) = false) (d3 : (x == ("__debug__" : Str)) = false)
    (h : ∀ c', WPG (C.on (regrown C.base T (ps ++ #[rawInt gp.line, rawInt gp.col, .ref c']))) lv sc cd rest σ Ψ)
    (hs : ∀ env x, genFold iter env x = pure x := by intro _ _; with_unfolding_all rfl)
    (he : ∀ env, starEach [.GeneratorExp (.Compare (.Call (.Name tyN tp) [.Name x lp] [] cp2) [.IsNot] [.Name intN ip] ep) [⟨.Name x px, iter, [], 0⟩] scope gp] env = (false, eval (.GeneratorExp (.Compare (.Call (.Name tyN tp) [.Name x lp] [] cp2) [.IsNot] [.Name intN ip] ep) [⟨.Name x px, iter, [], 0⟩] scope gp) env) :: starEach [] env := by intro _; with_unfolding_all rfl)
    (hp : ∀ env, (backTo cp (starEach [.GeneratorExp (.Compare (.Call (.Name tyN tp) [.Name x lp] [] cp2) [.IsNot] [.Name intN ip] ep) [⟨.Name x px, iter, [], 0⟩] scope gp] env)).any (·.1) = false := by intro _; with_unfolding_all rfl)
    (hv : ∀ env whole, isTrue (.Call (.Name anyN np) [.GeneratorExp (.Compare (.Call (.Name tyN tp) [.Name x lp] [] cp2) [.IsNot] [.Name intN ip] ep) [⟨.Name x px, iter, [], 0⟩] scope gp] [] cp) env whole = (do let v ← whole; standAt (Expr.Call (.Name anyN np) [.GeneratorExp (.Compare (.Call (.Name tyN tp) [.Name x lp] [] cp2) [.IsNot] [.Name intN ip] ep) [⟨.Name x px, iter, [], 0⟩] scope gp] [] cp).pos; holding [v] (truthy v)) := by intro _ _; with_unfolding_all rfl) :
    WPG C lv sc cd (.If (.Call (.Name anyN np) [.GeneratorExp (.Compare (.Call (.Name tyN tp) [.Name x lp] [] cp2) [.IsNot] [.Name intN ip] ep) [⟨.Name x px, iter, [], 0⟩] scope gp] [] cp) body [] pos :: rest) σ Ψ := by
  intro P s Q E R hPcd hoa F G K
  refine wpAny_execs_cons (wpAny_If (wpAny_isTrue_value ?_ (hv _ _)))
  show wpAny _ _ (do callWith cp (← eval (.Name anyN np) (P.env sc)) [] (backTo cp (starEach [.GeneratorExp (.Compare (.Call (.Name tyN tp) [.Name x lp] [] cp2) [.IsNot] [.Name intN ip] ep) [⟨.Name x px, iter, [], 0⟩] scope gp] (P.env sc))) (backToKw cp (keywordEach [] (P.env sc)))) _ _ s
  refine wpAny_bind (built_at W.ok F (W.blt _ hm).1 (W.blt _ hm).2 g.imp g.kind g.dbg ?_)
  refine callWith_builtin (hp _) (evalArgs_cons (he _) (wpAny_items_cons ?_ (he _)))
  refine wpAny_GeneratorExp_walksQ R.handled hco (hclos P) hcell h0 hx hkind R.limit ?_ (hs _)
  refine hit P s _ _ R F fun v h₁ t₁ x₁ r₁ => ?_
  obtain ⟨l, o, vs, n, rfl, e1, e2, e3, hO, r₂⟩ := r₁.listInv
  have F₁ := F.ext' x₁
  have hl : h₁.IsList l vs := ⟨o, e1, e2, n, e3⟩
  have hlt : l < h₁.objs.size := Heap.lt_size e1
  have hsz : vs.size = xs.length := by rw [← Array.length_toList, r₂.length]; simp
  have up : ∀ o' : Obj, h₁.StaysIn (h₁.push o') := fun o' b o e => Heap.get?_push_of_some o' e
  have hTlt : T < h₁.objs.size := Heap.lt_size (F₁.stk.base _ _ htab.2)
  refine wpAny_pyIter_list (s := { s with heap := h₁, toks := t₁ }) hl ⟨(W.ok.nolimit.keeps F₁.stk.base).push _, ?_⟩
  refine wpAny_genexprCodeX (s := { s with heap := h₁.push { cls := .type "list_iterator", data := .fields #[.ref l, .int 0 0] }, toks := t₁ }) (hPcd.trans hcd) (hcode.keeps (stays_trans F₁.stk.base (up _))) (htab.keeps (stays_trans F₁.stk.base (up _))) hnf fun c' h₃ tk₃ hx₃ hge hlt₃ hcode₃ _ htab₃ _ => ?_
  have b₂ : C.base.StaysIn (h₁.push { cls := .type "list_iterator", data := .fields #[.ref l, .int 0 0] }) := stays_trans F₁.stk.base (up _)
  have kT : ∀ b o, C.base.get? b = some o → b ≠ T → h₃.get? b = some o := fun b o e z => hx₃ b o z (b₂ b o e)
  have hsz₂ : (h₁.push { cls := .type "list_iterator", data := .fields #[.ref l, .int 0 0] }).objs.size = h₁.objs.size + 1 := Heap.size_push ..
  have hsz₃ : h₁.objs.size + 1 ≤ h₃.objs.size := by
    have h1 : (h₁.push { cls := .type "list_iterator", data := .fields #[.ref l, .int 0 0] }).objs.size ≤ c' := hge
    rw [hsz₂] at h1
    exact Nat.le_trans h1 (Nat.le_of_lt hlt₃)
  have M₃ : BMod h₃ mainGlobals C.mg bm ob := (M.keeps b₂).extBut (htab.keeps b₂) hx₃
  have nsB₃ : h₃.Ns builtinsNs C.mb := ((W.ok.b.keeps b₂)).extBut hx₃ fun z => by
    obtain ⟨o', es, ep', ho', hd', _⟩ := W.ok.b
    rw [z, htab.2] at ho'; cases ho'; cases hd'
  have hlim₃ : h₃.NoLimit := (W.ok.nolimit.keeps b₂).extBut hx₃ (Ne.symm hTs)
  have hbs : builtinsNs ≠ bm := Ne.symm M.ne
  have hIT : h₁.objs.size ≠ T := Nat.ne_of_gt hTlt
  have hlT : l ≠ T := fun z => by
    have := F₁.stk.base _ _ htab.2
    rw [← z, e1] at this
    cases this
    cases e2
  refine wpAny_builtinsFor (s := { s with heap := h₃, toks := tk₃ }) M₃.ns M₃.name M₃.ne M₃.obj M₃.cls M₃.dict M₃.data ?_
  have hit₂ : (h₁.push { cls := .type "list_iterator", data := .fields #[.ref l, .int 0 0] }).get? h₁.objs.size = some { cls := .type "list_iterator", data := .fields #[.ref l, .int 0 0] } := Heap.get?_push_size _ rfl
  have nsLt : ∀ {a : Addr} {m : Str → Option Value}, C.base.Ns a m → a < h₁.objs.size := fun q => (q.keeps F₁.stk.base).lt
  have hstc : cStatics < h₁.objs.size := by obtain ⟨mc, q, _⟩ := W.ok.nodigits; exact nsLt q
  refine ⟨h₁.objs.size, [h₁.objs.size, l], [h₁.objs.size], vs.size, fun i v => vs[i]? = some v, _, fun _ => true, fun _ y => y = .bool false, rfl, fun A' hA => Walks.list hA h₁.objs.size l (Nat.ne_of_lt hlt) vs, ?_, ?_, hlim₃, ?_, ?_, ?_⟩
  · exact ⟨⟨_, hx₃ _ _ hIT hit₂, rfl, rfl⟩, ⟨o, hx₃ _ _ hlT (up _ _ _ e1), e2, n, e3⟩⟩
  · intro b hb
    show b < h₃.objs.size
    simp only [List.mem_cons, List.not_mem_nil, or_false] at hb
    rcases hb with rfl | rfl
    · exact hsz₃
    · exact Nat.lt_of_lt_of_le hlt (Nat.le_trans (Nat.le_succ _) hsz₃)
  · intro hmm
    rw [List.mem_singleton] at hmm
    exact absurd hstc (by rw [hmm]; exact Nat.lt_irrefl _)
  · intro href hk
    refine ⟨fun A' E' i v s₂ m₂ hA hP hn hm' hkk => ?_, fun A' E' i v s₂ m₂ hA hP _ hn hm' hkk => ?_⟩
    · rw [List.forIn_nil]
      exact wpAny_pure ⟨rfl, s₂.heap, s₂.toks, rfl, fun _ _ e => e⟩
    · have hvi : ∃ i t, v = .int i t := by
        have hi' : i < xs.length := by
          have := (Array.getElem?_eq_some_iff.mp hP).1
          omega
        obtain ⟨u, hu, ru⟩ := r₂.get i (.int (xs.getD i 0)) (by simp [I, hi'])
        have : v = u := by
          have : vs[i]? = some u := by simpa using hu
          rw [hP] at this; exact Option.some.inj this
        subst this
        obtain ⟨t, e⟩ := ru.intInv
        exact ⟨_, t, e⟩
      obtain ⟨i', t', rfl⟩ := hvi
      have at₂ : ∀ b o, b < h₁.objs.size → h₃.get? b = some o → s₂.heap.get? b = some o := fun b o hb e => hkk b (List.mem_range.mpr (Nat.lt_of_lt_of_le hb (Nat.le_trans (Nat.le_succ _) hsz₃))) (fun z => by rw [List.mem_singleton.mp z] at hb; exact Nat.lt_irrefl _ hb) o (hk b o e)
      have nsG : s₂.heap.Ns mainGlobals C.mg := M₃.ns.at' fun o e => at₂ _ o (nsLt W.ok.g) e
      have nsB : s₂.heap.Ns builtinsNs C.mb := nsB₃.at' fun o e => at₂ _ o (nsLt W.ok.b) e
      exact elt_isnt (C := C) nsG nsB hn hm' (W.blt _ ht) (W.blt _ hi) hkind k1 k2 hx d1 d2 d3 ⟨rfl, s₂.heap, s₂.toks, rfl, fun _ _ e => e⟩
  · intro a h₅ tk₅ gs hgs ha hsz₅ hk₅ Wk hat
    refine wpAny_items_nil ?_
    have Wk := Wk.in4_1
    refine call_any_walkS (Wk.self 0 _ _ _ hat ⟨a, _, _, _, _, _, _, fun _ => false, rfl, Wk, hat, ?_, fun s' hmv => ?_⟩)
    · rintro i v s Q E ⟨j, _, rfl⟩ hQ
      exact wpAny_truthy_bool hQ
    · rw [show (List.range (passing (fun _ => true) vs.size 0).length).any (fun _ => false) = false from by simp]
      refine wpAny_truthy_bool (wpAny_execs_nil ?_)
      obtain ⟨h', gn, dr, tk', os'⟩ := s'
      have m1 := hmv.heap
      have m3 : dr = s.drawn := hmv.drawn
      have m4 : os' = s.os := hmv.os
      have mg : AllBare gn := (AllBare.push G hgs).movedS hmv
      subst m3 m4
      have keep : ∀ b o, h₁.get? b = some o → b ≠ T → h'.get? b = some o := fun b o e z => m1 b o (fun q => by
        have hb := Heap.lt_size e
        rcases List.mem_cons.mp q with rfl | q
        · exact absurd hb (Nat.not_lt.mpr (Nat.le_trans (Nat.le_succ _) hsz₃))
        · rw [List.mem_singleton.mp q] at hb; exact Nat.lt_irrefl _ hb) (hk₅ b o (hx₃ b o z (up _ b o e)))
      have tabk : h'.get? T = some { cls := .none, data := .fields (ps ++ #[rawInt gp.line, rawInt gp.col, .ref c']) } := m1 T _ (fun q => by
        rcases List.mem_cons.mp q with q | q
        · rw [q] at hTlt
          exact absurd hTlt (Nat.not_lt.mpr (Nat.le_trans (Nat.le_succ _) hsz₃))
        · rw [List.mem_singleton.mp q] at hTlt; exact Nat.lt_irrefl _ hTlt) (hk₅ T _ htab₃.2)
      have u : UpS [] h₁ h' := ⟨fun b o e _ nf => ⟨o.slots, keep b o e fun z => by
          have := F₁.stk.base _ _ htab.2
          rw [z] at e
          rw [this] at e; cases e; exact nf _ rfl⟩, fun b o e => by
          by_cases z : b = T
          · exact ⟨_, z ▸ tabk⟩
          · exact ⟨o, keep b o e z⟩⟩
      have hst : (regrown C.base T (ps ++ #[rawInt gp.line, rawInt gp.col, .ref c'])).StaysIn h' := regrown_stays htab (fun b o e z => keep b o (F₁.stk.base b o e) z) tabk
      refine h c' P ⟨h', gn, s.drawn, tk', s.os⟩ Q E R hPcd hoa (F₁.rebase u hst (regrown_none htab.2)) mg fun b h'' tk'' g' hΨ hb' u' hg' => ?_
      exact K b h'' tk'' g' hΨ hb' (((UpS.of_ext x₁).trans (u.more fun _ m => nomatch m)).trans u') hg'
end
end Mine

set_option maxRecDepth 100000
set_option autoImplicit false
set_option linter.unusedVariables false
namespace Mine
open PySem PySem.Calls PyProof.Rows
section
variable {C : Cx} {lv : Nat} {sc : Scope} {σ : Sg} {ow : Ow}
theorem geInt_at {prog : Program} {w : World} {A : Around} {E : Value → Shared → Prop} {s : Shared} {a b : Int} {t u : Tok} {Q : Value → Shared → Prop} (h : Q (.bool (decide (b ≤ a))) s) : wpAny (model prog w) A (richCompare .GtE (.int a t) (.int b u)) Q E s :=
  wpAny_richCompare_same (op := .GtE) (T := "int") (typeIs_int s a t) (typeIs_int s b u) slot_int_ge
    (wpAny_call_entry slot_int_ge (typeIs_int s a t) entry_int_ge
      (show wpAny _ _ (ret (.bool (decide (a ≥ b)))) _ _ s from wpAny_pure ⟨_, rfl, by simp, h⟩) (args_int_ge _ _))
/-- pairs of ints in their order -/
theorem Cmp.geTup {a b c d : Int} : Cmp C .GtE (.tuple [.int a, .int b]) (.tuple [.int c, .int d]) (if a = c then decide (d ≤ b) else decide (c ≤ a)) := by
  intro A O s v u Q E R _ _ r r' k
  obtain ⟨l1, o1, xs, n1, rfl, h1, h2, h3, r₁⟩ := r.tupleInv
  obtain ⟨l2, o2, ys, n2, rfl, g1, g2, g3, r₂⟩ := r'.tupleInv
  obtain ⟨v1, v2, e1, q1, q2⟩ := r₁.two
  obtain ⟨u1, u2, e2, p1, p2⟩ := r₂.two
  obtain ⟨t1, rfl⟩ := q1.intInv
  obtain ⟨t2, rfl⟩ := q2.intInv
  obtain ⟨t3, rfl⟩ := p1.intInv
  obtain ⟨t4, rfl⟩ := p2.intInv
  have T1 : s.TypeIs (.ref l1) "tuple" := ⟨o1, h1, h2⟩
  have T2 : s.TypeIs (.ref l2) "tuple" := ⟨o2, g1, g2⟩
  show wpAny _ _ (richCompare .GtE (.ref l1) (.ref l2)) Q E s
  refine wpAny_richCompare_same_or T1 T2 PySem.F.slot_tuple_ge (wpAny_call_entry PySem.F.slot_tuple_ge T1 PySem.F.entry_tuple_ge ?_ (PySem.F.args_tuple_ge_2 _ _)) (.inr R.in1)
  show wpAny _ _ (isInstance (.ref l2) (.type "tuple") >>= _) _ _ s
  refine wpAny_bind (wpAny_isInstance T2 isSubtype_tuple_tuple ?_)
  simp only [Bool.not_true, Bool.false_eq_true, if_false]
  refine wpAny_bind (wpAny_tupleItemsOf h1 h3 ?_)
  refine wpAny_bind (wpAny_tupleItemsOf g1 g3 ?_)
  rw [e1, e2]
  simp only [List.zip_cons_cons, List.zip_nil_left, List.forIn_cons, List.forIn_nil]
  refine wpAny_bind (wpAny_bind (wpAny_bind (wpAny_eqBool_int ?_)))
  by_cases hac : a = c
  · subst hac
    rw [if_pos rfl] at k
    simp only [beq_self_eq_true, Bool.not_true, Bool.false_eq_true, if_false]
    refine wpAny_pure (wpAny_bind (wpAny_bind (wpAny_eqBool_int ?_)))
    by_cases hbd : b = d
    · subst hbd
      simp only [beq_self_eq_true, Bool.not_true, Bool.false_eq_true, if_false]
      refine wpAny_pure (wpAny_pure ?_)
      have hx : xs.size = 2 := by rw [← Array.length_toList, e1]; rfl
      have hy : ys.size = 2 := by rw [← Array.length_toList, e2]; rfl
      refine wpAny_pure ⟨_, rfl, by simp [Builtin.Tuple.tupleCompareSizes], ?_⟩
      have := k s.heap s.toks (stays_refl _)
      simpa [Builtin.Tuple.tupleCompareSizes, hx, hy] using this
    · rw [show (b == d) = false from by simpa using hbd]
      simp only [Bool.not_false, if_true]
      refine wpAny_bind (wpAny_rule (wpAny_bind (geInt_at ?_)))
      exact wpAny_pure (wpAny_pure (wpAny_pure ⟨_, rfl, by simp, k s.heap s.toks (stays_refl _)⟩))
  · rw [if_neg hac] at k
    rw [show (a == c) = false from by simpa using hac]
    simp only [Bool.not_false, if_true]
    refine wpAny_bind (wpAny_rule (wpAny_bind (geInt_at ?_)))
    exact wpAny_pure (wpAny_pure (wpAny_pure ⟨_, rfl, by simp, k s.heap s.toks (stays_refl _)⟩))
theorem Blt.maxL {xs : List Int} {M : Int} (hM : M ∈ xs) (hle : ∀ a ∈ xs, a ≤ M) : Blt C (.builtin "max") [L xs] (.int M) := by
  intro A O s vs Q E R _ _ r k
  obtain ⟨v, rfl, r₁⟩ := r.one
  obtain ⟨l, o, vs, n, rfl, h1, h2, h3, _, r₂⟩ := r₁.listInv
  have hi : IntsAre vs.toList xs := rdAll_ints r₂
  have hl : s.heap.IsList l vs.toList.toArray := ⟨o, h1, h2, n, by rw [Array.toArray_toList]; exact h3⟩
  obtain ⟨ys, e⟩ := hi.allInts.items
  have hns : xs = ys.toList.map (·.1) := by
    rw [← hi.numsOf, ← nums_intItems, ← e]
  have hsz : 0 < ys.size := by
    have h3 : 0 < xs.length := List.length_pos_of_mem hM
    rw [hns, List.length_map, Array.length_toList] at h3; exact h3
  rw [e] at hl
  refine max_intList R.handled hl hsz fun v h' tk hv hk => ?_
  obtain ⟨t, rfl⟩ := intItems_at hv
  obtain ⟨g1, g2⟩ := argBest_gt (numAt ys) (ys.size - 1)
  have m1 : numAt ys (argBest (fun i j => decide (numAt ys i > numAt ys j)) (ys.size - 1)) ∈ xs := by
    rw [hns, numAt_eq]; exact getD_mem (by rw [List.length_map, Array.length_toList]; omega)
  have m2 : M ≤ numAt ys (argBest (fun i j => decide (numAt ys i > numAt ys j)) (ys.size - 1)) := by
    rw [hns] at hM
    obtain ⟨j, hj, e'⟩ := mem_getD hM
    rw [List.length_map, Array.length_toList] at hj
    rw [← e', ← numAt_eq]; exact g2 j (by omega)
  have := hle _ m1
  rw [show M = numAt ys (argBest (fun i j => decide (numAt ys i > numAt ys j)) (ys.size - 1)) by omega] at k
  exact k _ h' tk hk (.int _ _)
theorem Ev.maxL {p : Program} {glo : List (Str × PyData)} {blt : List (Str × Value)} {x : Str} {q pos : Pos} {e : Expr} {xs : List Int} {M : Int} (W : Wd C p glo blt) (hm : (x, Value.builtin "max") ∈ blt) (g : Gl sc x) (h : Ev C lv sc e σ ow (L xs)) (hM : M ∈ xs) (hle : ∀ a ∈ xs, a ≤ M)
    (he : ∀ env, starEach [e] env = (false, eval e env) :: starEach [] env := by intro _; with_unfolding_all rfl) (hp : ∀ env, (backTo pos (starEach [e] env)).any (·.1) = false := by intro _; with_unfolding_all rfl) : Ev C lv sc (.Call (.Name x q) [e] [] pos) σ ow (.int M) :=
  Ev.blt W.ok (W.blt _ hm).1 (W.blt _ hm).2 (Blt.maxL hM hle) (EvAll.cons h .nil he) g.imp g.kind g.dbg he hp
theorem BoolE.and {env : Env} {ρ : List (Str × Int)} {x y : Expr} {pos : Pos} {a b : Bool} (h : BoolE C env ρ x a) (h' : BoolE C env ρ y b) : BoolE C env ρ (.BoolOp .And [x, y] pos) (a && b) := by
  intro A s Q E R B K k
  refine wpAny_isTrue_BoolOp (wpAny_allTrue_And_cons (h A s _ _ R B K fun h₁ t₁ x₁ => ?_))
  cases a with
  | false => exact k _ _ x₁
  | true =>
    refine wpAny_allTrue_And_cons (h' A _ _ _ R (stays_trans B x₁) (K.stays x₁) fun h₂ t₂ x₂ => ?_)
    cases b with
    | false => exact k _ _ (stays_trans x₁ x₂)
    | true => exact wpAny_allTrue_And_nil (k _ _ (stays_trans x₁ x₂))
theorem Rng.two {p : Program} {glo : List (Str × PyData)} {blt : List (Str × Value)} {x : Str} {q pos : Pos} {e f : Expr} {a b : Int} (W : Wd C p glo blt) (hm : (x, Value.type "range") ∈ blt) (g : Gl sc x) (ha : Ev C lv sc e σ ow (.int a)) (hb : Ev C lv sc f σ ow (.int b))
    (he : ∀ env, starEach [e, f] env = (false, eval e env) :: starEach [f] env := by intro _; with_unfolding_all rfl) (hf : ∀ env, starEach [f] env = (false, eval f env) :: starEach [] env := by intro _; with_unfolding_all rfl) (hp : ∀ env, (backTo pos (starEach [e, f] env)).any (·.1) = false := by intro _; with_unfolding_all rfl) :
    Rng C lv sc (.Call (.Name x q) [e, f] [] pos) σ ow a b 1 := by
  intro P s Q E R F k
  refine callT W.ok R F (W.blt _ hm).1 (W.blt _ hm).2 (EvAll.cons ha (EvAll.cons hb .nil hf) he) g.imp g.kind g.dbg he hp fun vs h₁ t₁ x₁ r₁ => ?_
  obtain ⟨v, u, rfl, r₂, r₃⟩ := r₁.two
  obtain ⟨t, rfl⟩ := r₂.intInv
  obtain ⟨t', rfl⟩ := r₃.intInv
  refine call_range_2 ?_
  exact k _ _ _ _ _ _ (x₁.push _) (IsRange.new ..)
end
end Mine

set_option maxRecDepth 100000
set_option autoImplicit false
set_option linter.unusedVariables false
namespace Mine
open PySem PySem.Calls PyProof.Rows
theorem reg_oth {h : Heap} {T : Addr} {ps : Array Value} {b : Addr} (hb : b ≠ T) : (regrown h T ps).get? b = h.get? b := Heap.get?_update_other _ _ (Ne.symm hb)
theorem reg_self {h : Heap} {T : Addr} {ps : Array Value} {o : Obj} (ht : h.get? T = some o) : (regrown h T ps).get? T = some { cls := .none, data := .fields ps } := Heap.get?_update_self _ ht rfl
theorem reg_ext {h : Heap} {T : Addr} {ps : Array Value} : Heap.ExtBut T h (regrown h T ps) := fun b o hb e => (reg_oth hb).trans e
theorem ns_ne {h : Heap} {a T c : Addr} {ps : Array Value} {m : Str → Option Value} (ht : h.TableAt c T ps) (hn : h.Ns a m) : a ≠ T := fun z => by
  obtain ⟨o, es, ep, ho, hd, _⟩ := hn
  rw [z, ht.2] at ho; cases ho; cases hd
/-- the table of a function's code -/
structure Tb (h₀ : Heap) (C : Cx) (n : Str) (gp : Pos) (c T : Addr) (ps : Array Value) : Prop where
  fn : ∃ a o fd, C.mg n = some (.ref a) ∧ C.base.get? a = some o ∧ o.data = .func fd ∧ fd.code = .ref c
  code : C.base.IsCode c T ps
  tab : C.base.TableAt c T ps
  old : ∃ ps₀, h₀.TableAt c T ps₀
  nf : codeAmong gp ps.toList = none
  ns : ∀ q t, ps[1]? ≠ some (.str q t)
theorem Tb.st {h₀ : Heap} {C : Cx} {n : Str} {gp : Pos} {c T : Addr} {ps : Array Value} (x : Tb h₀ C n gp c T ps) (ok : C.Ok) : T ≠ cStatics := by
  obtain ⟨mc, q, _⟩ := ok.nodigits
  exact Ne.symm (ns_ne x.tab q)
theorem Wd.reg {C : Cx} {p : Program} {glo : List (Str × PyData)} {blt : List (Str × Value)} {c T : Addr} {ps ps' : Array Value} (W : Wd C p glo blt) (ht : C.base.TableAt c T ps) (hps : ∀ q t, ps[1]? ≠ some (.str q t)) : Wd (C.on (regrown C.base T ps')) p glo blt where
  ok := ⟨W.ok.g.extBut reg_ext (ns_ne ht W.ok.g), W.ok.b.extBut reg_ext (ns_ne ht W.ok.b), by
    obtain ⟨mc, q, r⟩ := W.ok.nolimit
    exact ⟨mc, q.extBut reg_ext (ns_ne ht q), r⟩, by
    obtain ⟨mc, q, r⟩ := W.ok.nodigits
    exact ⟨mc, q.extBut reg_ext (ns_ne ht q), r⟩⟩
  fn := fun i hi => by
    obtain ⟨a, o, pm, cd, doc, h1, h2, h3, c0, o0, vs, t, e, g, hd, r⟩ := (W.fn i hi).there
    refine ⟨a, o, pm, cd, doc, h1, (reg_oth fun z => ?_).trans h2, h3, c0, o0, vs, t, e, (reg_oth fun z => ?_).trans g, hd, r⟩
    · rw [z, ht.2] at h2; cases h2; cases h3
    · rw [z, ht.2] at g; cases g; cases hd; exact hps _ _ r
  glo := fun y hy => by
    obtain ⟨v, hv, hr⟩ := W.glo y hy
    refine ⟨v, hv, fun h O hst => ?_⟩
    have hT : h.get? T = some { cls := .none, data := .fields ps' } := hst T _ (reg_self ht.2)
    have := hr (regrown h T ps) O fun b o e => by
      by_cases z : b = T
      · subst z
        rw [ht.2] at e; cases e
        exact reg_self hT
      · exact (reg_oth z).trans (hst b o ((reg_oth z).trans e))
    refine this.moved fun b o e nf => ?_
    by_cases z : b = T
    · subst z
      rw [reg_self hT] at e; cases e
      exact absurd rfl (nf _)
    · rwa [reg_oth z] at e
  blt := W.blt
theorem BMod.reg {C : Cx} {bm : Addr} {ob : Obj} {c T : Addr} {ps ps' : Array Value} (M : BMod C.base mainGlobals C.mg bm ob) (ht : C.base.TableAt c T ps) : BMod (C.on (regrown C.base T ps')).base mainGlobals (C.on (regrown C.base T ps')).mg bm ob := M.extBut ht reg_ext
theorem OldK.reg {h₀ : Heap} {C : Cx} {n : Str} {gp : Pos} {c T : Addr} {ps more : Array Value} (K : OldK h₀ C.base) (x : Tb h₀ C n gp c T ps) (ok : C.Ok) : OldK h₀ (regrown C.base T (ps ++ more)) := by
  obtain ⟨ps₀, h0⟩ := x.old
  have hcT : c ≠ T := fun z => by
    obtain ⟨⟨o, vs, e, hc, _⟩, e'⟩ := x.tab
    rw [z, e'] at e; cases e; cases hc
  refine K.step_table (more := more) h0 x.tab ?_ reg_ext (x.st ok)
  obtain ⟨⟨o, vs, e, r⟩, e'⟩ := x.tab
  exact ⟨⟨o, vs, (reg_oth hcT).trans e, r⟩, reg_self e'⟩
/-- another function's table, when one has grown -/
theorem Tb.other {h₀ : Heap} {C : Cx} {n n' : Str} {gp gp' : Pos} {c T c' T' a : Addr} {l k : Int} (x : Tb h₀ C n gp c T #[]) (y : Tb h₀ C n' gp' c' T' #[]) (hne : (l == (gp'.line : Int) && k == (gp'.col : Int)) = false) :
    ∃ ps, Tb h₀ (C.on (regrown C.base T (#[] ++ #[rawInt l, rawInt k, .ref a]))) n' gp' c' T' ps := by
  have hc'T : c' ≠ T := fun z => by
    obtain ⟨⟨o, vs, e, hc, _⟩, e'⟩ := y.tab
    rw [z, x.tab.2] at e; cases e; cases hc
  obtain ⟨fa, fo, fd, f1, f2, f3, f4⟩ := y.fn
  have hfa : fa ≠ T := fun z => by rw [z, x.tab.2] at f2; cases f2; cases f3
  have hfn : ∃ a o fd, (C.on (regrown C.base T (#[] ++ #[rawInt l, rawInt k, .ref a]))).mg n' = some (.ref a) ∧ True := ⟨fa, fo, fd, f1, trivial⟩
  obtain ⟨o, vs, file, tf, flags, tg, inF, text, tt, op, ho, r1, r2, r3, r4, r5, r6, hop, hpd, htr, r9⟩ := y.code
  obtain ⟨⟨o', vs', e, r⟩, e'⟩ := y.tab
  by_cases z : T' = T
  · subst z
    refine ⟨#[] ++ #[rawInt l, rawInt k, .ref a], ⟨⟨fa, fo, fd, f1, (reg_oth hfa).trans f2, f3, f4⟩, ⟨o, vs, file, tf, flags, tg, inF, text, tt, _, (reg_oth hc'T).trans ho, r1, r2, r3, r4, r5, r6, reg_self e', rfl, trivial, r9⟩, ⟨⟨o', vs', (reg_oth hc'T).trans e, r⟩, reg_self e'⟩, y.old, ?_, ?_⟩⟩
    · show (if (l == (gp'.line : Int) && k == (gp'.col : Int)) = true then _ else _) = none
      rw [hne]; rfl
    · intro q t hq
      cases hq
  · exact ⟨#[], ⟨⟨fa, fo, fd, f1, (reg_oth hfa).trans f2, f3, f4⟩, ⟨o, vs, file, tf, flags, tg, inF, text, tt, op, (reg_oth hc'T).trans ho, r1, r2, r3, r4, r5, r6, (reg_oth z).trans hop, hpd, htr, r9⟩, ⟨⟨o', vs', (reg_oth hc'T).trans e, r⟩, (reg_oth z).trans e'⟩, y.old, y.nf, y.ns⟩⟩
end Mine

set_option maxRecDepth 100000
set_option autoImplicit false
set_option linter.unusedVariables false
namespace Mine
open PySem PySem.Calls PyProof.Rows
section
variable {C : Cx} {lv : Nat} {sc : Scope} {σ : Sg}
theorem rd_but {P : Pt} {h h' : Heap} {m : Str → Option Value} {O : List Addr} {v : Value} {d : PyData} (hn : Nv sc h P.L m) (k : ∀ b o, b ≠ P.L → h.get? b = some o → h'.get? b = some o) (hO : P.L ∈ O) : Rd O h v d → Rd O h' v d
  | ⟨as, r, kk⟩ => by
    refine ⟨as, reads_on r fun b o e q => ?_, kk⟩
    have hb : b ≠ P.L := by
      rintro rfl
      rcases q with q | ⟨_, vs, n, q⟩
      · exact kk _ q hO
      · obtain ⟨o', es, ep, e', hd, _⟩ := hn
        rw [e] at e'; cases e'
        rw [q] at hd; cases hd
    exact ⟨o, k b o hb e, rfl, rfl⟩
/-- a frame's names when one has been stored and the rest stays -/
theorem FS.but {P : Pt} {h h' : Heap} {y : Str} {v : Value} {d : PyData} {ml' : Str → Option Value} (F : FS C sc P h σ none) (k : ∀ b o, b ≠ P.L → h.get? b = some o → h'.get? b = some o) (hy : sc.names.lookup y = some .local)
    (hns : ∀ ml, h.Ns P.L ml → h'.Ns P.L (fun z => if z = y then some v else ml z)) (r : Rd P.OO h' v d) : FS C sc P h' ((y, d) :: σ) none ∧ Chg P h h' := by
  obtain ⟨S, l, ob, m, hn, hv, ho⟩ := F
  have hLO : P.L ∈ P.OO := List.mem_append_right _ (.head _)
  have hn' := hn
  obtain ⟨oL, es, ep, eL, hdL, ml, cm, ns, X, q⟩ := hn'
  have nL := hns ml ns
  obtain ⟨oL', es', ep', eL', hdL', _⟩ := id nL
  have live : ∀ b o, h.get? b = some o → ∃ o', h'.get? b = some o' := fun b o e => by
    by_cases z : b = P.L
    · exact ⟨oL', z ▸ eL'⟩
    · exact ⟨o, k b o z e⟩
  refine ⟨⟨⟨S.frames, fun b o e => k b o ?_ (S.base b o e), funFrames_to (fun b o e hf => ?_) S.fun_, fun b mm => ?_⟩, fun a q => ?_, fun b q => ?_, fun z => if z = y then some v else m z, ?_, fun z e qq => ?_, ho⟩, ?_, ?_, live⟩
  · rintro rfl
    have := (S.fun_.mem (show P.L ∈ frsOf (P.l sc) from .head _)).1
    rw [this] at e; cases e
  · by_cases z : b = P.L
    · exact ⟨oL', z ▸ eL', fun vs y => by rw [hdL'] at y; cases y⟩
    · exact ⟨o, k b o z e, hf⟩
  · by_cases z : b = P.L
    · exact ⟨oL', es', ep', z ▸ eL', hdL'⟩
    · obtain ⟨o, es, n, e, hd⟩ := S.dicts b mm
      exact ⟨o, es, n, k b o z e, hd⟩
  · obtain ⟨o, e⟩ := l a q
    exact live a o e
  · rw [show P.oa = none from ho] at q; cases q
  · refine ⟨oL', es', ep', eL', hdL', _, cm, nL, ⟨fun n c e => ?_, X.apart, X.above⟩, fun z => ?_⟩
    · obtain ⟨p, f, g⟩ := X.cell n c e
      exact ⟨p, k c p (Nat.ne_of_gt (X.above n c (mem_of_lookup e))) f, g⟩
    · by_cases w : z = y
      · subst w; simp [hy]
      · simp only [w, if_false]; exact q z
  · rw [List.lookup_cons] at qq
    by_cases w : z = y
    · subst w
      rw [beq_self_eq_true] at qq; cases qq
      exact ⟨v, by simp, r⟩
    · rw [beq_eq_false_iff_ne.mpr w] at qq
      obtain ⟨u, e', r'⟩ := hv z e qq
      exact ⟨u, by simp [w, e'], rd_but hn k hLO r'⟩
  · intro b o e mm _
    exact k b o (fun z => mm (z ▸ .head _)) e
  · intro b o e mm _
    exact ⟨o.slots, k b o mm e⟩
/-- y = [.. for x in range(..) if ..] -/
theorem Sp.asgComp {elt iter : Expr} {x y : Str} {px py pos spos : Pos} {ifs : List Expr} {scope : Scope} {a b c : Int} {n : Nat} {Φ : Res → Prop} (cl : Addr → List (Str × Addr)) (ρ : List (Str × Int)) (q : Int → Bool) (f : Int → Int)
    (hr : Rng C lv sc iter σ none a b c) (hsmall : Builtin.Range.small a b c = true) (hn : Builtin.Range.rangeSize a b c = (n : Int)) (hnl : n ≤ sizeLine)
    (hclos : ∀ P : Pt, closureFor scope (P.env sc) = pure (cl P.L)) (hcell : ∀ y ∈ scope.names, y.2 ≠ .cell) (hkind : scope.kind = .function) (hnames : ∀ y ∈ scope.names, y.2 = .local → scope.names.lookup y.1 = some .local) (hx : scope.names.lookup x = some .local)
    (hρ : ∀ y i, ρ.lookup y = some i → σ.lookup y = some (.int i) ∧ sc.names.lookup y = some .cell ∧ (∀ L, ∃ c, (cellsFrom (L + 1) sc.names []).lookup y = some c ∧ (cl L).lookup y = some c) ∧ ∀ P : Pt, (relabel scope (P.env sc)).names.lookup y = some .cell)
    (htest : ∀ (P : Pt) (Cc : Addr) (j : Nat), j < n → Tests C (compEnvC scope (cl P.L) Cc (P.env sc)) ((x, a + (j : Int) * c) :: ρ) ifs (q (a + (j : Int) * c)))
    (helt : ∀ (P : Pt) (Cc : Addr) (j : Nat), j < n → q (a + (j : Int) * c) = true → NumE C (compEnvC scope (cl P.L) Cc (P.env sc)) ((x, a + (j : Int) * c) :: ρ) elt (f (a + (j : Int) * c)))
    (hsw : ∀ P : Pt, swapsWith (.ListComp elt [⟨.Name x px, iter, ifs, 0⟩] scope pos) (some (.Name y py)) spos.line (P.env sc) = pure true) (ly : Lo sc y)
    (h : Φ (.next ((y, L ((((List.range n).map fun j : Nat => a + (j : Int) * c).filter q).map f)) :: σ) none))
    (hs : ∀ env x, foldedSetIterable iter env x = pure x := by intro _ _; with_unfolding_all rfl) :
    Sp C lv sc (.Assign [.Name y py] (.ListComp elt [⟨.Name x px, iter, ifs, 0⟩] scope pos) spos) σ none Φ := by
  intro P s Q E R F K
  refine wpAny_Assign_ListComp_free (onInt q) (fun v y => ∃ i t t', v = .int i t ∧ y = .int (f i) t') (hsw P) (hclos P) hcell hkind hnames hx ly.loc (by show (sc.kind == .class || (sc.kind == .module && _)) = false; rw [ly.kind]; rfl) ?_ (hs _)
  refine hr P s _ _ R F fun r t u v h₁ t₁ x₁ hR => ?_
  refine wpAny_pyIter_range (s := { s with heap := h₁, toks := t₁ }) hR hsmall ?_
  have F₁ := F.ext' x₁
  have up : ∀ o : Obj, h₁.StaysIn (h₁.push o) := fun o b o' e => Heap.get?_push_of_some o e
  have F₁' := F₁
  obtain ⟨_, _, _, m, hnv, hvars, _⟩ := F₁'
  obtain ⟨oL, esL, epL, eL, hdL, ml, cm, ns, X, qm⟩ := hnv
  have hLlt : P.L < h₁.objs.size := Heap.lt_size eL
  have known : ∀ (Cc : Addr) (j : Nat) (v : Value) (s₃ : Shared) (m₃ : Str → Option Value) (o : Obj), (∃ t, v = .int (a + (j : Int) * c) t) → s₃.heap.Ns Cc m₃ → m₃ x = some v → (∀ b o', b ∉ [h₁.objs.size] → (h₁.push o).get? b = some o' → s₃.heap.get? b = some o') →
      C.base.StaysIn s₃.heap ∧ Known (compEnvC scope (cl P.L) Cc (P.env sc)) ((x, a + (j : Int) * c) :: ρ) s₃.heap := by
    intro Cc j v s₃ m₃ o hv hns hm hk
    have st : h₁.StaysIn s₃.heap := fun b o' e => hk b o' (fun m => by
      simp only [List.mem_cons, List.not_mem_nil, or_false] at m
      exact absurd (Heap.lt_size e) (by rw [m]; exact Nat.lt_irrefl _)) (up o b o' e)
    refine ⟨stays_trans F₁.stk.base st, fun y i e => ?_⟩
    rw [List.lookup_cons] at e
    by_cases z : y = x
    · subst z
      rw [beq_self_eq_true] at e; cases e
      obtain ⟨t, rfl⟩ := hv
      exact ⟨t, .inl ⟨m₃, lookup_relabel_local hx, hns, hm⟩⟩
    · rw [beq_eq_false_iff_ne.mpr z] at e
      obtain ⟨e1, e2, e3, e4⟩ := hρ y i e
      obtain ⟨v', hv', rv⟩ := hvars y _ e1
      obtain ⟨t, rfl⟩ := rv.intInv
      obtain ⟨c', c1, c2⟩ := e3 P.L
      have : cm y = some (.int i t) := by rw [← hv', qm y, e2]; rfl
      exact ⟨t, .inr ⟨c', e4 P, c2, (this ▸ X.cell y c' c1).keeps st⟩⟩
  refine ⟨h₁.objs.size, [h₁.objs.size], [h₁.objs.size], n, _, _, ml, rfl, walks_lt (Walks.range R.handled h₁.objs.size a c n), hnl, ?_, ?_, ?_, ns.push _, ⟨?_, ?_⟩, ?_⟩
  · have := Heap.get?_push_size h₁ (o := { cls := .type "range_iterator", data := .fields #[rawInt a, rawInt (n : Int), rawInt c] }) rfl
    show IsRangeIter _ _ _ _ _
    rw [hn]
    simpa [IsRangeIter] using this
  · intro b m
    simp only [List.mem_cons, List.not_mem_nil, or_false] at m
    subst m
    show _ < (h₁.push _).objs.size
    rw [Heap.size_push]; exact Nat.lt_succ_self _
  · intro mm
    have e : P.L = h₁.objs.size := List.mem_singleton.mp mm
    exact absurd hLlt (by rw [e]; exact Nat.lt_irrefl _)
  · intro Cc j v s₃ m₃ E' _ hP hns hm hk _
    obtain ⟨hj, hv⟩ := hP
    obtain ⟨K1, K2⟩ := known Cc j v s₃ m₃ _ hv hns hm hk
    obtain ⟨t, rfl⟩ := hv
    exact htest P Cc j hj P.A s₃ _ _ R.zero K1 K2 fun h' tk x => ⟨rfl, h', tk, rfl, x⟩
  · intro Cc j v s₃ m₃ E' _ hP hpv hns hm hk _
    obtain ⟨hj, hv⟩ := hP
    obtain ⟨K1, K2⟩ := known Cc j v s₃ m₃ _ hv hns hm hk
    obtain ⟨t, rfl⟩ := hv
    exact helt P Cc j hj hpv P.A s₃ _ _ R.zero K1 K2 fun t' h' tk x => ⟨⟨_, t, t', rfl, rfl⟩, h', tk, rfl, x⟩
  · intro D h' tk ys vs hD hl hpl hlen hP hF hns' hk
    obtain ⟨o, e1, e2, n', e3⟩ := hl
    have kk : ∀ b o, b ≠ P.L → h₁.get? b = some o → h'.get? b = some o := fun b o hb e => hk b o hb (fun m => by
      simp only [List.mem_cons, List.not_mem_nil, or_false] at m
      exact absurd (Heap.lt_size e) (by rw [m]; exact Nat.lt_irrefl _)) (up _ b o e)
    have hDO : D ∉ P.OO := fun m => by
      obtain ⟨o', e'⟩ := liveOO F₁ D m
      have := up { cls := .type "range_iterator", data := .fields #[rawInt a, rawInt (Builtin.Range.rangeSize a b c), rawInt c] } D o' e'
      rw [show _ = none from hD] at this
      cases this
    have nsu : ∀ ml₂, h₁.Ns P.L ml₂ → h'.Ns P.L (fun z => if z = y then some (.ref D) else ml₂ z) := fun ml₂ q => by
      have : ml₂ = ml := funext fun z => by
        obtain ⟨o1, es1, ep1, ho1, hd1, _, hf1⟩ := q
        obtain ⟨o2, es2, ep2, ho2, hd2, _, hf2⟩ := ns
        rw [ho1] at ho2; cases ho2
        rw [hd1] at hd2; cases hd2
        rw [← hf1 z, ← hf2 z]
      rw [this]; exact hns'
    obtain ⟨F₂, c₂⟩ := FS.but (ml' := ml) (v := .ref D) (d := L ((((List.range n).map fun j : Nat => a + (j : Int) * c).filter q).map f)) F₁ kk ly.loc nsu (Rd.list e1 e2 e3 hDO ⟨[], paired_filter (isRng.ints ⟨hlen, fun j v e => (hP j v e).2⟩) hF h', fun _ m => nomatch m⟩)
    exact K.next _ _ P.oa h' tk h F₂ ((Chg.of_ext x₁).trans (oa := P.oa) (OaOk.refl _ _) c₂) (OaOk.refl _ _)
end
end Mine

set_option autoImplicit false
set_option linter.unusedVariables false
namespace Mine
/-- the pair that Euclid's steps give -/
def bz (a b : Nat) : Int × Int := if h : b = 0 then (1, 0) else ((bz b (a % b)).2, (bz b (a % b)).1 - ((a / b : Nat) : Int) * (bz b (a % b)).2)
termination_by b
decreasing_by all_goals exact Nat.mod_lt a (Nat.pos_of_ne_zero h)
theorem bz_zero (a : Nat) : bz a 0 = (1, 0) := by rw [bz]; simp
theorem bz_pos {a b : Nat} (h : 0 < b) : bz a b = ((bz b (a % b)).2, (bz b (a % b)).1 - ((a / b : Nat) : Int) * (bz b (a % b)).2) := by
  rw [bz, dif_neg (by omega)]
theorem bz_div {a b : Nat} (h : 0 < b) (h0 : a % b = 0) : bz a b = (0, 1) := by
  rw [bz_pos h, h0, bz_zero]; simp
theorem div_mod_int (a b : Nat) : (a : Int) = (b : Int) * ((a / b : Nat) : Int) + ((a % b : Nat) : Int) := by
  have := Nat.div_add_mod a b
  have h2 : ((b * (a / b) : Nat) : Int) = (b : Int) * ((a / b : Nat) : Int) := Int.natCast_mul _ _
  omega
theorem bz_id (a b : Nat) : (bz a b).1 * (a : Int) + (bz a b).2 * (b : Int) = (Nat.gcd a b : Int) := by
  induction b using Nat.strongRecOn generalizing a with
  | _ b ih =>
    by_cases h : b = 0
    · subst h; rw [bz_zero, Nat.gcd_zero_right]; simp
    · have hb : 0 < b := Nat.pos_of_ne_zero h
      have := ih (a % b) (Nat.mod_lt a hb) b
      rw [bz_pos hb]
      rw [show Nat.gcd a b = Nat.gcd b (a % b) by rw [Nat.gcd_comm a b, Nat.gcd_rec b a, Nat.gcd_comm]]
      rw [← this]
      dsimp only
      have e := div_mod_int a b
      generalize (bz b (a % b)).1 = s at *
      generalize (bz b (a % b)).2 = t at *
      generalize ((a / b : Nat) : Int) = q at *
      generalize ((a % b : Nat) : Int) = r at *
      rw [e, Int.mul_add, Int.sub_mul]
      have : t * ((b : Int) * q) = q * t * (b : Int) := by rw [Int.mul_comm (b : Int) q, ← Int.mul_assoc, Int.mul_comm t q]
      omega
theorem natAbs_sub_le (x y : Int) : (x - y).natAbs ≤ x.natAbs + y.natAbs := by omega
theorem bz_small (a b : Nat) (h : 0 < b) (h0 : a % b ≠ 0) : 2 * (Nat.gcd a b * (bz a b).1.natAbs) ≤ b ∧ 2 * (Nat.gcd a b * (bz a b).2.natAbs) ≤ a := by
  induction b using Nat.strongRecOn generalizing a with
  | _ b ih =>
    have hlt := Nat.mod_lt a h
    have hr : 0 < a % b := Nat.pos_of_ne_zero h0
    have hg : Nat.gcd a b = Nat.gcd b (a % b) := by rw [Nat.gcd_comm a b, Nat.gcd_rec b a, Nat.gcd_comm]
    have hd := Nat.div_add_mod a b
    rw [bz_pos h, hg]
    by_cases h1 : b % (a % b) = 0
    · rw [bz_div hr h1]
      have g1 : Nat.gcd b (a % b) = a % b := by rw [Nat.gcd_comm]; exact Nat.gcd_eq_left (Nat.dvd_of_mod_eq_zero h1)
      rw [g1]
      have h2 : 2 * (a % b) ≤ b := by
        obtain ⟨k, hk⟩ := Nat.dvd_of_mod_eq_zero h1
        have hk2 : 2 ≤ k := by
          by_cases z : k < 2
          · exfalso
            have : k = 0 ∨ k = 1 := by omega
            rcases this with rfl | rfl
            · omega
            · omega
          · omega
        calc 2 * (a % b) ≤ k * (a % b) := Nat.mul_le_mul_right _ hk2
          _ = b := by rw [Nat.mul_comm]; exact hk.symm
      refine ⟨by simpa using h2, ?_⟩
      have : ∀ q : Nat, (0 - (q : Int) * 1).natAbs = q := fun q => by omega
      dsimp only
      rw [this]
      have h3 : 2 * (a % b) * (a / b) ≤ b * (a / b) := Nat.mul_le_mul_right _ h2
      rw [Nat.mul_assoc] at h3
      omega
    · obtain ⟨i1, i2⟩ := ih (a % b) hlt b hr h1
      refine ⟨i2, ?_⟩
      dsimp only
      generalize (bz b (a % b)).1 = s at *
      generalize (bz b (a % b)).2 = t at *
      generalize Nat.gcd b (a % b) = g at *
      have h2 : (s - ((a / b : Nat) : Int) * t).natAbs ≤ s.natAbs + (a / b) * t.natAbs := by
        have := natAbs_sub_le s (((a / b : Nat) : Int) * t)
        rwa [Int.natAbs_mul, Int.natAbs_natCast] at this
      have h3 : 2 * (g * (s - ((a / b : Nat) : Int) * t).natAbs) ≤ 2 * (g * (s.natAbs + (a / b) * t.natAbs)) := Nat.mul_le_mul_left _ (Nat.mul_le_mul_left _ h2)
      have h4 : (a / b) * (2 * (g * t.natAbs)) ≤ (a / b) * b := Nat.mul_le_mul_left _ i2
      have h5 : 2 * (g * (s.natAbs + (a / b) * t.natAbs)) = 2 * (g * s.natAbs) + (a / b) * (2 * (g * t.natAbs)) := by
        rw [Nat.mul_add, Nat.mul_add]
        congr 1
        rw [← Nat.mul_assoc g, Nat.mul_comm g (a / b), Nat.mul_assoc, ← Nat.mul_assoc 2, Nat.mul_comm 2 (a / b), Nat.mul_assoc]
      have h6 : b * (a / b) = (a / b) * b := Nat.mul_comm _ _
      omega
theorem abs_far (m : Int) (b : Nat) : b ≤ m.natAbs + (m + (b : Int)).natAbs := by omega
theorem abs_far' (m : Int) (b : Nat) : b ≤ m.natAbs + (m - (b : Int)).natAbs := by omega
theorem abs_half {m : Int} {b : Nat} (h : 2 * m.natAbs = b) (h' : (m + (b : Int)).natAbs = m.natAbs) : 2 * m = -(b : Int) := by omega
theorem abs_half' {m : Int} {b : Nat} (h : 2 * m.natAbs = b) (h' : (m - (b : Int)).natAbs = m.natAbs) : 2 * m = (b : Int) := by omega
/-- the measure of the pair is the least -/
theorem bz_min (a b : Nat) (hg : 0 < Nat.gcd a b) (k : Int) (hk : k = -1 ∨ k = 1) :
    let m := (bz a b).1
    let n := (bz a b).2
    let m2 := m + k * ((b / Nat.gcd a b : Nat) : Int)
    let n2 := n - k * ((a / Nat.gcd a b : Nat) : Int)
    m.natAbs + n.natAbs < m2.natAbs + n2.natAbs ∨ (m.natAbs + n.natAbs = m2.natAbs + n2.natAbs ∧ m.natAbs < m2.natAbs) := by
  intro m n m2 n2
  have hid : m * (a : Int) + n * (b : Int) = (Nat.gcd a b : Int) := bz_id a b
  obtain ⟨a', ha'⟩ := Nat.gcd_dvd_left a b
  obtain ⟨b', hb'⟩ := Nat.gcd_dvd_right a b
  have ea : a / Nat.gcd a b = a' := Nat.div_eq_of_eq_mul_right hg ha'
  have eb : b / Nat.gcd a b = b' := Nat.div_eq_of_eq_mul_right hg hb'
  have hm2 : m2 = m + k * (b' : Int) := by show m + k * ((b / Nat.gcd a b : Nat) : Int) = _; rw [eb]
  have hn2 : n2 = n - k * (a' : Int) := by show n - k * ((a / Nat.gcd a b : Nat) : Int) = _; rw [ea]
  by_cases hb : b = 0
  · have e : bz a b = (1, 0) := by rw [hb, bz_zero]
    have em : m = 1 := by show (bz a b).1 = 1; rw [e]
    have en : n = 0 := by show (bz a b).2 = 0; rw [e]
    have hg2 : Nat.gcd a b = a := by rw [hb, Nat.gcd_zero_right]
    have ea' : a' = 1 := by
      rw [hg2] at ha' hg
      have : a * a' = a * 1 := by omega
      exact Nat.eq_of_mul_eq_mul_left hg this
    have eb' : b' = 0 := by
      rcases Nat.mul_eq_zero.mp (show Nat.gcd a b * b' = 0 by omega) with z | z
      · omega
      · exact z
    rw [hm2, hn2, em, en, ea', eb']
    rcases hk with rfl | rfl <;> (left; decide)
  · have hbp : 0 < b := Nat.pos_of_ne_zero hb
    by_cases h0 : a % b = 0
    · have e := bz_div hbp h0
      have em : m = 0 := by show (bz a b).1 = 0; rw [e]
      have en : n = 1 := by show (bz a b).2 = 1; rw [e]
      have hg2 : Nat.gcd a b = b := by rw [Nat.gcd_comm]; exact Nat.gcd_eq_left (Nat.dvd_of_mod_eq_zero h0)
      have eb' : b' = 1 := by
        rw [hg2] at hb'
        have : b * b' = b * 1 := by omega
        exact Nat.eq_of_mul_eq_mul_left hbp this
      rw [hm2, hn2, em, en, eb']
      rcases hk with rfl | rfl
      · left; omega
      · by_cases z : a' = 1
        · subst z; right; decide
        · left; omega
    · obtain ⟨i1, i2⟩ := bz_small a b hbp h0
      have j1 : 2 * m.natAbs ≤ b' := by
        have : Nat.gcd a b * (2 * m.natAbs) ≤ Nat.gcd a b * b' := by
          rw [← hb', Nat.mul_left_comm]; exact i1
        exact Nat.le_of_mul_le_mul_left this hg
      have j2 : 2 * n.natAbs ≤ a' := by
        have : Nat.gcd a b * (2 * n.natAbs) ≤ Nat.gcd a b * a' := by
          rw [← ha', Nat.mul_left_comm]; exact i2
        exact Nat.le_of_mul_le_mul_left this hg
      have hone : m * (a' : Int) + n * (b' : Int) = 1 := by
        have hG : (Nat.gcd a b : Int) ≠ 0 := by omega
        apply Int.eq_of_mul_eq_mul_left hG
        have e1 : ((Nat.gcd a b : Nat) : Int) * (a' : Int) = (a : Int) := by rw [← Int.natCast_mul, ← ha']
        have e2 : ((Nat.gcd a b : Nat) : Int) * (b' : Int) = (b : Int) := by rw [← Int.natCast_mul, ← hb']
        rw [Int.mul_add, Int.mul_left_comm, e1, Int.mul_left_comm, e2, Int.mul_one]
        exact hid
      left
      rw [hm2, hn2]
      have noeq : ¬ (2 * m = -(b' : Int) ∧ 2 * n = (a' : Int)) ∧ ¬ (2 * m = (b' : Int) ∧ 2 * n = -(a' : Int)) := by
        have key : (2 * m) * (a' : Int) + (2 * n) * (b' : Int) = 2 := by
          rw [Int.mul_assoc, Int.mul_assoc, ← Int.mul_add, hone]; rfl
        constructor
        · rintro ⟨x, y⟩
          rw [x, y, Int.neg_mul, Int.mul_comm (b' : Int)] at key
          omega
        · rintro ⟨x, y⟩
          rw [x, y, Int.neg_mul, Int.mul_comm (b' : Int)] at key
          omega
      rcases hk with rfl | rfl
      · have := noeq.2
        rw [show m + -1 * (b' : Int) = m - (b' : Int) by omega, show n - -1 * (a' : Int) = n + (a' : Int) by omega]
        have l1 := abs_far' m b'
        have l2 := abs_far n a'
        have m1 := abs_half' (m := m) (b := b')
        have m2 := abs_half (m := n) (b := a')
        clear hm2 hn2 hone hid i1 i2
        generalize (m - (b' : Int)).natAbs = u at *
        generalize (n + (a' : Int)).natAbs = v at *
        by_cases z : m.natAbs + n.natAbs < u + v
        · exact z
        · exact absurd ⟨m1 (by omega) (by omega), m2 (by omega) (by omega)⟩ this
      · have := noeq.1
        rw [show m + 1 * (b' : Int) = m + (b' : Int) by omega, show n - 1 * (a' : Int) = n - (a' : Int) by omega]
        have l1 := abs_far m b'
        have l2 := abs_far' n a'
        have m1 := abs_half (m := m) (b := b')
        have m2 := abs_half' (m := n) (b := a')
        clear hm2 hn2 hone hid i1 i2
        generalize (m + (b' : Int)).natAbs = u at *
        generalize (n - (a' : Int)).natAbs = v at *
        by_cases z : m.natAbs + n.natAbs < u + v
        · exact z
        · exact absurd ⟨m1 (by omega) (by omega), m2 (by omega) (by omega)⟩ this
theorem abs_step {s n : Int} (q : Nat) (h : s * n ≤ 0) : (s - (q : Int) * n).natAbs = s.natAbs + q * n.natAbs ∧ n * (s - (q : Int) * n) ≤ 0 := by
  have hq : (0 : Int) ≤ (q : Int) := Int.natCast_nonneg _
  constructor
  · have e : ((q : Int) * n).natAbs = q * n.natAbs := by rw [Int.natAbs_mul, Int.natAbs_natCast]
    rw [← e]
    rcases Int.lt_trichotomy n 0 with h1 | h1 | h1
    · have hs : 0 ≤ s := by
        by_cases z : s < 0
        · have := Int.mul_pos_of_neg_of_neg z h1; omega
        · omega
      have : (q : Int) * n ≤ 0 := Int.mul_nonpos_of_nonneg_of_nonpos hq (by omega)
      omega
    · subst h1; simp
    · have hs : s ≤ 0 := by
        by_cases z : 0 < s
        · have := Int.mul_pos z h1; omega
        · omega
      have : 0 ≤ (q : Int) * n := Int.mul_nonneg hq (by omega)
      omega
  · rw [Int.mul_sub]
    have h1 : 0 ≤ n * ((q : Int) * n) := by
      rw [Int.mul_left_comm]
      exact Int.mul_nonneg hq (by
        rcases Int.lt_trichotomy n 0 with z | z | z
        · exact Int.le_of_lt (Int.mul_pos_of_neg_of_neg z z)
        · subst z; decide
        · exact Int.le_of_lt (Int.mul_pos z z))
    have : n * s = s * n := Int.mul_comm _ _
    omega
end Mine

set_option maxRecDepth 100000
set_option autoImplicit false
set_option linter.unusedVariables false
namespace Mine
open PySem PySem.W PySem.Calls PyProof.Rows
theorem ints_of {R : WRecords} : ∀ {xs : List WData}, WShape.hasItems R xs .int = true → ∃ is : List Int, xs = is.map WData.int
  | [], _ => ⟨[], rfl⟩
  | x :: xs, h => by
    simp only [WShape.hasItems, Bool.and_eq_true] at h
    obtain ⟨i, rfl⟩ := hasW_int h.1
    obtain ⟨is, rfl⟩ := ints_of h.2
    exact ⟨i :: is, rfl⟩
theorem reads_int {R : WRecords} {cl : Str → Option Addr} {h : Heap} {i : Int} {v : Value} {as : List Addr} (x : ReadsW R cl h v (.int i) as) : ∃ t, v = .int i t := by
  cases x
  exact ⟨_, rfl⟩
theorem reads_ints {R : WRecords} {cl : Str → Option Addr} {h : Heap} : ∀ {is : List Int} {vs : List Value} {as : List Addr}, ReadsAllW R cl h vs (is.map WData.int) as → ReadsAll h vs (I is) [] := by
  intro is
  induction is with
  | nil => intro vs as x; cases x; exact .nil
  | cons i is ih =>
    intro vs as x
    cases x with
    | cons y r =>
      obtain ⟨t, rfl⟩ := reads_int y
      exact ReadsAll.cons (.int i t) (ih r)
def fnsOf (p : Program) : List (Str × Arguments × List Stmt × Scope) := p.main.body.filterMap fun st => match st with | .FunctionDef n a b _ _ _ s _ _ _ => some (n, a, b, s) | _ => none
theorem fn_mem {p : Program} {i : Nat} (h : (match p.main.body[i]? with | some (.FunctionDef ..) => true | _ => false) = true) : (nameAt p i, paramsAt p i, bodyAt p i, scopeAt p i) ∈ fnsOf p := by
  cases q : p.main.body[i]? with
  | none => rw [q] at h; cases h
  | some st =>
    cases st <;> rw [q] at h <;> first | (cases h; done) | skip
    refine List.mem_filterMap.mpr ⟨_, List.mem_of_getElem? q, ?_⟩
    simp only [nameAt, paramsAt, bodyAt, scopeAt, q]
/-- a name of the module that holds an int, or a tuple of ints -/
def gloOk (p : Program) (y : Str × PyData) : Prop := match y.2 with
  | .int i => valOf p y.1 = some (.int i)
  | .tuple ds => (∃ ns : List Int, ds = I ns ∧ tupIntsOf p y.1 = some ns) ∨ (∃ ss : List Str, ds = ss.map .str ∧ tupStrsOf p y.1 = some ss)
  | _ => False
theorem glo_int {p : Program} {x : Str} {i : Int} (e : valOf p x = some (.int i)) : gloOk p (x, .int i) := e
theorem glo_tup {p : Program} {x : Str} {ns : List Int} (e : tupIntsOf p x = some ns) : gloOk p (x, .tuple (I ns)) := .inl ⟨ns, rfl, e⟩
theorem glo_tupS {p : Program} {x : Str} {ss : List Str} (e : tupStrsOf p x = some ss) : gloOk p (x, .tuple (ss.map .str)) := .inr ⟨ss, rfl, e⟩
theorem strs_read {h : Heap} : ∀ {vs : List Value} {ss : List Str}, StrsAre vs ss → ReadsAll h vs (ss.map .str) []
  | _, _, .nil => .nil
  | _, _, .cons y t r => ReadsAll.cons (.str y t) (strs_read r)
theorem ints_read {h : Heap} : ∀ {vs : List Value} {ns : List Int}, IntsAre vs ns → ReadsAll h vs (I ns) [] := fun {vs ns} e => IntsAre.reads _ e
theorem glo_ok {view : Program} {y : Str × PyData} {p : Program} {w : World} {h : Heap} {loose : List Str} {mean : ExcName → Option Value} {mg mb : Str → Option Value} (T : Top view loose mean mg mb h) (B : Tables view w mg h) (e : gloOk view y) : Glo ⟨p, w, h, mg, mb⟩ y.1 y.2 := by
  obtain ⟨x, d⟩ := y
  unfold gloOk at e
  split at e
  · rename_i i hi
    obtain rfl : d = .int i := hi
    obtain ⟨v, hv, hr⟩ := T.const x _ e
    exact ⟨v, hv, fun h' O _ => ⟨[], hr h', fun _ m => nomatch m⟩⟩
  · rename_i ds hi
    obtain rfl : d = .tuple ds := hi
    rcases e with ⟨ns, rfl, e⟩ | ⟨ss, rfl, e⟩
    · obtain ⟨a, vs, hv, ⟨o, g1, g2, n, g3⟩, hi⟩ := B.tupI x ns e
      exact ⟨_, hv, fun h' O st => ⟨[], .tuple (st _ _ g1) g2 g3 (by simpa using ints_read hi), fun _ m => nomatch m⟩⟩
    · obtain ⟨a, vs, hv, ⟨o, g1, g2, n, g3⟩, hi⟩ := B.tupS x ss e
      exact ⟨_, hv, fun h' O st => ⟨[], .tuple (st _ _ g1) g2 g3 (by simpa using strs_read hi), fun _ m => nomatch m⟩⟩
  · exact e.elim
def bltOk (view : Program) (loose : List Str) (y : Str × Value) : Bool := !(startupNames.contains y.1) && !(loose.contains y.1) && !(((recsOf view).map (·.name)).contains y.1) && !(((litsOf view).map (·.1)).contains y.1) && !(((clssOf view loose).map (·.name)).contains y.1) && !(y.1 == ("__name__" : Str)) && (match bootBuiltins y.1, y.2 with | some (.builtin a), .builtin b => a == b | some (.type a), .type b => a == b | _, _ => false)
theorem blt_ok {y : Str × Value} {view : Program} {loose : List Str} {mean : ExcName → Option Value} {h : Heap} {mg mb : Str → Option Value} (T : Top view loose mean mg mb h) (e : bltOk view loose y = true) : mg y.1 = none ∧ mb y.1 = some y.2 := by
  obtain ⟨x, v⟩ := y
  unfold bltOk at e
  simp only [Bool.and_eq_true, Bool.not_eq_true', beq_eq_false_iff_ne, List.contains_eq_mem, decide_eq_false_iff_not] at e
  obtain ⟨⟨⟨⟨⟨⟨a1, a2⟩, a3⟩, a4⟩, a5⟩, e2⟩, e3⟩ := e
  refine ⟨T.free x a1 a2 a3 a4 a5, (T.builtins x e2).trans ?_⟩
  split at e3
  · rename_i a b q1 q2
    simp only [beq_iff_eq] at e3
    subst e3
    exact q2
  · rename_i a b q1 q2
    simp only [beq_iff_eq] at e3
    subst e3
    exact q2
  · cases e3
/-- the world as the given top leaves it -/
theorem world {p view : Program} {loose : List Str} {mean : ExcName → Option Value} {w : World} {mg mb : Str → Option Value} {h : Heap} {glo : List (Str × PyData)} {blt : List (Str × Value)} (T : Top view loose mean mg mb h) (B : Tables view w mg h)
    (hfn : (recsOf view).map (fun d => (d.name, d.params, d.body, d.scope)) = fnsOf p)
    (hglo : ∀ y ∈ glo, gloOk view y) (hblt : blt.all (bltOk view loose) = true) : Wd ⟨p, w, h, mg, mb⟩ p glo blt where
  ok := ⟨T.g, T.b, T.nolimit, T.nodigits⟩
  fn := fun i hi => by
    have hm := fn_mem hi
    rw [← hfn] at hm
    obtain ⟨d, hd, e⟩ := List.mem_map.mp hm
    simp only [Prod.mk.injEq] at e
    obtain ⟨h1, h2, h3, h4⟩ := e
    have := T.fn d hd
    rw [h1, h2, h3, h4] at this
    exact ⟨this⟩
  glo := fun y hy => glo_ok T B (hglo y hy)
  blt := fun y hy => blt_ok T (List.all_eq_true.mp hblt y hy)
end Mine

set_option maxRecDepth 100000
set_option autoImplicit false
set_option linter.unusedVariables false
namespace Mine
open PySem PySem.W PySem.Calls PyProof.Rows
/-- from the law's contract to the statement, where generators are made -/
theorem closeG {l : OpenLaw} {C : Cx} {k n : Nat} {s₁ : Shared} {fa : Addr} {args : List WData} {vals : List Value} {as : List Addr} {cl : Str → Option Addr} {mean : ExcName → Option Value} (hC : C.prog = l.prog) (hb : C.base = s₁.heap) (hmost : l.most = some n)
    (hmg : C.mg l.name = some (.ref fa)) (hg : s₁.gens = #[]) (hpre : l.row.claim.pre args = true) (hrd : ReadsAllW l.row.records cl s₁.heap vals args as) (hk : k ≤ 100) (H : ∀ xs : List Int, xs.length ≤ n → GivesG C k l.name [L xs] (OldK C.base)) :
    wpAny (model l.row.prog C.w) callerA (call (.ref fa) vals) (fun v s' => GoodWG l.row.claim cl mean args s₁ (.ok (.ret v)) s') (fun e s' => GoodWG l.row.claim cl mean args s₁ (.error e) s') s₁ := by
  have hsh := (pre_splitW hpre).1
  have hcond := (pre_splitW hpre).2
  obtain ⟨d, r, rfl, h1, h2⟩ := hasAllW_cons hsh
  have := hasAllW_nil h2
  subst this
  obtain ⟨ws, rfl, h3⟩ := hasW_list h1
  obtain ⟨xs, rfl⟩ := ints_of h3
  have hlen : xs.length ≤ n := by
    have hc : l.pre.holds [] { args := [WData.list (xs.map WData.int)] } = true := hcond
    unfold OpenLaw.pre at hc
    rw [hmost] at hc
    have h1 := (holds_andW hc).1
    by_cases q : xs.length ≤ n
    · exact q
    · exfalso
      have q' : n < xs.length := by omega
      simp [WTm.holds, WTm.value, less?, Num.less?, q'] at h1
  obtain ⟨a, o, fd, e1, e2, e3, hcall⟩ := H xs hlen
  rw [hmg] at e1
  cases e1
  rw [hC] at hcall
  cases hrd with
  | cons rv rn =>
  cases rn
  cases rv with
  | list g1 g2 g3 g4 =>
  refine hcall callerA [] [] s₁ _ _ _ ⟨rfl, by show 1 + 300 + k < 1000; omega, by show 4 + 20 * k + 200 < 9900; omega⟩ ⟨rfl, by rw [hb]; exact fun _ _ e => e, trivial, fun _ m => nomatch m⟩ (fun _ m => nomatch m) (AllBare.of_eq hg)
    (RdAll.cons (Rd.list g1 g2 g3 (fun m => nomatch m) ⟨_, reads_ints g4, fun _ m => nomatch m⟩) RdAll.nil) ?_
  intro b h' tk g hΨ hst u hgb
  rw [hb] at hΨ
  refine ⟨.inl ⟨_, _, _, rfl, fun _ => rfl, .bool true, ?_, fun _ => ⟨List.nodup_nil, fun _ m => nomatch m⟩⟩, hΨ.step_keeps hst, rfl, hgb⟩
  refine postW_of (X := true) ?_ ?_ rfl
  · show WShape.has _ (.bool true) .bool = true
    simp [WShape.has, WShape.arms]
  · show WTm.value _ (.eq .res (.lit (.bool true))) _ = _
    simp [WTm.value, same]
/-- the table of a function as the given top leaves it -/
theorem tb_top {p view : Program} {loose : List Str} {mean : ExcName → Option Value} {w : World} {mg mb : Str → Option Value} {h : Heap} {n : Str} {gp : Pos} (T : Top view loose mean mg mb h) (hn : ∃ d ∈ recsOf view, d.name = n) : ∃ c P, Tb h ⟨p, w, h, mg, mb⟩ n gp c P #[] := by
  obtain ⟨d, hd, rfl⟩ := hn
  obtain ⟨a, o, fd, c, P, h1, h2, h3, h4, h5, h6⟩ := T.tab d hd
  exact ⟨c, P, ⟨⟨a, o, fd, h1, h2, h3, h4⟩, h5, h6, ⟨_, h6⟩, rfl, fun q t e => by cases e⟩⟩
theorem bm_top {p view : Program} {loose : List Str} {mean : ExcName → Option Value} {w : World} {mg mb : Str → Option Value} {h : Heap} (T : Top view loose mean mg mb h) : ∃ bm ob, BMod (Cx.base ⟨p, w, h, mg, mb⟩) mainGlobals (Cx.mg ⟨p, w, h, mg, mb⟩) bm ob := by
  obtain ⟨bm, ob, h1, h2, h3, h4, h5, h6⟩ := T.bmain
  exact ⟨bm, ob, ⟨T.g, h1, h2, h3, h4, h5, h6⟩⟩
end Mine

set_option maxRecDepth 100000
set_option autoImplicit false
set_option linter.unusedVariables false
set_option Elab.async false
set_option maxHeartbeats 4000000
namespace Mine
open PySem PySem.Calls PyProof.Rows
local macro_rules | `(tactic| walk_at "zlk") => `(tactic| first | (with_reducible assumption) | (with_reducible exact Lk.here) | (with_reducible refine' Lk.there ?zn ?zz; (case zn => decide +kernel); (case zz => walk_at "zlk")))
local macro_rules | `(tactic| walk_at "zgl") => `(tactic| ((with_reducible refine ⟨?_, ?_, ?_⟩) <;> decide +kernel))
local macro_rules | `(tactic| walk_at "zoff") => `(tactic| first | exact Off.none | (refine Off.some ?_; decide +kernel))
local macro_rules | `(tactic| walk_at "zfn") => `(tactic| fail "zfn: no function")
-- a name of the module, a built-in name: its value is found by the list
local macro_rules | `(tactic| walk_at "zglo") => `(tactic| first | (with_reducible exact List.mem_cons_self) | ((with_reducible refine List.mem_cons_of_mem _ ?_); walk_at "zglo"))
local macro_rules | `(tactic| walk_at "zblt") => `(tactic| first | (with_reducible exact List.mem_cons_self) | ((with_reducible refine List.mem_cons_of_mem _ ?_); walk_at "zblt"))
-- one step at an expression
local macro_rules | `(tactic| walk_at "zEname") => `(tactic| first
  | (with_reducible refine' Ev.nm ?zh ?zg; (case zg => walk_at "zgl"); (case zh => walk_at "zlk"))
  | (with_reducible refine' Ev.gl ?zW ?zm ?zg; (case zW => assumption); (case zg => walk_at "zgl"); (case zm => walk_at "zglo")))
local macro_rules | `(tactic| walk_at "zEcall") => `(tactic| first
  | (with_reducible refine' Ev.lenI ?zW ?zm ?zg ?ze ?zs; (case zW => assumption); (case zm => decide +kernel); (case zg => walk_at "zgl"))
  | (with_reducible refine' Ev.fn ?zW ?ze ?zf ?zk ?zg; (case zW => assumption); (case zg => walk_at "zgl"); (case ze => walk_at "zev"); (case zf => (walk_at "zfn" <;> walk_at "zar")); (case zk => decide))
  | (with_reducible refine' Ev.maxI ?zW ?zm ?zg ?ze ?zf; (case zW => assumption); (case zm => decide +kernel); (case zg => walk_at "zgl"))
  | (with_reducible refine' Ev.absI ?zW ?zm ?zg ?ze; (case zW => assumption); (case zm => decide +kernel); (case zg => walk_at "zgl")))
local macro_rules | `(tactic| walk_at "zE") => `(tactic| first
  | ((with_reducible show Ev _ _ _ (Expr.Name _ _) _ _ _); walk_at "zEname")
  | ((with_reducible show Ev _ _ _ (Expr.Constant _ _ _) _ _ _); first | with_reducible exact Ev.int | with_reducible exact Ev.bool | with_reducible exact Ev.str | with_reducible exact Ev.non)
  | (with_reducible refine' Ev.bin ?_ ?_ ?_)
  | ((with_reducible show Ev _ _ _ (Expr.Call _ _ _ _) _ _ _); walk_at "zEcall")
  | ((with_reducible show Ev _ _ _ (Expr.Subscript _ _ _) _ _ _); first
    | (with_reducible refine' Ev.takeI ?_ ?_ ?_ ?_)
    | (with_reducible refine' Ev.dropI ?_ ?_ ?_ ?_)
    | (with_reducible refine' Ev.copyI ?_ ?_)
    | (with_reducible refine' Ev.revI ?_ ?_ ?_)
    | (with_reducible refine' Ev.itemOwnI ?ze ?z0 ?z1 ?z2 ?zg; (case zg => walk_at "zgl"))
    | (with_reducible refine' Ev.item ?_ ?_ ?_))
  | ((with_reducible show Ev _ _ _ (Expr.Compare _ _ _ _) _ _ _); first
    | (with_reducible refine' Ev.ty ?zW ?zm ?zT ?zg ?zh ?ze; (case zW => assumption); (case zm => decide +kernel); (case zT => walk_at "zblt"); (case zg => walk_at "zgl"); (case zh => walk_at "zgl"))
    | (with_reducible refine' Ev.cmp ?_ ?_ ?_))
  | (with_reducible refine' Ev.una ?_ ?_)
  | (with_reducible refine' Ev.tuple ?_ ?zs)
  | (with_reducible refine' Ev.listI ?_ ?_))
local macro_rules | `(tactic| walk_at "z1") => `(tactic| first
  | ((with_reducible show Ev _ _ _ _ _ _ _); walk_at "zE")
  | ((with_reducible show Lk _ _ _); walk_at "zlk")
  | ((with_reducible show Bin _ _ _ _ _); first
    | with_reducible exact Bin.add
    | with_reducible exact Bin.sub
    | (with_reducible refine' Bin.modP ?_)
    | (with_reducible refine' Bin.divP ?_ ?_)
    | with_reducible exact Bin.mulR (by decide) (by decide)
    | (with_reducible refine' Bin.mulL ?_ ?_)
    | (with_reducible refine' Bin.addI ?_))
  | ((with_reducible show Cmp _ _ _ _ _); first
    | with_reducible exact Cmp.lt
    | with_reducible exact Cmp.eqInt
    | with_reducible exact Cmp.neInt
    | with_reducible exact Cmp.gt
    | with_reducible exact Cmp.le
    | with_reducible exact Cmp.ge
    | walk_at "zcmp")
  | ((with_reducible show Itm _ _ _ _); first
    | (with_reducible refine' Itm.listI ?_ ?_ ?_)
    | with_reducible exact Itm.at0
    | with_reducible exact Itm.at1
    | with_reducible exact Itm.at2
    | walk_at "zitm")
  | ((with_reducible show EvAll _ _ _ _ _ _ _); first | with_reducible exact EvAll.nil | (with_reducible refine' EvAll.cons ?_ ?_))
  | ((with_reducible show EvI _ _ _ _ _ _ _); first | with_reducible exact EvI.nil | (with_reducible refine' EvI.cons ?_ ?_))
  | ((with_reducible show Tst _ _ _ _ _ _ _); first
    | (with_reducible refine' Tst.ty ?zW ?zm ?zT ?zg ?zh ?ze; (case zW => assumption); (case zm => decide +kernel); (case zT => walk_at "zblt"); (case zg => walk_at "zgl"); (case zh => walk_at "zgl"))
    | (with_reducible refine' Tst.cmp ?_ ?_ ?_)
    | (with_reducible refine' Tst.not ?_)
    | (with_reducible refine' Tst.val ?_ ?_))
  | ((with_reducible show Tru _ _ _); with_reducible exact Tru.bool)
  | ((with_reducible show Aug _ _ _ _ _); first | with_reducible exact Aug.add | with_reducible exact Aug.sub)
  | ((with_reducible show Una _ _ _ _); first | with_reducible exact Una.neg | with_reducible exact Una.not Tru.bool)
  | ((with_reducible show Gl _ _); walk_at "zgl")
  | ((with_reducible show Lo _ _); walk_at "zgl")
  | ((with_reducible show Off _ _); walk_at "zoff"))
local macro_rules | `(tactic| walk_at "zcmp") => `(tactic| fail "zcmp")
local macro_rules | `(tactic| walk_at "zitm") => `(tactic| fail "zitm")
local macro_rules | `(tactic| walk_at "zz") => `(tactic| repeat' (walk_at "z1"))
-- a def's frame
local macro_rules | `(tactic| walk_at "zpl1") => `(tactic| exact ⟨fun vs hv pm cd doc => by (match vs, hv with | [_], _ => rfl), by decide +kernel, rfl, rfl, rfl, by decide +kernel⟩)
local macro_rules | `(tactic| walk_at "zpl2") => `(tactic| exact ⟨fun vs hv pm cd doc => by (match vs, hv with | [_, _], _ => rfl), by decide +kernel, rfl, rfl, rfl, by decide +kernel⟩)
local macro_rules | `(tactic| walk_at "zpl3") => `(tactic| exact ⟨fun vs hv pm cd doc => by (match vs, hv with | [_, _, _], _ => rfl), by decide +kernel, rfl, rfl, rfl, by decide +kernel⟩)
local macro_rules | `(tactic| walk_at "zar") => `(tactic| first | omega | (simp only [sizeLine_eq, List.length_append, List.length_cons, List.length_nil, List.length_map, List.length_replicate, List.length_set, List.length_take, List.length_drop, List.length_reverse]; omega) | decide | assumption)
local macro_rules | `(tactic| walk_at "zev") => `(tactic| (walk_at "zz"; all_goals walk_at "zar"))
-- statements
local macro_rules | `(tactic| walk_at "zasg") => `(tactic| (with_reducible refine' WP.asg ?za ?zl ?zo ?zk; (case zl => walk_at "zgl"); (case zo => walk_at "zoff"); (case za => walk_at "zev")))
local macro_rules | `(tactic| walk_at "zaug") => `(tactic| (with_reducible refine' WP.aug ?za ?zb ?zc ?zl ?zo ?zk; (case zl => walk_at "zgl"); (case zo => walk_at "zoff"); (case za => walk_at "zlk"); (case zb => walk_at "zev"); (case zc => walk_at "zev")))
local macro_rules | `(tactic| walk_at "zopen") => `(tactic| conv in (bodyAt _ _) => whnf)
abbrev pP := PySem.Challenge.pw_sx_zlimbs_6
abbrev tbScales : List Int := [1, 1, 2, 7, 100, 4999, 5000, 9999, 10000, 10001, 65536]
abbrev tbQuots : List Int := [0, 1, 2, 3, 9, 5000, 9999, 10000, 10001, 65536, 99999999]
abbrev tbDigits : List Int := [0, 1, 2, 4999, 5000, 9998, 9999]
abbrev gloP : List (Str × PyData) := [("BASE", .int 10000), ("_law_scales", .tuple (I tbScales)), ("_law_quots", .tuple (I tbQuots)), ("_law_digits", .tuple (I tbDigits))]
abbrev bltP : List (Str × Value) := [("len", .builtin "len"), ("max", .builtin "max"), ("abs", .builtin "abs"), ("any", .builtin "any"), ("range", .type "range"), ("ValueError", .type "ValueError"), ("ZeroDivisionError", .type "ZeroDivisionError"), ("type", .type "type"), ("int", .type "int")]
abbrev ix_trimmed := 2
abbrev ix_from_int := 3
abbrev ix_to_int := 4
abbrev ix_compare := 5
abbrev ix_add := 6
abbrev ix_sub := 7
abbrev ix_mul_small := 8
abbrev ix_mul_school := 9
abbrev ix_trial_digit := 10
abbrev ix_divmod_long := 11
abbrev ix_gcd_nat := 12
abbrev ix_with_sign := 13
abbrev ix_signed_from_int := 14
abbrev ix_signed_divmod := 20

abbrev D (n : Nat) : PyData := L (dig n)
theorem Lk.del {σ : Sg} {x y : Str} {d : PyData} (h : (x == y) = false) (k : Lk σ x d) : Lk (Mine.del σ y) x d := by
  induction σ with
  | nil => exact k
  | cons z σ ih =>
    obtain ⟨z, c⟩ := z
    unfold Lk at k
    rw [List.lookup_cons] at k
    show List.lookup x (Mine.del ((z, c) :: σ) y) = some d
    unfold Mine.del
    rw [List.filter_cons]
    by_cases q : z = y
    · subst q
      rw [h] at k
      rw [if_neg (by simp)]
      exact ih k
    · rw [if_pos (by simp [q]), List.lookup_cons]
      by_cases r : x = z
      · subst r; rw [beq_self_eq_true] at k ⊢; exact k
      · rw [beq_eq_false_iff_ne.mpr r] at k ⊢; exact ih k
theorem Ev.iteT {C : Cx} {lv : Nat} {sc : Scope} {σ : Sg} {ow : Ow} {t x y : Expr} {pos : Pos} {d : PyData} (h : Tst C lv sc t σ ow true) (hx : Ev C lv sc x σ ow d) : Ev C lv sc (.IfExp t x y pos) σ ow d := Ev.ite h (fun _ => hx) fun e => by cases e
theorem Ev.iteF {C : Cx} {lv : Nat} {sc : Scope} {σ : Sg} {ow : Ow} {t x y : Expr} {pos : Pos} {d : PyData} (h : Tst C lv sc t σ ow false) (hy : Ev C lv sc y σ ow d) : Ev C lv sc (.IfExp t x y pos) σ ow d := Ev.ite h (fun e => by cases e) fun _ => hy
theorem Tst.to {C : Cx} {lv : Nat} {sc : Scope} {σ : Sg} {ow : Ow} {t : Expr} {b c : Bool} (h : Tst C lv sc t σ ow b) (e : b = c) : Tst C lv sc t σ ow c := e ▸ h
theorem Ev.to {C : Cx} {lv : Nat} {sc : Scope} {σ : Sg} {ow : Ow} {t : Expr} {b c : PyData} (h : Ev C lv sc t σ ow b) (e : b = c) : Ev C lv sc t σ ow c := e ▸ h
local macro_rules | `(tactic| walk_at "zlk") => `(tactic| first | (with_reducible assumption) | (with_reducible exact Lk.here) | (with_reducible refine' Lk.there ?zn ?zz; (case zn => decide +kernel); (case zz => walk_at "zlk")) | (with_reducible refine' Lk.del ?zn ?zz; (case zn => decide +kernel); (case zz => walk_at "zlk")))
-- an expression, its value turned
local macro_rules | `(tactic| walk_at "zto") => `(tactic| (with_reducible refine' Ev.to ?zu ?zb; (case zu => walk_at "zev")))
-- a test: its truth is left to arithmetic
local macro_rules | `(tactic| walk_at "ztst") => `(tactic| (with_reducible refine' Tst.to ?zt ?zb; (case zt => walk_at "zev")))
local macro_rules | `(tactic| walk_at "zret") => `(tactic| ((with_reducible refine' WP.ret ?za ?zk); (case za => walk_at "zev"); (try (show Res.ret _ = Res.ret _))))
local macro_rules | `(tactic| walk_at "zskip") => `(tactic| (with_reducible refine' WP.skip ?zt ?zk; (case zt => (with_reducible refine' Tst.to ?zu ?zb; (case zu => walk_at "zev"); (case zb => walk_at "zdec")))))
local macro_rules | `(tactic| walk_at "zifT") => `(tactic| (with_reducible refine' WP.ifT ?zt ?zk; (case zt => (with_reducible refine' Tst.to ?zu ?zb; (case zu => walk_at "zev"); (case zb => walk_at "zdec")))))
local macro_rules | `(tactic| walk_at "zdec") => `(tactic| first | rfl | (simp only [Int.toNat_natCast, decide_eq_true_eq, decide_eq_false_iff_not, Bool.not_eq_true', Bool.not_eq_false', Bool.not_eq_true, Bool.not_eq_false]; first | done | assumption | omega) | (simp; first | done | omega))
local macro_rules | `(tactic| walk_at "zown") => `(tactic| (with_reducible refine' WP.own ?ze ?zl ?zk; (case ze => exact EvNew.listI EvI.nil (by decide)); (case zl => walk_at "zgl")))
local macro_rules | `(tactic| walk_at "zapp") => `(tactic| (with_reducible refine' WP.append ?za ?zl ?zs ?zn ?zk; (case zl => walk_at "zgl"); (case zn => decide +kernel); (case za => walk_at "zev"); (case zs => walk_at "zar")))

theorem trimmed_gives {C : Cx} (W : Wd C pP gloP bltP) (xs : List Int) (hs : xs.length ≤ 1000) : Gives C 1 "trimmed" [L xs] (L (trim xs)) := by
  refine Gives.of_body (lv := 0) (xs := ["a"]) W.ok (W.fn ix_trimmed rfl) (by walk_at "zpl1") rfl ?_
  show WP C 0 (scopeAt pP ix_trimmed) _ [("a", L xs)] none _
  walk_at "zopen"
  walk_at "zasg"
  refine WP.while (fun k σ ow => ∃ n : Nat, k = n ∧ ow = none ∧ Lk σ "n" (.int n) ∧ Lk σ "a" (L xs) ∧ n ≤ xs.length ∧ ∀ j, n ≤ j → xs.getD j 0 = 0) xs.length
    ⟨xs.length, rfl, rfl, by walk_at "zlk", by walk_at "zlk", Nat.le_refl _, fun j hj => by simp [hj]⟩ ?_
  rintro k σ ow ⟨n, rfl, rfl, h1, h2, h3, h4⟩
  refine ⟨decide ((0:Int) < k) && decide (xs.getD ((k : Int) - 1).toNat 0 = 0), Tst.and (a := decide ((0 : Int) < k)) ?_ ?_ ?_, ?_, ?_⟩
  · walk_at "zz"
  · intro hk
    simp only [hk, Bool.true_and]
    simp only [decide_eq_true_eq] at hk
    walk_at "zev"
  · intro hk; rw [hk]; rfl
  · intro hb
    walk_at "zret"
    rw [show (k : Int).toNat = k by omega, trim_take xs k h3 h4]
    simp only [Bool.and_eq_false_iff, decide_eq_false_iff_not] at hb
    rcases hb with hb | hb
    · left; omega
    · right
      rwa [show ((k : Int) - 1).toNat = k - 1 by omega] at hb
  · intro hb
    simp only [Bool.and_eq_true, decide_eq_true_eq] at hb
    walk_at "zaug"
    refine WP.nil ⟨k - 1, by omega, k - 1, rfl, rfl, ?_, by walk_at "zlk", by omega, fun j hj => ?_⟩
    · rw [show ((k - 1 : Nat) : Int) = (k : Int) - 1 by omega]
      walk_at "zlk"
    · by_cases q : j = k - 1
      · subst q
        have := hb.2
        rwa [show ((k : Int) - 1).toNat = k - 1 by omega] at this
      · exact h4 j (by omega)

theorem from_int_gives {C : Cx} (W : Wd C pP gloP bltP) (n : Int) (hn : n.toNat < big) : Gives C 1 "from_int" [.int n] (D n.toNat) := by
  refine Gives.of_body (lv := 0) (xs := ["n"]) W.ok (W.fn ix_from_int rfl) (by walk_at "zpl1") rfl ?_
  show WP C 0 (scopeAt pP ix_from_int) _ [("n", .int n)] none _
  walk_at "zopen"
  walk_at "zown"
  have hlen := len_big hn
  refine WP.while (fun k σ ow => ∃ (v : Int) (xs : List Int), k = v.toNat ∧ ow = some (("limbs" : Str), I xs) ∧ Lk σ "n" (.int v) ∧ xs ++ dig v.toNat = dig n.toNat) n.toNat
    ⟨n, [], rfl, rfl, by walk_at "zlk", rfl⟩ ?_
  rintro k σ ow ⟨v, xs, rfl, rfl, h1, h2⟩
  have hl : xs.length ≤ 25 := by
    have := congrArg List.length h2
    rw [List.length_append] at this
    omega
  refine ⟨decide (0 < v), by walk_at "zz", fun hb => ?_, fun hb => ?_⟩
  · simp only [decide_eq_false_iff_not] at hb
    refine WP.release ?_
    walk_at "zret"
    rw [show v.toNat = 0 by omega, dig_zero, List.append_nil] at h2
    rw [h2]
  · simp only [decide_eq_true_eq] at hb
    walk_at "zapp"
    walk_at "zasg"
    refine WP.nil ⟨(v / 10000).toNat, by omega, v / 10000, xs ++ [v % 10000], rfl, rfl, by walk_at "zlk", ?_⟩
    rw [← h2, dig_pos (by omega : 0 < v.toNat), List.append_assoc, List.singleton_append]
    rw [show (v / 10000).toNat = v.toNat / 10000 by omega, show ((v.toNat % 10000 : Nat) : Int) = v % 10000 by omega]
local macro_rules | `(tactic| walk_at "zfn") => `(tactic| (with_reducible refine' trimmed_gives (by assumption) _ ?_))
local macro_rules | `(tactic| walk_at "zfn") => `(tactic| (with_reducible refine' from_int_gives (by assumption) _ ?_))

/-- how two numbers lie -/
def sg (m n : Nat) : Int := if m < n then -1 else if n < m then 1 else 0
theorem down_cons (k : Nat) : I ((List.range (k + 1)).reverse.map Int.ofNat) = .int k :: I ((List.range k).reverse.map Int.ofNat) := by
  simp [List.range_succ]
theorem compare_gives {C : Cx} (W : Wd C pP gloP bltP) (m n : Nat) (hm : m < big) (hn : n < big) : Gives C 1 "compare" [D m, D n] (.int (sg m n)) := by
  refine Gives.of_body (lv := 0) (xs := ["a", "b"]) W.ok (W.fn ix_compare rfl) (by walk_at "zpl2") rfl ?_
  show WP C 0 (scopeAt pP ix_compare) _ [("b", D n), ("a", D m)] none _
  walk_at "zopen"
  have l1 := len_big hm
  have l2 := len_big hn
  by_cases hl : (dig m).length = (dig n).length
  · walk_at "zskip"
    refine WP.for (ds := I ((List.range (dig m).length).reverse.map Int.ofNat)) (fun r σ ow => ∃ k : Nat, r = I ((List.range k).reverse.map Int.ofNat) ∧ ow = none ∧ k ≤ (dig m).length ∧ Lk σ "a" (D m) ∧ Lk σ "b" (D n) ∧ ∀ j, k ≤ j → (dig m).getD j 0 = (dig n).getD j 0)
      (Src.rngDown W (by decide +kernel) (by walk_at "zgl") (by walk_at "zev") (by walk_at "zev") (by walk_at "zev") (by omega))
      ⟨_, rfl, rfl, Nat.le_refl _, by walk_at "zlk", by walk_at "zlk", fun j hj => by simp [hj, hl ▸ hj]⟩ ?_ ?_
    · rintro d r σ ow ⟨k, e, rfl, hk, h1, h2, h3⟩
      obtain ⟨k, rfl⟩ : ∃ j, k = j + 1 := ⟨k - 1, by
        cases k with
        | zero => simp at e
        | succ k => rfl⟩
      rw [down_cons] at e
      cases e
      refine ⟨_, Asg.nm (by walk_at "zgl") (by walk_at "zoff"), ?_⟩
      by_cases hq : (dig m).getD k 0 = (dig n).getD k 0
      · walk_at "zskip"
        refine WP.nil ⟨k, rfl, rfl, by omega, by walk_at "zlk", by walk_at "zlk", fun j hj => ?_⟩
        by_cases z : j = k
        · rw [z]; exact hq
        · exact h3 j (by omega)
      · walk_at "zifT"
        have lm := lim_dig m
        have ln := lim_dig n
        by_cases hlt : (dig m).getD k 0 < (dig n).getD k 0
        · have hv := val_lt_of_top hl lm ln (fun j hj => h3 j (by omega)) hlt
          rw [val_dig, val_dig] at hv
          refine WP.ret (Ev.iteT (d := .int (-1)) ?_ ?_) ?_
          · walk_at "ztst"
            walk_at "zdec"
          · walk_at "zev"
          · show Res.ret _ = Res.ret _
            unfold sg; rw [if_pos (by omega)]
        · have hv := val_lt_of_top (i := k) hl.symm ln lm (fun j hj => (h3 j (by omega)).symm) (by omega)
          rw [val_dig, val_dig] at hv
          refine WP.ret (Ev.iteF (d := .int 1) ?_ ?_) ?_
          · walk_at "ztst"
            walk_at "zdec"
          · walk_at "zev"
          · show Res.ret _ = Res.ret _
            unfold sg; rw [if_neg (by omega), if_pos (by omega)]
    · rintro σ ow ⟨k, e, rfl, hk, h1, h2, h3⟩
      have : k = 0 := by
        cases k with
        | zero => rfl
        | succ k => rw [down_cons] at e; cases e
      subst this
      have e : dig m = dig n := ext_getD hl fun j => h3 j (Nat.zero_le _)
      have : m = n := by
        have := congrArg val e
        rw [val_dig, val_dig] at this
        omega
      walk_at "zret"
      subst this
      unfold sg; simp
  · walk_at "zifT"
    by_cases hlt : (dig m).length < (dig n).length
    · have := len_lt hlt
      refine WP.ret (Ev.iteT (d := .int (-1)) ?_ ?_) ?_
      · walk_at "ztst"
        walk_at "zdec"
      · walk_at "zev"
      · show Res.ret _ = Res.ret _
        unfold sg; rw [if_pos (by omega)]
    · have := len_lt (show (dig n).length < (dig m).length by omega)
      refine WP.ret (Ev.iteF (d := .int 1) ?_ ?_) ?_
      · walk_at "ztst"
        walk_at "zdec"
      · walk_at "zev"
      · show Res.ret _ = Res.ret _
        unfold sg; rw [if_neg (by omega), if_pos (by omega)]
local macro_rules | `(tactic| walk_at "zfn") => `(tactic| (with_reducible refine' compare_gives (by assumption) _ _ ?_ ?_))

/-- an if without an else, its two ways joined -/
def JoinAt (Ψ : Sg → Ow → Prop) : Res → Prop
  | .next σ ow => Ψ σ ow
  | _ => False
theorem WP.join {C : Cx} {lv : Nat} {sc : Scope} {σ : Sg} {ow : Ow} {rest : List Stmt} {Φ : Res → Prop} {t : Expr} {b : Bool} {body : List Stmt} {pos : Pos} (Ψ : Sg → Ow → Prop) (ht : Tst C lv sc t σ ow b) (h1 : b = true → WP C lv sc body σ ow (JoinAt Ψ)) (h2 : b = false → Ψ σ ow) (h3 : ∀ σ' ow', Ψ σ' ow' → WP C lv sc rest σ' ow' Φ) :
    WP C lv sc (.If t body [] pos :: rest) σ ow Φ :=
  WP.ite ht (fun e => (h1 e).mono fun r hr => by
    cases r with
    | next σ' ow' => exact h3 σ' ow' hr
    | _ => exact hr.elim) fun e => WP.nil (h3 σ ow (h2 e))
theorem up_cons {i N : Nat} (h : i < N) : I (((List.range N).drop i).map Int.ofNat) = .int i :: I (((List.range N).drop (i + 1)).map Int.ofNat) := by
  rw [List.drop_eq_getElem_cons (by simpa using h)]
  simp
theorem up_nil {i N : Nat} (h : N ≤ i) : I (((List.range N).drop i).map Int.ofNat) = [] := by
  rw [List.drop_of_length_le (by simpa using h)]; rfl

theorem add_arith {i : Nat} {v c x y t P X Y : Int} (hP : P = 10000 ^ i) (h : v + P * c = X + Y) (ht : t = c + x + y) : v + P * (t % 10000) + (P * 10000) * (t / 10000) = X + P * x + (Y + P * y) := by
  have e : P * 10000 * (t / 10000) = P * (10000 * (t / 10000)) := by rw [Int.mul_assoc]
  have e2 : P * (t % 10000) + P * (10000 * (t / 10000)) = P * t := by rw [← Int.mul_add]; congr 1; omega
  have e3 : P * t = P * c + P * x + P * y := by rw [ht, Int.mul_add, Int.mul_add]
  omega
theorem add_gives {C : Cx} (W : Wd C pP gloP bltP) (m n : Nat) (hmn : m + n < big) : Gives C 1 "add" [D m, D n] (D (m + n)) := by
  refine Gives.of_body (lv := 0) (xs := ["a", "b"]) W.ok (W.fn ix_add rfl) (by walk_at "zpl2") rfl ?_
  show WP C 0 (scopeAt pP ix_add) _ [("b", D n), ("a", D m)] none _
  walk_at "zopen"
  have l1 := len_big (show m < big by omega)
  have l2 := len_big (show n < big by omega)
  walk_at "zown"
  walk_at "zasg"
  have hN : (max (dig m).length (dig n).length : Nat) = max (dig m).length (dig n).length := rfl
  generalize hNN : max (dig m).length (dig n).length = N at hN
  refine WP.for (ds := I ((List.range N).map Int.ofNat)) (fun r σ ow => ∃ (i : Nat) (xs : List Int) (c : Int), r = I (((List.range N).drop i).map Int.ofNat) ∧ i ≤ N ∧ ow = some (("total" : Str), I xs) ∧ Lk σ "a" (D m) ∧ Lk σ "b" (D n) ∧ Lk σ "carry" (.int c) ∧
      xs.length = i ∧ Lim xs ∧ 0 ≤ c ∧ c ≤ 1 ∧ val xs + 10000 ^ i * c = val ((dig m).take i) + val ((dig n).take i))
    (Src.rng1 W (by decide +kernel) (by walk_at "zgl") (Ev.to (by walk_at "zev") (by rw [← hNN]; congr 1; omega)) (by omega)) ?_ ?_ ?_
  · exact ⟨0, [], 0, rfl, Nat.zero_le _, rfl, by walk_at "zlk", by walk_at "zlk", by walk_at "zlk", rfl, Lim.nil, by decide, by decide, by simp [val]⟩
  · rintro d r σ ow ⟨i, xs, c, e, hi, rfl, h1, h2, h3, h4, h5, h6, h7, h8⟩
    have hiN : i < N := by
      by_cases q : i < N
      · exact q
      · rw [up_nil (by omega)] at e; cases e
    rw [up_cons hiN] at e
    cases e
    refine ⟨_, Asg.nm (by walk_at "zgl") (by walk_at "zoff"), ?_⟩
    have b1 := (lim_dig m).getD i
    have b2 := (lim_dig n).getD i
    walk_at "zasg"
    refine WP.join (b := decide ((i : Int) < (dig m).length)) (fun σ' ow' => ow' = some (("total" : Str), I xs) ∧ Lk σ' "b" (D n) ∧ Lk σ' "a" (D m) ∧ Lk σ' "i" (.int i) ∧ Lk σ' "t" (.int (c + (dig m).getD i 0))) (by walk_at "zev") (fun hb => ?_) (fun hb => ?_) ?_
    · simp only [decide_eq_true_eq] at hb
      walk_at "zaug"
      exact WP.nil ⟨rfl, by walk_at "zlk", by walk_at "zlk", by walk_at "zlk", by rw [Int.toNat_natCast]; walk_at "zlk"⟩
    · simp only [decide_eq_false_iff_not] at hb
      refine ⟨rfl, by walk_at "zlk", by walk_at "zlk", by walk_at "zlk", ?_⟩
      rw [getD_ge (xs := dig m) (by omega), Int.add_zero]
      walk_at "zlk"
    rintro σ₁ _ ⟨rfl, k1, k2, k3, k4⟩
    refine WP.join (b := decide ((i : Int) < (dig n).length)) (fun σ' ow' => ow' = some (("total" : Str), I xs) ∧ Lk σ' "b" (D n) ∧ Lk σ' "a" (D m) ∧ Lk σ' "t" (.int (c + (dig m).getD i 0 + (dig n).getD i 0))) (by walk_at "zev") (fun hb => ?_) (fun hb => ?_) ?_
    · simp only [decide_eq_true_eq] at hb
      walk_at "zaug"
      exact WP.nil ⟨rfl, by walk_at "zlk", by walk_at "zlk", by rw [Int.toNat_natCast]; walk_at "zlk"⟩
    · simp only [decide_eq_false_iff_not] at hb
      refine ⟨rfl, by walk_at "zlk", by walk_at "zlk", ?_⟩
      rw [getD_ge (xs := dig n) (by omega), Int.add_zero]
      walk_at "zlk"
    rintro σ₂ _ ⟨rfl, q1, q2, q3⟩
    generalize ht : c + (dig m).getD i 0 + (dig n).getD i 0 = t at q3
    walk_at "zapp"
    walk_at "zasg"
    refine WP.nil ⟨i + 1, xs ++ [t % 10000], t / 10000, rfl, hiN, rfl, by walk_at "zlk", by walk_at "zlk", by walk_at "zlk", by simp [h4], h5.snoc (by omega) (by omega), by omega, by omega, ?_⟩
    rw [val_snoc, h4, val_take_succ, val_take_succ, Int.pow_succ]
    exact add_arith rfl h8 ht.symm
  · rintro σ ow ⟨i, xs, c, e, hi, rfl, h1, h2, h3, h4, h5, h6, h7, h8⟩
    have hiN : i = N := by
      by_cases q : i < N
      · rw [up_cons q] at e; cases e
      · omega
    subst hiN
    rw [take_of_ge _ (by omega), take_of_ge _ (by omega), val_dig, val_dig] at h8
    refine WP.join (b := decide (0 < c)) (fun σ' ow' => ow' = some (("total" : Str), I (dig (m + n)))) (by walk_at "zev") (fun hb => ?_) (fun hb => ?_) ?_
    · simp only [decide_eq_true_eq] at hb
      walk_at "zapp"
      refine WP.nil ?_
      show some (("total" : Str), I (xs ++ [c])) = _
      rw [eq_dig (xs := xs ++ [c]) (n := m + n) (h5.snoc h6 (by omega)) (snoc_nz (by omega)) (by rw [val_snoc, h4]; omega)]
    · simp only [decide_eq_false_iff_not] at hb
      have hc : c = 0 := by omega
      subst hc
      show some (("total" : Str), I xs) = _
      rw [eq_dig (xs := xs) (n := m + n) h5 (nz_of_ge h5 fun hne => ?_) (by omega)]
      have hpos : 0 < i := by rw [← h4]; exact List.length_pos_iff.mpr hne
      rw [h4]
      by_cases q : (dig m).length = i
      · have hm0 : 0 < m := by
          by_cases z : m = 0
          · subst z; rw [dig_zero] at q; simp at q; omega
          · omega
        have := dig_ge hm0
        rw [q] at this
        omega
      · have q' : (dig n).length = i := by omega
        have hm0 : 0 < n := by
          by_cases z : n = 0
          · subst z; rw [dig_zero] at q'; simp at q'; omega
          · omega
        have := dig_ge hm0
        rw [q'] at this
        omega
    rintro σ' _ rfl
    refine WP.release ?_
    walk_at "zret"
    rfl
local macro_rules | `(tactic| walk_at "zfn") => `(tactic| (with_reducible refine' add_gives (by assumption) _ _ ?_))

theorem sub_arith {i : Nat} {v b x y t b' t' P X Y : Int} (hP : P = 10000 ^ i) (h : v = X - Y + P * b) (ht : t = x - b - y) (ht' : t' = t + 10000 * b') : v + P * t' = X + P * x - (Y + P * y) + P * 10000 * b' := by
  have e : P * 10000 * b' = P * (10000 * b') := by rw [Int.mul_assoc]
  have e3 : P * t' = P * x - P * b - P * y + P * (10000 * b') := by rw [ht', ht, Int.mul_add, Int.mul_sub, Int.mul_sub]
  omega
theorem sub_gives {C : Cx} (W : Wd C pP gloP bltP) (m n : Nat) (hm : m < big) (hn : n ≤ m) : Gives C 2 "sub" [D m, D n] (D (m - n)) := by
  refine Gives.of_body (lv := 1) (xs := ["a", "b"]) W.ok (W.fn ix_sub rfl) (by walk_at "zpl2") rfl ?_
  show WP C 1 (scopeAt pP ix_sub) _ [("b", D n), ("a", D m)] none _
  walk_at "zopen"
  have l1 := len_big hm
  have l2 := len_big (show n < big by omega)
  have l3 := len_le hn
  have hs : ¬ (sg m n < 0) := by unfold sg; split <;> (try split) <;> omega
  walk_at "zskip"
  walk_at "zown"
  walk_at "zasg"
  generalize hNN : (dig m).length = N
  refine WP.for (ds := I ((List.range N).map Int.ofNat)) (fun r σ ow => ∃ (i : Nat) (xs : List Int) (c : Int), r = I (((List.range N).drop i).map Int.ofNat) ∧ i ≤ N ∧ ow = some (("rest" : Str), I xs) ∧ Lk σ "a" (D m) ∧ Lk σ "b" (D n) ∧ Lk σ "borrow" (.int c) ∧
      xs.length = i ∧ Lim xs ∧ 0 ≤ c ∧ c ≤ 1 ∧ val xs = val ((dig m).take i) - val ((dig n).take i) + 10000 ^ i * c)
    (Src.rng1 W (by decide +kernel) (by walk_at "zgl") (Ev.to (by walk_at "zev") (by rw [← hNN])) (by omega)) ?_ ?_ ?_
  · exact ⟨0, [], 0, rfl, Nat.zero_le _, rfl, by walk_at "zlk", by walk_at "zlk", by walk_at "zlk", rfl, Lim.nil, by decide, by decide, by simp [val]⟩
  · rintro d r σ ow ⟨i, xs, c, e, hi, rfl, h1, h2, h3, h4, h5, h6, h7, h8⟩
    have hiN : i < N := by
      by_cases q : i < N
      · exact q
      · rw [up_nil (by omega)] at e; cases e
    rw [up_cons hiN] at e
    cases e
    refine ⟨_, Asg.nm (by walk_at "zgl") (by walk_at "zoff"), ?_⟩
    have b1 := (lim_dig m).getD i
    have b2 := (lim_dig n).getD i
    walk_at "zasg"
    refine WP.join (b := decide ((i : Int) < (dig n).length)) (fun σ' ow' => ow' = some (("rest" : Str), I xs) ∧ Lk σ' "b" (D n) ∧ Lk σ' "a" (D m) ∧ Lk σ' "t" (.int ((dig m).getD i 0 - c - (dig n).getD i 0))) (by walk_at "zev") (fun hb => ?_) (fun hb => ?_) ?_
    · simp only [decide_eq_true_eq] at hb
      walk_at "zaug"
      exact WP.nil ⟨rfl, by walk_at "zlk", by walk_at "zlk", by simp only [Int.toNat_natCast]; walk_at "zlk"⟩
    · simp only [decide_eq_false_iff_not] at hb
      refine ⟨rfl, by walk_at "zlk", by walk_at "zlk", ?_⟩
      rw [getD_ge (xs := dig n) (by omega), Int.sub_zero]
      simp only [Int.toNat_natCast]
      walk_at "zlk"
    rintro σ₁ _ ⟨rfl, k1, k2, k4⟩
    generalize ht : (dig m).getD i 0 - c - (dig n).getD i 0 = t at k4
    walk_at "zasg"
    refine WP.join (b := decide (t < 0)) (fun σ' ow' => ∃ t' b' : Int, ow' = some (("rest" : Str), I xs) ∧ Lk σ' "b" (D n) ∧ Lk σ' "a" (D m) ∧ Lk σ' "t" (.int t') ∧ Lk σ' "borrow" (.int b') ∧ t' = t + 10000 * b' ∧ 0 ≤ b' ∧ b' ≤ 1 ∧ 0 ≤ t' ∧ t' < 10000) (by walk_at "zev") (fun hb => ?_) (fun hb => ?_) ?_
    · simp only [decide_eq_true_eq] at hb
      walk_at "zaug"
      walk_at "zasg"
      exact WP.nil ⟨t + 10000, 1, rfl, by walk_at "zlk", by walk_at "zlk", by walk_at "zlk", by walk_at "zlk", by omega, by omega, by omega, by omega, by omega⟩
    · simp only [decide_eq_false_iff_not] at hb
      exact ⟨t, 0, rfl, by walk_at "zlk", by walk_at "zlk", by walk_at "zlk", by walk_at "zlk", by omega, by omega, by omega, by omega, by omega⟩
    rintro σ₂ _ ⟨t', b', rfl, q1, q2, q3, q4, q5, q6, q7, q8, q9⟩
    walk_at "zapp"
    refine WP.nil ⟨i + 1, xs ++ [t'], b', rfl, hiN, rfl, by walk_at "zlk", by walk_at "zlk", by walk_at "zlk", by simp [h4], h5.snoc q8 q9, q6, q7, ?_⟩
    rw [val_snoc, h4, val_take_succ, val_take_succ, Int.pow_succ]
    exact sub_arith rfl h8 ht.symm q5
  · rintro σ ow ⟨i, xs, c, e, hi, rfl, h1, h2, h3, h4, h5, h6, h7, h8⟩
    have hiN : i = N := by
      by_cases q : i < N
      · rw [up_cons q] at e; cases e
      · omega
    subst hiN
    rw [take_of_ge _ (by omega), take_of_ge _ (by omega), val_dig, val_dig] at h8
    have hlt := val_lt h5
    rw [h4] at hlt
    have hc : c = 0 := by
      by_cases q : c = 0
      · exact q
      · have : c = 1 := by omega
        subst this
        rw [Int.mul_one] at h8
        omega
    subst hc
    refine WP.release ?_
    walk_at "zret"
    rw [trim_eq (n := m - n) h5 (by omega)]
theorem sub_raises {C : Cx} (W : Wd C pP gloP bltP) (m n : Nat) (hn : n < big) (hm : m < n) : Raises C 2 "sub" [D m, D n] "ValueError" := by
  refine Raises.of_body (lv := 1) (xs := ["a", "b"]) W.ok (W.fn ix_sub rfl) (by walk_at "zpl2") rfl ?_
  show WP C 1 (scopeAt pP ix_sub) _ [("b", D n), ("a", D m)] none _
  walk_at "zopen"
  have hs : sg m n < 0 := by unfold sg; rw [if_pos hm]; decide
  walk_at "zifT"
  exact WP.raiseV W (by decide +kernel) (by walk_at "zgl") rfl
local macro_rules | `(tactic| walk_at "zfn") => `(tactic| (with_reducible refine' sub_gives (by assumption) _ _ ?_ ?_))

theorem mul_arith {i : Nat} {v c x d t P X : Int} (hP : P = 10000 ^ i) (h : v + P * c = X * d) (ht : t = x * d + c) : v + P * (t % 10000) + (P * 10000) * (t / 10000) = (X + P * x) * d := by
  have e : P * 10000 * (t / 10000) = P * (10000 * (t / 10000)) := by rw [Int.mul_assoc]
  have e2 : P * (t % 10000) + P * (10000 * (t / 10000)) = P * t := by rw [← Int.mul_add]; congr 1; omega
  have e3 : P * t = P * (x * d) + P * c := by rw [ht, Int.mul_add]
  have e4 : (X + P * x) * d = X * d + P * (x * d) := by rw [Int.add_mul, Int.mul_assoc]
  omega
theorem mul_small_gives {C : Cx} (W : Wd C pP gloP bltP) (m d : Nat) (hmd : m * d < big) (hm : m < big) (hd : d ≤ 10000) : Gives C 1 "mul_small" [D m, .int d] (D (m * d)) := by
  refine Gives.of_body (lv := 0) (xs := ["a", "d"]) W.ok (W.fn ix_mul_small rfl) (by walk_at "zpl2") rfl ?_
  show WP C 0 (scopeAt pP ix_mul_small) _ [("d", .int d), ("a", D m)] none _
  walk_at "zopen"
  have l1 := len_big hm
  by_cases h0 : d = 0
  · subst h0
    walk_at "zifT"
    refine WP.ret (d := L []) (Ev.listI EvI.nil (by decide)) ?_
    show Res.ret _ = Res.ret (L (dig (m * 0)))
    rw [Nat.mul_zero, dig_zero]
  walk_at "zskip"
  walk_at "zown"
  walk_at "zasg"
  refine WP.for (ds := I (dig m)) (fun r σ ow => ∃ (pre post xs : List Int) (c : Int), r = I post ∧ pre ++ post = dig m ∧ ow = some (("product" : Str), I xs) ∧ Lk σ "d" (.int d) ∧ Lk σ "carry" (.int c) ∧
      xs.length = pre.length ∧ Lim xs ∧ 0 ≤ c ∧ c < d ∧ val xs + 10000 ^ pre.length * c = val pre * d)
    (Src.listI (by walk_at "zev")) ?_ ?_ ?_
  · exact ⟨[], dig m, [], 0, rfl, rfl, rfl, by walk_at "zlk", by walk_at "zlk", rfl, Lim.nil, by decide, by omega, by simp [val]⟩
  · rintro y r σ ow ⟨pre, post, xs, c, e, hp, rfl, h1, h2, h4, h5, h6, h7, h8⟩
    cases post with
    | nil => cases e
    | cons x post =>
    cases e
    have hx : 0 ≤ x ∧ x < 10000 := by
      refine lim_dig m x ?_
      rw [← hp]; simp
    have hlen : pre.length + (post.length + 1) ≤ 25 := by
      have := congrArg List.length hp
      simp at this; omega
    have hxd : 0 ≤ x * d ∧ x * d ≤ 9999 * d := by
      refine ⟨Int.mul_nonneg hx.1 (by omega), Int.mul_le_mul_of_nonneg_right (by omega) (by omega)⟩
    refine ⟨_, Asg.nm (by walk_at "zgl") (by walk_at "zoff"), ?_⟩
    refine WP.asg (d := .int (x * d + c)) (Ev.bin (Ev.bin (by walk_at "zev") (by walk_at "zev") (Bin.mulL (by omega) (by omega))) (by walk_at "zev") Bin.add) (by walk_at "zgl") (by walk_at "zoff") ?_
    generalize ht : x * (d : Int) + c = t
    walk_at "zapp"
    walk_at "zasg"
    refine WP.nil ⟨pre ++ [x], post, xs ++ [t % 10000], t / 10000, rfl, by rw [List.append_assoc]; exact hp, rfl, by walk_at "zlk", by walk_at "zlk", by simp [h4], h5.snoc (by omega) (by omega), by omega, ?_, ?_⟩
    · have : t < 10000 * d := by omega
      omega
    · rw [val_snoc, val_snoc, List.length_append, List.length_singleton, Int.pow_succ, h4]
      exact mul_arith rfl h8 ht.symm
  · rintro σ ow ⟨pre, post, xs, c, e, hp, rfl, h1, h2, h4, h5, h6, h7, h8⟩
    have : post = [] := by
      cases post with
      | nil => rfl
      | cons x post => cases e
    subst this
    rw [List.append_nil] at hp
    subst hp
    rw [val_dig] at h8
    have hcast : ((m * d : Nat) : Int) = (m : Int) * d := by simp
    refine WP.join (b := decide (0 < c)) (fun σ' ow' => ow' = some (("product" : Str), I (dig (m * d)))) (by walk_at "zev") (fun hb => ?_) (fun hb => ?_) ?_
    · simp only [decide_eq_true_eq] at hb
      walk_at "zapp"
      refine WP.nil ?_
      show some (("product" : Str), I (xs ++ [c])) = _
      rw [eq_dig (xs := xs ++ [c]) (n := m * d) (h5.snoc h6 (by omega)) (snoc_nz (by omega)) (by rw [val_snoc, h4, hcast]; omega)]
    · simp only [decide_eq_false_iff_not] at hb
      have hc : c = 0 := by omega
      subst hc
      show some (("product" : Str), I xs) = _
      rw [eq_dig (xs := xs) (n := m * d) h5 (nz_of_ge h5 fun hne => ?_) (by rw [hcast]; omega)]
      have hm0 : 0 < m := by
        by_cases z : m = 0
        · subst z; rw [dig_zero] at h4; exact absurd (List.length_eq_zero_iff.mp h4) hne
        · omega
      have h9 := dig_ge hm0
      rw [h4]
      have : (m : Int) * 1 ≤ m * d := Int.mul_le_mul_of_nonneg_left (by omega) (by omega)
      omega
    rintro σ' _ rfl
    refine WP.release ?_
    walk_at "zret"
    rfl
local macro_rules | `(tactic| walk_at "zfn") => `(tactic| (with_reducible refine' mul_small_gives (by assumption) _ _ ?_ ?_ ?_))

theorem Bin.divP' {C : Cx} {a b : Int} (h : 0 < b) (h' : b < 1073741824) : Bin C .FloorDiv (.int a) (.int b) (.int (a / b)) := Bin.divP h h'
theorem sg_le {m n : Nat} : sg m n ≤ 0 ↔ m ≤ n := by unfold sg; split <;> (try split) <;> omega
theorem trial_digit_gives {C : Cx} (W : Wd C pP gloP bltP) (r b : Nat) (hb : 0 < b) (hr : r < 10000 * b) (hbig : 10000 * b < big) : Gives C 2 "trial_digit" [D r, D b] (.int (r / b : Nat)) := by
  refine Gives.of_body (lv := 1) (xs := ["rem", "b"]) W.ok (W.fn ix_trial_digit rfl) (by walk_at "zpl2") rfl ?_
  show WP C 1 (scopeAt pP ix_trial_digit) _ [("b", D b), ("rem", D r)] none _
  walk_at "zopen"
  walk_at "zasg"
  refine WP.asg (d := .int (9999 : Nat)) (by walk_at "zto"; rfl) (by walk_at "zgl") (by walk_at "zoff") ?_
  refine WP.while (fun k σ ow => ∃ lo hi : Nat, k = hi - lo ∧ ow = none ∧ Lk σ "low" (.int lo) ∧ Lk σ "high" (.int hi) ∧ Lk σ "b" (D b) ∧ Lk σ "rem" (D r) ∧ lo ≤ hi ∧ hi ≤ 9999 ∧ b * lo ≤ r ∧ r < b * (hi + 1)) 9999
    ⟨0, 9999, rfl, rfl, by show Lk _ _ (.int 0); walk_at "zlk", by walk_at "zlk", by walk_at "zlk", by walk_at "zlk", by decide, by decide, by omega, by omega⟩ ?_
  rintro k σ ow ⟨lo, hi, rfl, rfl, h1, h2, h3, h4, h5, h6, h7, h8⟩
  refine ⟨decide ((lo : Int) < hi), by walk_at "zev", fun hq => ?_, fun hq => ?_⟩
  · simp only [decide_eq_false_iff_not] at hq
    have e : lo = hi := by omega
    subst e
    walk_at "zret"
    have : r / b = lo := Nat.div_eq_of_lt_le (by rw [Nat.mul_comm]; exact h7) (by rw [Nat.mul_comm]; exact h8)
    rw [this]
  · simp only [decide_eq_true_eq] at hq
    generalize hmid : (lo + hi + 1) / 2 = mid
    refine WP.asg (d := .int mid) (by walk_at "zto"; congr 1; omega) (by walk_at "zgl") (by walk_at "zoff") ?_
    have hmb : b * mid < big := Nat.lt_of_le_of_lt (Nat.mul_le_mul_left b (show mid ≤ 10000 by omega)) (by omega)
    have hbb : b < big := by omega
    have hrb : r < big := by omega
    by_cases hc : b * mid ≤ r
    · have := sg_le.mpr hc
      walk_at "zifT"
      walk_at "zasg"
      exact WP.nil (WP.nil ⟨hi - mid, by omega, mid, hi, rfl, rfl, by walk_at "zlk", by walk_at "zlk", by walk_at "zlk", by walk_at "zlk", by omega, by omega, hc, h8⟩)
    · have := fun q => hc (sg_le.mp q)
      refine WP.ifF (Tst.to (by walk_at "zev") (by simp only [decide_eq_false_iff_not]; exact this)) ?_
      refine WP.asg (d := .int (mid - 1 : Nat)) (by walk_at "zto"; congr 1; omega) (by walk_at "zgl") (by walk_at "zoff") ?_
      exact WP.nil (WP.nil ⟨mid - 1 - lo, by omega, lo, mid - 1, rfl, rfl, by walk_at "zlk", by walk_at "zlk", by walk_at "zlk", by walk_at "zlk", by omega, by omega, h7, by rw [show mid - 1 + 1 = mid by omega]; omega⟩)
local macro_rules | `(tactic| walk_at "zfn") => `(tactic| (with_reducible refine' trial_digit_gives (by assumption) _ _ ?_ ?_ ?_))

theorem EvNew.repN {C : Cx} {lv : Nat} {sc : Scope} {σ : Sg} {ow : Ow} {e r : Expr} {q pos : Pos} {d : Int} {n : Nat} (he : Ev C lv sc e σ ow (.int d)) (hr : Ev C lv sc r σ ow (.int n)) (hn : n ≤ 1000) (hst : ∀ env, starEach [e] env = (false, eval e env) :: starEach [] env := by intro _; with_unfolding_all rfl) :
    EvNew C lv sc (.BinOp (.List [e] q) .Mult r pos) σ ow (I (List.replicate n d)) := by
  have := EvNew.repI (C := C) (lv := lv) (sc := sc) (σ := σ) (ow := ow) (q := q) (pos := pos) he hr (by omega) (by omega) hst
  rwa [Int.toNat_natCast] at this
theorem val_drop_pred {xs : List Int} {k : Nat} (h : k < xs.length) : val (xs.drop k) = xs.getD k 0 + 10000 * val (xs.drop (k + 1)) := by
  rw [List.drop_eq_getElem_cons h, val]
  simp [h]
theorem lim_set {xs : List Int} (h : Lim xs) (i : Nat) {x : Int} (h0 : 0 ≤ x) (h1 : x < 10000) : Lim (xs.set i x) := fun y hy => by
  rcases List.mem_or_eq_of_mem_set hy with q | q
  · exact h y q
  · rw [q]; exact ⟨h0, h1⟩
theorem divmod_long_gives {C : Cx} (W : Wd C pP gloP bltP) (m n : Nat) (hn : 0 < n) (hm : m < big) (hb : 10000 * n < big) : Gives C 3 "divmod_long" [D m, D n] (.tuple [D (m / n), D (m % n)]) := by
  refine Gives.of_body (lv := 2) (xs := ["a", "b"]) W.ok (W.fn ix_divmod_long rfl) (by walk_at "zpl2") rfl ?_
  show WP C 2 (scopeAt pP ix_divmod_long) _ [("b", D n), ("a", D m)] none _
  walk_at "zopen"
  have l1 := len_big hm
  have l2 := len_big (show n < big by omega)
  have hne : (dig n).length ≠ 0 := fun e => by
    have := dig_nil_iff.mp (List.length_eq_zero_iff.mp e); omega
  walk_at "zskip"
  refine WP.own (ds := I (List.replicate (dig m).length 0)) ?_ (by walk_at "zgl") ?_
  · refine EvNew.repN (by walk_at "zev") (by walk_at "zev") (by omega)
  refine WP.asg (d := D 0) (Ev.to (Ev.listI EvI.nil (by decide)) (by show L [] = L (dig 0); rw [dig_zero])) (by walk_at "zgl") (by walk_at "zoff") ?_
  generalize hN : (dig m).length = N
  refine WP.for (ds := I ((List.range N).reverse.map Int.ofNat)) (fun r σ ow => ∃ (k : Nat) (q : List Int) (ρ : Nat), r = I ((List.range k).reverse.map Int.ofNat) ∧ k ≤ N ∧ ow = some (("q" : Str), I q) ∧ Lk σ "a" (D m) ∧ Lk σ "b" (D n) ∧ Lk σ "r" (D ρ) ∧
      q.length = N ∧ Lim q ∧ ρ < n ∧ val (q.drop k) * n + ρ = val ((dig m).drop k))
    (Src.rngDown W (by decide +kernel) (by walk_at "zgl") (by walk_at "zto"; rw [← hN]) (by walk_at "zev") (by walk_at "zev") (by omega)) ?_ ?_ ?_
  · refine ⟨N, List.replicate N 0, 0, rfl, Nat.le_refl _, rfl, by walk_at "zlk", by walk_at "zlk", by walk_at "zlk", by simp, ?_, hn, ?_⟩
    · intro x hx
      rw [(List.mem_replicate.mp hx).2]; decide
    · rw [List.drop_of_length_le (by simp), List.drop_of_length_le (by omega)]
      simp [val]
  · rintro d r σ ow ⟨k, q, ρ, e, hk, rfl, h1, h2, h3, h4, h5, h6, h7⟩
    obtain ⟨k, rfl⟩ : ∃ j, k = j + 1 := ⟨k - 1, by
      cases k with
      | zero => simp at e
      | succ k => rfl⟩
    rw [down_cons] at e
    cases e
    refine ⟨_, Asg.nm (by walk_at "zgl") (by walk_at "zoff"), ?_⟩
    have b1 := (lim_dig m).getD k
    have l3 := len_big (show ρ < big by omega)
    obtain ⟨x, hx⟩ : ∃ x : Nat, (dig m).getD k 0 = x := ⟨((dig m).getD k 0).toNat, by omega⟩
    refine WP.asg (d := D (x + 10000 * ρ)) ?_ (by walk_at "zgl") (by walk_at "zoff") ?_
    · walk_at "zto"
      rw [Int.toNat_natCast, hx, List.singleton_append, trim_eq (n := x + 10000 * ρ) (Lim.cons (by omega) (by omega) (lim_dig ρ)) (by show (x : Int) + 10000 * val (dig ρ) = _; rw [val_dig]; omega)]
    generalize hy : x + 10000 * ρ = y
    have hyn : y < 10000 * n := by omega
    walk_at "zasg"
    have hd : y / n < 10000 := Nat.div_lt_of_lt_mul (by rw [Nat.mul_comm]; exact hyn)
    refine WP.setItem (k := k) (d := (y / n : Nat)) (by walk_at "zev") (by walk_at "zev") (by omega) (by omega) (by omega) (by walk_at "zgl") ?_
    have hmul : n * (y / n) ≤ y := Nat.mul_div_le y n
    refine WP.asg (d := D (y % n)) ?_ (by walk_at "zgl") (by walk_at "zoff") ?_
    · walk_at "zto"
      show L (dig (y - n * (y / n))) = L (dig (y % n))
      have := Nat.mod_add_div y n
      rw [show y - n * (y / n) = y % n by omega]
    refine WP.nil ⟨k, q.set k (y / n : Nat), y % n, rfl, by omega, by rw [Int.toNat_natCast], by walk_at "zlk", by walk_at "zlk", by walk_at "zlk", by simpa using h4, lim_set h5 k (Int.natCast_nonneg _) (by exact_mod_cast hd), Nat.mod_lt _ hn, ?_⟩
    rw [val_drop_pred (xs := dig m) (by omega), hx, ← h7, val_drop_pred (xs := q.set k (y / n : Nat)) (by simp; omega)]
    have e1 : (q.set k ((y / n : Nat) : Int)).getD k 0 = (y / n : Nat) := by
      have : k < q.length := by omega
      simp [this]
    have e2 : (q.set k ((y / n : Nat) : Int)).drop (k + 1) = q.drop (k + 1) := by
      rw [List.drop_set_of_lt (by omega)]
    rw [e1, e2, Int.add_mul]
    have hq := Nat.mod_add_div y n
    have hc : ((n * (y / n) : Nat) : Int) = (n : Int) * (y / n : Nat) := by simp
    have hc2 : (n : Int) * ((y / n : Nat) : Int) = ((y / n : Nat) : Int) * n := Int.mul_comm _ _
    have hc3 : 10000 * val (q.drop (k + 1)) * (n : Int) = 10000 * (val (q.drop (k + 1)) * n) := Int.mul_assoc _ _ _
    omega
  · rintro σ ow ⟨k, q, ρ, e, hk, rfl, h1, h2, h3, h4, h5, h6, h7⟩
    have : k = 0 := by
      cases k with
      | zero => rfl
      | succ k => rw [down_cons] at e; cases e
    subst this
    rw [List.drop_zero, List.drop_zero, val_dig] at h7
    refine WP.release ?_
    walk_at "zret"
    have hv := val_nonneg h5
    obtain ⟨Q, hQ⟩ : ∃ Q : Nat, val q = Q := ⟨(val q).toNat, by omega⟩
    rw [hQ] at h7
    have h8 : Q * n + ρ = m := by
      have : ((Q * n + ρ : Nat) : Int) = m := by push_cast; exact h7
      omega
    have e1 : m / n = Q := by
      rw [← h8, Nat.add_comm, Nat.add_mul_div_right _ _ hn, Nat.div_eq_of_lt h6, Nat.zero_add]
    have e2 : m % n = ρ := by
      rw [← h8, Nat.add_comm, Nat.add_mul_mod_self_right, Nat.mod_eq_of_lt h6]
    rw [trim_eq h5 hQ, e1, e2]
theorem divmod_long_raises {C : Cx} (W : Wd C pP gloP bltP) (m : Nat) : Raises C 3 "divmod_long" [D m, D 0] "ZeroDivisionError" := by
  refine Raises.of_body (lv := 2) (xs := ["a", "b"]) W.ok (W.fn ix_divmod_long rfl) (by walk_at "zpl2") rfl ?_
  show WP C 2 (scopeAt pP ix_divmod_long) _ [("b", L (dig 0)), ("a", D m)] none _
  rw [dig_zero]
  walk_at "zopen"
  walk_at "zifT"
  exact WP.raiseZ W (by decide +kernel) (by walk_at "zgl") rfl
local macro_rules | `(tactic| walk_at "zfn") => `(tactic| (with_reducible refine' divmod_long_gives (by assumption) _ _ ?_ ?_ ?_))

theorem gcd_nat_gives {C : Cx} (W : Wd C pP gloP bltP) (m n : Nat) (hm : 10000 * m < big) (hn : 10000 * n < big) : Gives C 4 "gcd_nat" [D m, D n] (D (Nat.gcd m n)) := by
  refine Gives.of_body (lv := 3) (xs := ["a", "b"]) W.ok (W.fn ix_gcd_nat rfl) (by walk_at "zpl2") rfl ?_
  show WP C 3 (scopeAt pP ix_gcd_nat) _ [("b", D n), ("a", D m)] none _
  walk_at "zopen"
  have l1 := len_big (show m < big by omega)
  have l2 := len_big (show n < big by omega)
  walk_at "zasg"
  walk_at "zasg"
  refine WP.while (fun k σ ow => ∃ u v : Nat, k = v ∧ ow = none ∧ Lk σ "x" (D u) ∧ Lk σ "y" (D v) ∧ 10000 * u < big ∧ 10000 * v < big ∧ Nat.gcd u v = Nat.gcd m n) n
    ⟨m, n, rfl, rfl, by walk_at "zlk", by walk_at "zlk", hm, hn, rfl⟩ ?_
  rintro k σ ow ⟨u, v, rfl, rfl, h1, h2, h3, h4, h5⟩
  have l3 := len_big (show k < big by omega)
  refine ⟨decide ((0 : Int) < (dig k).length), by walk_at "zev", fun hq => ?_, fun hq => ?_⟩
  · simp only [decide_eq_false_iff_not] at hq
    have e : k = 0 := dig_nil_iff.mp (List.length_eq_zero_iff.mp (by omega))
    subst e
    walk_at "zret"
    rw [← h5, Nat.gcd_zero_right]
  · simp only [decide_eq_true_eq] at hq
    have hk : 0 < k := by
      by_cases z : k = 0
      · subst z; rw [dig_zero] at hq; simp at hq
      · omega
    have hlt := Nat.mod_lt u hk
    walk_at "zasg"
    walk_at "zasg"
    walk_at "zasg"
    refine WP.nil ⟨u % k, hlt, k, u % k, rfl, rfl, by walk_at "zlk", by walk_at "zlk", h4, by omega, ?_⟩
    rw [← h5, Nat.gcd_comm u k, Nat.gcd_rec k u, Nat.gcd_comm]
local macro_rules | `(tactic| walk_at "zfn") => `(tactic| (with_reducible refine' gcd_nat_gives (by assumption) _ _ ?_ ?_))

/-- data that may be compared -/
structure Sh (d : PyData) (k : Nat) : Prop where
  lay : d.canLay0 = true
  dep : d.depth ≤ k
theorem Sh.int {i : Int} {k : Nat} : Sh (.int i) k := ⟨rfl, Nat.zero_le _⟩
theorem Sh.bool {b : Bool} {k : Nat} : Sh (.bool b) k := ⟨rfl, Nat.zero_le _⟩
theorem Sh.none {k : Nat} : Sh .none k := ⟨rfl, Nat.zero_le _⟩
theorem Sh.ints {xs : List Int} {k : Nat} : Sh (L xs) (k + 1) := ⟨by simp only [PyData.canLay0]; exact lay_ints xs, by simp only [PyData.depth]; rw [depth_ints]; omega⟩
theorem Sh.tup2 {a b : PyData} {k : Nat} (h : Sh a k) (h' : Sh b k) : Sh (.tuple [a, b]) (k + 1) := ⟨by simp [PyData.canLay0, PyData.canLayAll0, h.lay, h'.lay], by have := h.dep; have := h'.dep; simp only [PyData.depth, PyData.depthAll]; omega⟩
theorem Sh.tup3 {a b c : PyData} {k : Nat} (h : Sh a k) (h' : Sh b k) (h'' : Sh c k) : Sh (.tuple [a, b, c]) (k + 1) := ⟨by simp [PyData.canLay0, PyData.canLayAll0, h.lay, h'.lay, h''.lay], by have := h.dep; have := h'.dep; have := h''.dep; simp only [PyData.depth, PyData.depthAll]; omega⟩
theorem Sh.tup4 {a b c d : PyData} {k : Nat} (h : Sh a k) (h' : Sh b k) (h'' : Sh c k) (h3 : Sh d k) : Sh (.tuple [a, b, c, d]) (k + 1) := ⟨by simp [PyData.canLay0, PyData.canLayAll0, h.lay, h'.lay, h''.lay, h3.lay], by have := h.dep; have := h'.dep; have := h''.dep; have := h3.dep; simp only [PyData.depth, PyData.depthAll]; omega⟩
theorem Sh.shaped {d : PyData} {k : Nat} (h : Sh d k) (hk : k ≤ 64) : SeqAt.shaped d = true := by
  unfold SeqAt.shaped
  rw [h.lay, Bool.true_and]
  exact decide_eq_true (Nat.le_trans h.dep hk)
mutual
theorem eqv_refl : ∀ d : PyData, d.canLay0 = true → PyData.eqv d d = true
  | .none, _ => rfl
  | .bool b, _ => by simp [PyData.eqv]
  | .int i, _ => by simp [PyData.eqv]
  | .str x, _ => by simp [PyData.eqv]
  | .list xs, h => by simp only [PyData.eqv]; exact eqvAll_refl xs (by simpa [PyData.canLay0] using h)
  | .tuple xs, h => by simp only [PyData.eqv]; exact eqvAll_refl xs (by simpa [PyData.canLay0] using h)
  | .dict _, h => by simp [PyData.canLay0] at h
theorem eqvAll_refl : ∀ ds : List PyData, PyData.canLayAll0 ds = true → PyData.eqvAll ds ds = true
  | [], _ => rfl
  | d :: ds, h => by
    simp only [PyData.canLayAll0, Bool.and_eq_true] at h
    simp only [PyData.eqvAll, eqv_refl d h.1, eqvAll_refl ds h.2, Bool.and_self]
end
section
variable {C : Cx} {lv : Nat} {sc : Scope} {σ : Sg} {ow : Ow}
theorem Cmp.neSame {d : PyData} {k : Nat} (h : Sh d k) (hk : k ≤ 64) : Cmp C .NotEq d d false := by
  have := Cmp.ne (C := C) (h.shaped hk) (h.shaped hk)
  rwa [eqv_refl d h.lay] at this
theorem Cmp.eqSame {d : PyData} {k : Nat} (h : Sh d k) (hk : k ≤ 64) : Cmp C .Eq d d true := by
  have := Cmp.eq (C := C) (h.shaped hk) (h.shaped hk)
  rwa [eqv_refl d h.lay] at this
theorem Cmp.neTo {d e : PyData} {k : Nat} (he : d = e) (h : Sh d k) (hk : k ≤ 64) : Cmp C .NotEq d e false := he ▸ Cmp.neSame h hk
theorem Cmp.eqBool {a b : Bool} : Cmp C .Eq (.bool a) (.bool b) (a == b) := Cmp.eq (Sh.bool (k := 0).shaped (by decide)) (Sh.bool (k := 0).shaped (by decide))
theorem Cmp.neBool {a b : Bool} : Cmp C .NotEq (.bool a) (.bool b) (!(a == b)) := Cmp.ne (Sh.bool (k := 0).shaped (by decide)) (Sh.bool (k := 0).shaped (by decide))
theorem Cmp.eqInts {xs ys : List Int} : Cmp C .Eq (L xs) (L ys) (decide (xs = ys)) := by
  have := Cmp.eq (C := C) (Sh.ints (xs := xs) (k := 0).shaped (by decide)) (Sh.ints (xs := ys) (k := 0).shaped (by decide))
  simp only [PyData.eqv] at this
  rwa [eqv_ints] at this
theorem Cmp.neInts {xs ys : List Int} : Cmp C .NotEq (L xs) (L ys) (!decide (xs = ys)) := by
  have := Cmp.ne (C := C) (Sh.ints (xs := xs) (k := 0).shaped (by decide)) (Sh.ints (xs := ys) (k := 0).shaped (by decide))
  simp only [PyData.eqv] at this
  rwa [eqv_ints] at this
theorem Tst.or3 {x y z : Expr} {pos : Pos} {a b c : Bool} (h : Tst C lv sc x σ ow a) (h' : a = false → Tst C lv sc y σ ow b) (h'' : a = false → b = false → Tst C lv sc z σ ow c) : Tst C lv sc (.BoolOp .Or [x, y, z] pos) σ ow (a || b || c) := by
  intro P s Q E R F k
  refine wpAny_isTrue_BoolOp (wpAny_allTrue_Or_cons (h P s _ _ R F fun h₁ t₁ x₁ => ?_))
  cases a with
  | true => exact k _ _ x₁
  | false =>
    refine wpAny_allTrue_Or_cons (h' rfl P _ _ _ R (F.ext' x₁) fun h₂ t₂ x₂ => ?_)
    cases b with
    | true => exact k _ _ (x₁.trans x₂)
    | false =>
      refine wpAny_allTrue_Or_cons (h'' rfl rfl P _ _ _ R ((F.ext' x₁).ext' x₂) fun h₃ t₃ x₃ => ?_)
      cases c with
      | true => exact k _ _ ((x₁.trans x₂).trans x₃)
      | false => exact wpAny_allTrue_Or_nil (k _ _ ((x₁.trans x₂).trans x₃))
theorem Tst.or' {x y : Expr} {pos : Pos} {a b : Bool} (h : Tst C lv sc x σ ow a) (h' : Tst C lv sc y σ ow b) : Tst C lv sc (.BoolOp .Or [x, y] pos) σ ow (a || b) :=
  Tst.or h (fun e => by rw [e]; exact h') fun e => by rw [e]; rfl
theorem Tst.and' {x y : Expr} {pos : Pos} {a b : Bool} (h : Tst C lv sc x σ ow a) (h' : Tst C lv sc y σ ow b) : Tst C lv sc (.BoolOp .And [x, y] pos) σ ow (a && b) :=
  Tst.and h (fun e => by rw [e]; exact h') fun e => by rw [e]; rfl
theorem Ev.and' {x y : Expr} {pos : Pos} {a b : Bool} (h : Ev C lv sc x σ ow (.bool a)) (h' : Ev C lv sc y σ ow (.bool b)) : Ev C lv sc (.BoolOp .And [x, y] pos) σ ow (.bool (a && b)) :=
  Ev.and h (fun e => by rw [e]; exact h') fun e => by rw [e]; rfl
theorem Ev.or' {x y : Expr} {pos : Pos} {a b : Bool} (h : Ev C lv sc x σ ow (.bool a)) (h' : Ev C lv sc y σ ow (.bool b)) : Ev C lv sc (.BoolOp .Or [x, y] pos) σ ow (.bool (a || b)) :=
  Ev.or h (fun e => by rw [e]; exact h') fun e => by rw [e]; rfl
end
local macro_rules | `(tactic| walk_at "zsh") => `(tactic| repeat' (first | with_reducible exact Sh.int | with_reducible exact Sh.bool | with_reducible exact Sh.ints | with_reducible exact Sh.none | with_reducible refine Sh.tup2 ?_ ?_ | with_reducible refine Sh.tup3 ?_ ?_ ?_ | with_reducible refine Sh.tup4 ?_ ?_ ?_ ?_))
local macro_rules | `(tactic| walk_at "zcmp") => `(tactic| first
  | with_reducible exact Cmp.eqBool
  | with_reducible exact Cmp.neBool
  | with_reducible exact Cmp.eqInts
  | with_reducible exact Cmp.neInts)


abbrev S (n : Int) : PyData := .tuple [.int n.sign, D n.natAbs]
theorem S_eq {n s : Int} {k : Nat} (h : n.sign = s) (h' : n.natAbs = k) : S n = .tuple [.int s, D k] := by rw [← h, ← h']
theorem sign_le (a : Int) : -1 ≤ a.sign ∧ a.sign ≤ 1 := by
  rcases Int.lt_trichotomy a 0 with h | h | h
  · rw [Int.sign_eq_neg_one_of_neg h]; decide
  · rw [h]; decide
  · rw [Int.sign_eq_one_of_pos h]; decide
theorem with_sign_gives {C : Cx} (W : Wd C pP gloP bltP) (s : Int) (m : Nat) (hm : m < big) : Gives C 1 "with_sign" [.int s, D m] (.tuple [.int (if m = 0 then 0 else s), D m]) := by
  refine Gives.of_body (lv := 0) (xs := ["sign", "magnitude"]) W.ok (W.fn ix_with_sign rfl) (by walk_at "zpl2") rfl ?_
  show WP C 0 (scopeAt pP ix_with_sign) _ [("magnitude", D m), ("sign", .int s)] none _
  walk_at "zopen"
  have l1 := len_big hm
  by_cases h0 : m = 0
  · subst h0
    have : (dig 0).length = 0 := by rw [dig_zero]; rfl
    walk_at "zifT"
    walk_at "zret"
    show Res.ret _ = Res.ret (.tuple [.int (if 0 = 0 then 0 else s), L (dig 0)])
    rw [dig_zero]; rfl
  · have : (dig m).length ≠ 0 := fun e => h0 (dig_nil_iff.mp (List.length_eq_zero_iff.mp e))
    walk_at "zskip"
    walk_at "zret"
    rw [if_neg h0]
local macro_rules | `(tactic| walk_at "zfn") => `(tactic| (with_reducible refine' with_sign_gives (by assumption) _ _ ?_))
theorem signed_from_int_gives {C : Cx} (W : Wd C pP gloP bltP) (n : Int) (hn : n.natAbs < big) : Gives C 2 "signed_from_int" [.int n] (S n) := by
  refine Gives.of_body (lv := 1) (xs := ["n"]) W.ok (W.fn ix_signed_from_int rfl) (by walk_at "zpl1") rfl ?_
  show WP C 1 (scopeAt pP ix_signed_from_int) _ [("n", .int n)] none _
  walk_at "zopen"
  by_cases h0 : n < 0
  · walk_at "zifT"
    walk_at "zret"
    rw [S_eq (Int.sign_eq_neg_one_of_neg h0) (show n.natAbs = (-n).toNat by omega)]
  · walk_at "zskip"
    walk_at "zret"
    by_cases h1 : n = 0
    · subst h1; rfl
    · rw [if_neg (by omega), S_eq (Int.sign_eq_one_of_pos (show 0 < n by omega)) (show n.natAbs = n.toNat by omega)]
local macro_rules | `(tactic| walk_at "zfn") => `(tactic| (with_reducible refine' signed_from_int_gives (by assumption) _ ?_))
/-- division with the floor, by the absolute values -/
theorem fdiv_pos_parts (a b : Int) (hb : 0 < b) :
    (a.fdiv b).natAbs = (if a < 0 ∧ 0 < a.natAbs % b.natAbs then a.natAbs / b.natAbs + 1 else a.natAbs / b.natAbs) ∧
    (a.fmod b).natAbs = (if a < 0 ∧ 0 < a.natAbs % b.natAbs then b.natAbs - a.natAbs % b.natAbs else a.natAbs % b.natAbs) ∧
    (a.fdiv b).sign = (if (a.fdiv b).natAbs = 0 then 0 else a.sign) ∧ (a.fmod b).sign = (if (a.fmod b).natAbs = 0 then 0 else 1) := by
  rw [Int.fdiv_eq_ediv_of_nonneg _ (by omega), Int.fmod_eq_emod_of_nonneg _ (by omega)]
  obtain ⟨n, rfl⟩ : ∃ n : Nat, b = n := ⟨b.toNat, by omega⟩
  have hn : 0 < n := by omega
  have hs : ∀ z : Int, 0 ≤ z → z.sign = if z.natAbs = 0 then 0 else 1 := fun z hz => by
    by_cases q : z = 0
    · subst q; rfl
    · rw [Int.sign_eq_one_of_pos (by omega), if_neg (by omega)]
  have hm0 := Int.emod_nonneg a (show (n : Int) ≠ 0 by omega)
  by_cases ha : a < 0
  · obtain ⟨m, rfl⟩ : ∃ m : Nat, a = -(m : Int) := ⟨a.natAbs, by omega⟩
    have hm : 0 < m := by omega
    have h1 : (m : Int) = n * (m / n : Nat) + (m % n : Nat) := by
      have := Nat.mod_add_div m n
      have h2 : ((n * (m / n) : Nat) : Int) = (n : Int) * (m / n : Nat) := by simp
      omega
    have hlt := Nat.mod_lt m hn
    simp only [Int.natAbs_neg, Int.natAbs_natCast, ha, true_and]
    generalize m / n = q at *
    generalize m % n = r at *
    by_cases hr : 0 < r
    · have e : -(m : Int) = (n - r : Int) + n * (-(q + 1 : Int)) := by
        rw [h1, Int.mul_neg, Int.mul_add]; omega
      have e1 : -(m : Int) / n = -(q + 1 : Int) := by
        rw [e, Int.add_mul_ediv_left _ _ (by omega), Int.ediv_eq_zero_of_lt (by omega) (by omega), Int.zero_add]
      have e2 : -(m : Int) % n = n - r := by
        rw [e, Int.add_mul_emod_self_left, Int.emod_eq_of_lt (by omega) (by omega)]
      rw [if_pos hr, if_pos hr, e1, e2]
      refine ⟨by omega, by omega, ?_, hs _ (by omega)⟩
      rw [Int.sign_eq_neg_one_of_neg (by omega), if_neg (by omega), Int.sign_eq_neg_one_of_neg ha]
    · have hr0 : r = 0 := by omega
      subst hr0
      have e : -(m : Int) = 0 + n * (-(q : Int)) := by rw [h1, Int.mul_neg]; omega
      have e1 : -(m : Int) / n = -(q : Int) := by
        rw [e, Int.add_mul_ediv_left _ _ (by omega), Int.zero_ediv, Int.zero_add]
      have e2 : -(m : Int) % n = 0 := by
        rw [e, Int.add_mul_emod_self_left, Int.zero_emod]
      rw [if_neg hr, if_neg hr, e1, e2]
      refine ⟨by omega, by omega, ?_, rfl⟩
      have hq : q ≠ 0 := by
        rintro rfl
        simp at h1; omega
      rw [Int.sign_eq_neg_one_of_neg (by omega), if_neg (by omega), Int.sign_eq_neg_one_of_neg ha]
  · obtain ⟨m, rfl⟩ : ∃ m : Nat, a = m := ⟨a.toNat, by omega⟩
    have e1 : (m : Int) / n = (m / n : Nat) := by simp
    have e2 : (m : Int) % n = (m % n : Nat) := by simp
    rw [e1, e2]
    simp only [Int.natAbs_natCast, ha, false_and, if_false, true_and]
    refine ⟨?_, hs _ (Int.natCast_nonneg _)⟩
    by_cases q : m / n = 0
    · rw [if_pos q, q]; rfl
    · have : 0 < m / n := Nat.pos_of_ne_zero q
      have hm : 0 < m := by
        by_cases z : m = 0
        · subst z; simp at this
        · omega
      rw [if_neg q, Int.sign_eq_one_of_pos (by exact_mod_cast this), Int.sign_eq_one_of_pos (by exact_mod_cast hm)]
theorem fdiv_parts (a b : Int) (hb : b ≠ 0) :
    (a.fdiv b).natAbs = (if a.sign * b.sign < 0 ∧ 0 < a.natAbs % b.natAbs then a.natAbs / b.natAbs + 1 else a.natAbs / b.natAbs) ∧
    (a.fmod b).natAbs = (if a.sign * b.sign < 0 ∧ 0 < a.natAbs % b.natAbs then b.natAbs - a.natAbs % b.natAbs else a.natAbs % b.natAbs) ∧
    (a.fdiv b).sign = (if (a.fdiv b).natAbs = 0 then 0 else a.sign * b.sign) ∧ (a.fmod b).sign = (if (a.fmod b).natAbs = 0 then 0 else b.sign) := by
  have hsg : ∀ z : Int, z.sign < 0 ↔ z < 0 := fun z => by
    rcases Int.lt_trichotomy z 0 with h | h | h
    · rw [Int.sign_eq_neg_one_of_neg h]; omega
    · rw [h]; decide
    · rw [Int.sign_eq_one_of_pos h]; omega
  rcases Int.lt_or_gt_of_ne hb with h | h
  · have P := fdiv_pos_parts (-a) (-b) (by omega)
    rw [Int.neg_fdiv_neg, Int.neg_fmod_neg, Int.natAbs_neg, Int.natAbs_neg, Int.natAbs_neg, Int.sign_neg, Int.sign_neg] at P
    rw [Int.sign_eq_neg_one_of_neg h]
    have e : ∀ z : Int, z * -1 = -z := fun z => by omega
    rw [e]
    have hc : (-a.sign < 0) ↔ (-a < 0) := by
      have := hsg (-a)
      rwa [Int.sign_neg] at this
    simp only [hc]
    refine ⟨P.1, P.2.1, P.2.2.1, ?_⟩
    have := P.2.2.2
    split at this <;> rename_i q
    · rw [if_pos q]; omega
    · rw [if_neg q]; omega
  · have P := fdiv_pos_parts a b h
    rw [Int.sign_eq_one_of_pos h]
    simp only [Int.mul_one, hsg]
    exact P
theorem signed_divmod_gives {C : Cx} (W : Wd C pP gloP bltP) (a b : Int) (hb : b ≠ 0) (ha : 10000 * a.natAbs < big) (hbb : 10000 * b.natAbs < big) : Gives C 4 "signed_divmod" [S a, S b] (.tuple [S (a.fdiv b), S (a.fmod b)]) := by
  refine Gives.of_body (lv := 3) (xs := ["x", "y"]) W.ok (W.fn ix_signed_divmod rfl) (by walk_at "zpl2") rfl ?_
  show WP C 3 (scopeAt pP ix_signed_divmod) _ [("y", S b), ("x", S a)] none _
  walk_at "zopen"
  have hbs : b.sign ≠ 0 := fun e => hb (Int.sign_eq_zero_iff_zero.mp e)
  have hbn : 0 < b.natAbs := by omega
  walk_at "zskip"
  have hlt := Nat.mod_lt a.natAbs hbn
  have hdle := Nat.div_le_self a.natAbs b.natAbs
  obtain ⟨p1, p2, p3, p4⟩ := fdiv_parts a b hb
  have s1 := sign_le a
  have s2 := sign_le b
  have s3 : -1 ≤ a.sign * b.sign ∧ a.sign * b.sign ≤ 1 := by rw [← Int.sign_mul]; exact sign_le _
  refine WP.unpack2 (d₁ := D (a.natAbs / b.natAbs)) (d₂ := D (a.natAbs % b.natAbs)) (by walk_at "zev") (by walk_at "zgl") (by walk_at "zgl") (by walk_at "zoff") (by walk_at "zoff") ?_
  generalize hq : a.natAbs / b.natAbs = q at *
  generalize hr : a.natAbs % b.natAbs = r at *
  have l4 := len_big (show r < big by omega)
  have hrl : (0 : Int) < (dig r).length ↔ 0 < r := by
    have : (dig r).length = 0 ↔ r = 0 := ⟨fun e => dig_nil_iff.mp (List.length_eq_zero_iff.mp e), fun e => by subst e; rw [dig_zero]; rfl⟩
    omega
  refine WP.join (b := decide (a.sign * b.sign < 0) && decide ((0 : Int) < (dig r).length)) (fun σ' ow' => ow' = none ∧ Lk σ' "x" (S a) ∧ Lk σ' "y" (S b) ∧ Lk σ' "q" (D (a.fdiv b).natAbs) ∧ Lk σ' "r" (D (a.fmod b).natAbs)) (Tst.and' (by walk_at "zev") (by walk_at "zev")) (fun hb => ?_) (fun hb => ?_) ?_
  · simp only [Bool.and_eq_true, decide_eq_true_eq, hrl] at hb
    rw [if_pos hb] at p1 p2
    refine WP.asg (d := D (q + 1)) ?_ (by walk_at "zgl") (by walk_at "zoff") ?_
    · refine Ev.to (b := D (q + 1)) (Ev.fn (ds := [D q, D 1]) W (EvAll.cons (by walk_at "zev") (EvAll.cons ?_ EvAll.nil)) (add_gives W q 1 (by omega)) (by decide) (by walk_at "zgl")) rfl
      refine Ev.to (b := L [1]) (by walk_at "zev") ?_
      show L [1] = L (dig 1)
      rw [dig_pos (by decide), dig_zero]; rfl
    walk_at "zasg"
    exact WP.nil ⟨rfl, by walk_at "zlk", by walk_at "zlk", by rw [p1]; walk_at "zlk", by rw [p2]; walk_at "zlk"⟩
  · have hb' : ¬ (a.sign * b.sign < 0 ∧ 0 < r) := by
      simp only [Bool.and_eq_false_iff, decide_eq_false_iff_not, hrl] at hb
      omega
    rw [if_neg hb'] at p1 p2
    exact ⟨rfl, by walk_at "zlk", by walk_at "zlk", by rw [p1]; walk_at "zlk", by rw [p2]; walk_at "zlk"⟩
  rintro σ' _ ⟨rfl, k1, k2, k3, k4⟩
  have hqb : (a.fdiv b).natAbs < big := by rw [p1]; split <;> omega
  have hrb : (a.fmod b).natAbs < big := by rw [p2]; split <;> omega
  walk_at "zret"
  rw [S_eq p3 rfl, S_eq p4 rfl]
theorem signed_divmod_raises {C : Cx} (W : Wd C pP gloP bltP) (a : Int) : Raises C 4 "signed_divmod" [S a, S 0] "ZeroDivisionError" := by
  refine Raises.of_body (lv := 3) (xs := ["x", "y"]) W.ok (W.fn ix_signed_divmod rfl) (by walk_at "zpl2") rfl ?_
  show WP C 3 (scopeAt pP ix_signed_divmod) _ [("y", S 0), ("x", S a)] none _
  walk_at "zopen"
  walk_at "zifT"
  exact WP.raiseZ W (by decide +kernel) (by walk_at "zgl") rfl
local macro_rules | `(tactic| walk_at "zfn") => `(tactic| (with_reducible refine' signed_divmod_gives (by assumption) _ _ ?_ ?_ ?_))

theorem to_int_gives {C : Cx} (W : Wd C pP gloP bltP) (m : Nat) (hm : m < big) : Gives C 1 "to_int" [D m] (.int m) := by
  refine Gives.of_body (lv := 0) (xs := ["a"]) W.ok (W.fn ix_to_int rfl) (by walk_at "zpl1") rfl ?_
  show WP C 0 (scopeAt pP ix_to_int) _ [("a", D m)] none _
  walk_at "zopen"
  have l1 := len_big hm
  walk_at "zasg"
  generalize hN : (dig m).length = N
  refine WP.for (ds := I ((List.range N).reverse.map Int.ofNat)) (fun r σ ow => ∃ (k : Nat), r = I ((List.range k).reverse.map Int.ofNat) ∧ k ≤ N ∧ ow = none ∧ Lk σ "a" (D m) ∧ Lk σ "n" (.int (val ((dig m).drop k))))
    (Src.rngDown W (by decide +kernel) (by walk_at "zgl") (by walk_at "zto"; rw [← hN]) (by walk_at "zev") (by walk_at "zev") (by omega)) ?_ ?_ ?_
  · refine ⟨N, rfl, Nat.le_refl _, rfl, by walk_at "zlk", ?_⟩
    rw [List.drop_of_length_le (by omega)]
    show Lk _ _ (.int 0)
    walk_at "zlk"
  · rintro d r σ ow ⟨k, e, hk, rfl, h1, h2⟩
    obtain ⟨k, rfl⟩ : ∃ j, k = j + 1 := ⟨k - 1, by
      cases k with
      | zero => simp at e
      | succ k => rfl⟩
    rw [down_cons] at e
    cases e
    refine ⟨_, Asg.nm (by walk_at "zgl") (by walk_at "zoff"), ?_⟩
    walk_at "zasg"
    refine WP.nil ⟨k, rfl, by omega, rfl, by walk_at "zlk", ?_⟩
    rw [show val ((dig m).drop k) = val ((dig m).drop (k + 1)) * 10000 + (dig m).getD ((k : Int)).toNat 0 by rw [val_drop_pred (xs := dig m) (by omega), Int.toNat_natCast]; omega]
    walk_at "zlk"
  · rintro σ ow ⟨k, e, hk, rfl, h1, h2⟩
    have : k = 0 := by
      cases k with
      | zero => rfl
      | succ k => rw [down_cons] at e; cases e
    subst this
    rw [List.drop_zero, val_dig] at h2
    walk_at "zret"
    rfl
local macro_rules | `(tactic| walk_at "zfn") => `(tactic| (with_reducible refine' to_int_gives (by assumption) _ ?_))
theorem val_set : ∀ {xs : List Int} {i : Nat} (v : Int), i < xs.length → val (xs.set i v) = val xs + 10000 ^ i * (v - xs.getD i 0)
  | [], _, _, h => by simp at h
  | x :: xs, 0, v, _ => by simp [val]; omega
  | x :: xs, i + 1, v, h => by
    have ih := val_set (xs := xs) (i := i) v (by simpa using h)
    rw [List.set_cons_succ, val, val, ih, getD_cons_succ', Int.pow_succ]
    rw [Int.mul_add, ← Int.mul_assoc, Int.mul_comm 10000 (10000 ^ i)]
    omega
theorem getD_set_ne {xs : List Int} {i j : Nat} {v : Int} (h : i ≠ j) : (xs.set i v).getD j 0 = xs.getD j 0 := by
  simp [h]
theorem school_arith {P v c y x z t X : Int} (h : v + P * c = X) (ht : t = y + x * z + c) : v + P * (t % 10000 - y) + P * 10000 * (t / 10000) = X + P * (x * z) := by
  have e : P * 10000 * (t / 10000) = P * (10000 * (t / 10000)) := by rw [Int.mul_assoc]
  have e2 : P * (t % 10000 - y) + P * (10000 * (t / 10000)) = P * (t - y) := by rw [← Int.mul_add]; congr 1; omega
  have e3 : P * (t - y) = P * (x * z) + P * c := by rw [← Int.mul_add]; congr 1; omega
  omega
theorem mul_school_gives {C : Cx} (W : Wd C pP gloP bltP) (m n : Nat) (hm : m < big) (hn : n < big) : Gives C 2 "mul_school" [D m, D n] (D (m * n)) := by
  refine Gives.of_body (lv := 1) (xs := ["a", "b"]) W.ok (W.fn ix_mul_school rfl) (by walk_at "zpl2") rfl ?_
  show WP C 1 (scopeAt pP ix_mul_school) _ [("b", D n), ("a", D m)] none _
  walk_at "zopen"
  have l1 := len_big hm
  have l2 := len_big hn
  generalize hM : (dig m).length = M at l1
  generalize hN : (dig n).length = N at l2
  refine WP.own (ds := I (List.replicate (M + N) 0)) ?_ (by walk_at "zgl") ?_
  · refine EvNew.repN (by walk_at "zev") (Ev.to (b := .int (((dig m).length : Int) + (dig n).length)) (by walk_at "zev") ?_) (by omega)
    rw [hM, hN]; rfl
  refine WP.for (ds := I ((List.range M).map Int.ofNat)) (fun r σ ow => ∃ (i : Nat) (xs : List Int), r = I (((List.range M).drop i).map Int.ofNat) ∧ i ≤ M ∧ ow = some (("row" : Str), I xs) ∧ Lk σ "a" (D m) ∧ Lk σ "b" (D n) ∧
      xs.length = M + N ∧ Lim xs ∧ (∀ j, i + N ≤ j → xs.getD j 0 = 0) ∧ val xs = val ((dig m).take i) * n)
    (Src.rng1 W (by decide +kernel) (by walk_at "zgl") (Ev.to (by walk_at "zev") (by rw [hM])) (by omega)) ?_ ?_ ?_
  · refine ⟨0, List.replicate (M + N) 0, rfl, Nat.zero_le _, rfl, by walk_at "zlk", by walk_at "zlk", by simp, ?_, ?_, ?_⟩
    · intro x hx
      rw [(List.mem_replicate.mp hx).2]; decide
    · intro j _
      simp [List.getElem?_replicate]
      split <;> rfl
    · have : ∀ k, val (List.replicate k 0) = 0 := fun k => by
        induction k with
        | zero => rfl
        | succ k ih => rw [List.replicate_succ, val, ih]; rfl
      rw [this]; simp [val]
  · rintro d r σ ow ⟨i, xs, e, hi, rfl, h1, h2, h4, h5, h6, h8⟩
    have hiN : i < M := by
      by_cases q : i < M
      · exact q
      · rw [up_nil (by omega)] at e; cases e
    rw [up_cons hiN] at e
    cases e
    refine ⟨_, Asg.nm (by walk_at "zgl") (by walk_at "zoff"), ?_⟩
    walk_at "zasg"
    have b1 := (lim_dig m).getD i
    have b1' := (lim_dig m).getD ((i : Int)).toNat
    refine WP.for (ds := I ((List.range N).map Int.ofNat)) (fun r σ ow => ∃ (j : Nat) (ys : List Int) (c : Int), r = I (((List.range N).drop j).map Int.ofNat) ∧ j ≤ N ∧ ow = some (("row" : Str), I ys) ∧ Lk σ "a" (D m) ∧ Lk σ "b" (D n) ∧ Lk σ "i" (.int i) ∧ Lk σ "carry" (.int c) ∧
        ys.length = M + N ∧ Lim ys ∧ (∀ j, i + N ≤ j → ys.getD j 0 = 0) ∧ 0 ≤ c ∧ c < 10000 ∧ val ys + 10000 ^ (i + j) * c = val ((dig m).take i) * n + 10000 ^ i * ((dig m).getD i 0 * val ((dig n).take j)))
      (Src.rng1 W (by decide +kernel) (by walk_at "zgl") (Ev.to (by walk_at "zev") (by rw [hN])) (by omega)) ?_ ?_ ?_
    · exact ⟨0, xs, 0, rfl, Nat.zero_le _, rfl, by walk_at "zlk", by walk_at "zlk", by walk_at "zlk", by walk_at "zlk", h4, h5, h6, by decide, by decide, by simp [val, h8]⟩
    · rintro d r σ ow ⟨j, ys, c, e, hj, rfl, k1, k2, k3, k4, k5, k6, k7, k8, k9, k10⟩
      have hjN : j < N := by
        by_cases q : j < N
        · exact q
        · rw [up_nil (by omega)] at e; cases e
      rw [up_cons hjN] at e
      cases e
      refine ⟨_, Asg.nm (by walk_at "zgl") (by walk_at "zoff"), ?_⟩
      have b2 := (lim_dig n).getD j
      have b2' := (lim_dig n).getD ((j : Int)).toNat
      have b3 := k6.getD (i + j)
      refine WP.asg (d := .int (ys.getD (i + j) 0 + (dig m).getD i 0 * (dig n).getD j 0 + c)) (Ev.to (b := .int (ys.getD ((i : Int) + (j : Int)).toNat 0 + (dig m).getD ((i : Int)).toNat 0 * (dig n).getD ((j : Int)).toNat 0 + c)) (by walk_at "zev") ?_) (by walk_at "zgl") (by walk_at "zoff") ?_
      · rw [show ((i : Int) + (j : Int)).toNat = i + j by omega, Int.toNat_natCast, Int.toNat_natCast]
      have hpr : (dig m).getD i 0 * (dig n).getD j 0 ≤ 9999 * 9999 := Int.mul_le_mul (by omega) (by omega) (by omega) (by decide)
      have hpr' : 0 ≤ (dig m).getD i 0 * (dig n).getD j 0 := Int.mul_nonneg b1.1 b2.1
      generalize ht : ys.getD (i + j) 0 + (dig m).getD i 0 * (dig n).getD j 0 + c = t
      refine WP.setItem (k := ((i : Int) + (j : Int))) (d := t % 10000) (by walk_at "zev") (by walk_at "zev") (by omega) (by omega) (by omega) (by walk_at "zgl") ?_
      walk_at "zasg"
      rw [show ((i : Int) + (j : Int)).toNat = i + j by omega]
      refine WP.nil ⟨j + 1, ys.set (i + j) (t % 10000), t / 10000, rfl, hjN, rfl, by walk_at "zlk", by walk_at "zlk", by walk_at "zlk", by walk_at "zlk", by simpa using k5, lim_set k6 _ (by omega) (by omega), fun q hq => ?_, by omega, by omega, ?_⟩
      · rw [getD_set_ne (by omega)]; exact k7 q hq
      · rw [val_set _ (by omega), val_take_succ, ← Nat.add_assoc, Int.pow_succ]
        have e1 : (10000 : Int) ^ i * ((dig m).getD i 0 * (val ((dig n).take j) + 10000 ^ j * (dig n).getD j 0)) = 10000 ^ i * ((dig m).getD i 0 * val ((dig n).take j)) + 10000 ^ (i + j) * ((dig m).getD i 0 * (dig n).getD j 0) := by
          rw [Int.mul_add, Int.mul_add, Int.pow_add]
          congr 1
          rw [Int.mul_assoc, ← Int.mul_assoc _ (10000 ^ j) _, Int.mul_comm ((dig m).getD i 0) (10000 ^ j), Int.mul_assoc (10000 ^ j)]
        rw [e1, ← Int.add_assoc]
        exact school_arith k10 ht.symm
    · rintro σ ow ⟨j, ys, c, e, hj, rfl, k1, k2, k3, k4, k5, k6, k7, k8, k9, k10⟩
      have hjN : j = N := by
        by_cases q : j < N
        · rw [up_cons q] at e; cases e
        · omega
      subst hjN
      rw [take_of_ge (dig n) (by omega), val_dig] at k10
      refine WP.setItem (k := ((i : Int) + (j : Int))) (d := c) (by walk_at "zev") (Ev.to (b := .int ((i : Int) + (dig n).length)) (by walk_at "zev") (by rw [hN])) (by omega) (by omega) (by omega) (by walk_at "zgl") ?_
      rw [show ((i : Int) + (j : Int)).toNat = i + j by omega]
      refine WP.nil ⟨i + 1, ys.set (i + j) c, rfl, hiN, rfl, by walk_at "zlk", by walk_at "zlk", by simpa using k5, lim_set k6 _ k8 k9, fun q hq => ?_, ?_⟩
      · rw [getD_set_ne (by omega)]; exact k7 q (by omega)
      · rw [val_set _ (by omega), k7 _ (Nat.le_refl _), Int.sub_zero, k10, val_take_succ, Int.add_mul, Int.mul_assoc]
  · rintro σ ow ⟨i, xs, e, hi, rfl, h1, h2, h4, h5, h6, h8⟩
    have hiN : i = M := by
      by_cases q : i < M
      · rw [up_cons q] at e; cases e
      · omega
    subst hiN
    rw [take_of_ge (dig m) (by omega), val_dig] at h8
    refine WP.release ?_
    walk_at "zret"
    rw [trim_eq (n := m * n) h5 (by rw [h8]; exact (Int.natCast_mul _ _).symm)]
local macro_rules | `(tactic| walk_at "zfn") => `(tactic| (with_reducible refine' mul_school_gives (by assumption) _ _ ?_ ?_))

theorem big_lt : big < 2 ^ 9000 := by
  have h1 : big ≤ 2 ^ 350 := by decide +kernel
  exact Nat.lt_of_le_of_lt h1 (Nat.pow_lt_pow_right (by decide) (by decide))
theorem Bin.divB {C : Cx} {a b : Int} (hb : 0 < b) (h : b < big) : Bin C .FloorDiv (.int a) (.int b) (.int (a / b)) := by
  have := Bin.fdiv (C := C) (a := a) (b := b) (by omega) (PyProof.noPylong_of_log2 ((Nat.log2_lt (by omega)).mpr (Nat.lt_of_lt_of_le (show b.natAbs < big by omega) (Nat.le_of_lt big_lt))))
  rwa [Int.fdiv_eq_ediv_of_nonneg _ (by omega)] at this
/-- the limbs as a comprehension says them -/
theorem dig_comp : ∀ (K n : Nat), n < 10000 ^ K → (((List.range K).filter fun i => decide (10000 ^ i ≤ n)).map fun i => ((n / 10000 ^ i % 10000 : Nat) : Int)) = dig n
  | 0, n, h => by
    have : n = 0 := by simpa using h
    subst this; rw [dig_zero]; rfl
  | K + 1, n, h => by
    by_cases h0 : n = 0
    · subst h0
      rw [dig_zero, List.map_eq_nil_iff, List.filter_eq_nil_iff]
      intro i _
      simp only [decide_eq_true_eq]
      have := Nat.pow_pos (n := i) (show 0 < 10000 by decide)
      omega
    · rw [dig_pos (n := n) (by omega), List.range_succ_eq_map, List.filter_cons_of_pos (by simp; omega), List.map_cons, List.filter_map, List.map_map, ← dig_comp K (n / 10000) (Nat.div_lt_of_lt_mul (by rw [Nat.mul_comm]; rwa [Nat.pow_succ] at h))]
      congr 1
      · simp
      · have e1 : ((fun i => decide (10000 ^ i ≤ n)) ∘ Nat.succ) = fun i => decide (10000 ^ i ≤ n / 10000) := by
          funext i
          have : 10000 ^ (i + 1) ≤ n ↔ 10000 ^ i ≤ n / 10000 := by
            rw [Nat.pow_succ, Nat.le_div_iff_mul_le (by decide)]
          show decide (10000 ^ (i + 1) ≤ n) = _
          simp only [this]
        have e2 : ((fun i => ((n / 10000 ^ i % 10000 : Nat) : Int)) ∘ Nat.succ) = fun i => ((n / 10000 / 10000 ^ i % 10000 : Nat) : Int) := by
          funext i
          show ((n / 10000 ^ (i + 1) % 10000 : Nat) : Int) = _
          rw [Nat.div_div_eq_div_mul, Nat.pow_succ, Nat.mul_comm 10000]
        rw [e1, e2]
theorem dig_compI (K n : Nat) (h : n < 10000 ^ K) : ((((List.range K).map fun j : Nat => (0 : Int) + (j : Int) * 1).filter fun i : Int => decide ((10000 : Int) ^ i.toNat ≤ (n : Int))).map fun i : Int => (n : Int) / 10000 ^ i.toNat % 10000) = dig n := by
  rw [← dig_comp K n h, List.filter_map, List.map_map]
  have e1 : ((fun i : Int => decide ((10000 : Int) ^ i.toNat ≤ (n : Int))) ∘ fun j : Nat => (0 : Int) + (j : Int) * 1) = fun i : Nat => decide (10000 ^ i ≤ n) := by
    funext j
    show decide ((10000 : Int) ^ (0 + (j : Int) * 1).toNat ≤ (n : Int)) = _
    rw [show (0 + (j : Int) * 1).toNat = j by omega]
    have : ((10000 : Int) ^ j ≤ (n : Int)) ↔ (10000 ^ j ≤ n) := by
      rw [show (10000 : Int) ^ j = ((10000 ^ j : Nat) : Int) by push_cast; rfl]; omega
    simp only [this]
  have e2 : ((fun i : Int => (n : Int) / 10000 ^ i.toNat % 10000) ∘ fun j : Nat => (0 : Int) + (j : Int) * 1) = fun i : Nat => ((n / 10000 ^ i % 10000 : Nat) : Int) := by
    funext j
    show (n : Int) / 10000 ^ (0 + (j : Int) * 1).toNat % 10000 = _
    rw [show (0 + (j : Int) * 1).toNat = j by omega]
    push_cast; rfl
  rw [e1, e2]
theorem powI_big {j : Nat} (h : j ≤ 20) : (0 : Int) < 10000 ^ j ∧ (10000 : Int) ^ j < big := by
  refine ⟨pow_pos' j, ?_⟩
  have h1 : 10000 ^ j ≤ 10000 ^ 20 := Nat.pow_le_pow_right (by decide) h
  have h2 : 10000 ^ 20 < big := by decide +kernel
  have h3 : (10000 : Int) ^ j = ((10000 ^ j : Nat) : Int) := by push_cast; rfl
  rw [h3]; omega
theorem Itm.tupI {C : Cx} {xs : List Int} {i : Int} (h0 : 0 ≤ i) (h1 : i < xs.length) (hb : xs.length < 2 ^ 60) : Itm C (.tuple (I xs)) i (.int (xs.getD i.toNat 0)) :=
  Itm.tuple h0 (by omega) (by
    have h : i.toNat < xs.length := by omega
    simp [h])
local macro_rules | `(tactic| walk_at "zitm") => `(tactic| (with_reducible refine' Itm.tupI ?_ ?_ ?_))

theorem neg_of_sign {n : Int} (h : n.sign = -1) : n < 0 := by
  rcases Int.lt_trichotomy n 0 with z | z | z
  · exact z
  · rw [z] at h; exact absurd h (by decide)
  · rw [Int.sign_eq_one_of_pos z] at h; exact absurd h (by decide)
theorem pos_of_sign {n : Int} (h : n.sign = 1) : 0 < n := by
  rcases Int.lt_trichotomy n 0 with z | z | z
  · rw [Int.sign_eq_neg_one_of_neg z] at h; exact absurd h (by decide)
  · rw [z] at h; exact absurd h (by decide)
  · exact z
theorem two_signs {n : Int} (h : n ≠ 0) : (n < 0 ∧ n.sign = -1) ∨ (0 < n ∧ n.sign = 1) := by
  rcases Int.lt_or_gt_of_ne h with z | z
  · exact .inl ⟨z, Int.sign_eq_neg_one_of_neg z⟩
  · exact .inr ⟨z, Int.sign_eq_one_of_pos z⟩
theorem sadd_same {m n : Int} (h : m.sign = n.sign) (hm : m ≠ 0) : (m + n).sign = m.sign ∧ (m + n).natAbs = m.natAbs + n.natAbs := by
  rcases two_signs hm with ⟨h1, h2⟩ | ⟨h1, h2⟩
  · have h3 := neg_of_sign (h.symm.trans h2)
    clear h
    exact ⟨(Int.sign_eq_neg_one_of_neg (by omega)).trans h2.symm, by clear h2; omega⟩
  · have h3 := pos_of_sign (h.symm.trans h2)
    clear h
    exact ⟨(Int.sign_eq_one_of_pos (by omega)).trans h2.symm, by clear h2; omega⟩
theorem abs_neg_pos {m n : Int} (hm : m < 0) (hn : 0 < n) : (m + n).natAbs = m.natAbs - n.natAbs + (n.natAbs - m.natAbs) := by
  have e1 : m = -((m.natAbs : Nat) : Int) := by omega
  have e2 : n = ((n.natAbs : Nat) : Int) := by omega
  generalize m.natAbs = k at *
  generalize n.natAbs = l at *
  subst e1 e2
  omega
theorem sadd_ge {m n : Int} (h : m.sign ≠ n.sign) (hm : m ≠ 0) (hn : n ≠ 0) (hge : n.natAbs ≤ m.natAbs) : (m + n).sign = (if m.natAbs - n.natAbs = 0 then 0 else m.sign) ∧ (m + n).natAbs = m.natAbs - n.natAbs := by
  have key : (m < 0 ∧ 0 < n ∧ m.sign = -1) ∨ (0 < m ∧ n < 0 ∧ m.sign = 1) := by
    rcases two_signs hm with ⟨h1, h2⟩ | ⟨h1, h2⟩ <;> rcases two_signs hn with ⟨h3, h4⟩ | ⟨h3, h4⟩
    · exact absurd (h2.trans h4.symm) h
    · exact .inl ⟨h1, h3, h2⟩
    · exact .inr ⟨h1, h3, h2⟩
    · exact absurd (h2.trans h4.symm) h
  clear h hm hn
  rcases key with ⟨h1, h2, h3⟩ | ⟨h1, h2, h3⟩
  · have e : (m + n).natAbs = m.natAbs - n.natAbs := by rw [abs_neg_pos h1 h2]; omega
    refine ⟨?_, e⟩
    rw [← e]
    split
    · rename_i z; rw [Int.natAbs_eq_zero.mp z]; rfl
    · rename_i z; rw [h3]; exact Int.sign_eq_neg_one_of_neg (by clear e h3; omega)
  · have e : (m + n).natAbs = m.natAbs - n.natAbs := by rw [Int.add_comm, abs_neg_pos h2 h1]; omega
    refine ⟨?_, e⟩
    rw [← e]
    split
    · rename_i z; rw [Int.natAbs_eq_zero.mp z]; rfl
    · rename_i z; rw [h3]; exact Int.sign_eq_one_of_pos (by clear e h3; omega)
theorem sadd_lt {m n : Int} (h : m.sign ≠ n.sign) (hm : m ≠ 0) (hn : n ≠ 0) (hlt : m.natAbs < n.natAbs) : (m + n).sign = n.sign ∧ (m + n).natAbs = n.natAbs - m.natAbs := by
  have := sadd_ge (Ne.symm h) hn hm (Nat.le_of_lt hlt)
  rw [Int.add_comm, if_neg (by omega)] at this
  exact this
theorem signed_to_int_gives {C : Cx} (W : Wd C pP gloP bltP) (n : Int) (hn : n.natAbs < big) : Gives C 2 "signed_to_int" [S n] (.int n) := by
  refine Gives.of_body (lv := 1) (xs := ["x"]) W.ok (W.fn 15 rfl) (by walk_at "zpl1") rfl ?_
  show WP C 1 (scopeAt pP 15) _ [("x", S n)] none _
  walk_at "zopen"
  have := sign_le n
  walk_at "zret"
  rw [Int.sign_mul_natAbs]
local macro_rules | `(tactic| walk_at "zfn") => `(tactic| (with_reducible refine' signed_to_int_gives (by assumption) _ ?_))
theorem signed_neg_gives {C : Cx} (W : Wd C pP gloP bltP) (n : Int) (hn : n.natAbs < big) : Gives C 1 "signed_neg" [S n] (S (-n)) := by
  refine Gives.of_body (lv := 0) (xs := ["x"]) W.ok (W.fn 16 rfl) (by walk_at "zpl1") rfl ?_
  show WP C 0 (scopeAt pP 16) _ [("x", S n)] none _
  walk_at "zopen"
  have l1 := len_big hn
  walk_at "zret"
  rw [S_eq (Int.sign_neg n) (Int.natAbs_neg n)]
local macro_rules | `(tactic| walk_at "zfn") => `(tactic| (with_reducible refine' signed_neg_gives (by assumption) _ ?_))
theorem sg_ge {m n : Nat} : 0 ≤ sg m n ↔ n ≤ m := by unfold sg; split <;> (try split) <;> omega
theorem signed_add_gives {C : Cx} (W : Wd C pP gloP bltP) (m n : Int) (hmn : m.natAbs + n.natAbs < big) : Gives C 3 "signed_add" [S m, S n] (S (m + n)) := by
  refine Gives.of_body (lv := 2) (xs := ["x", "y"]) W.ok (W.fn 17 rfl) (by walk_at "zpl2") rfl ?_
  show WP C 2 (scopeAt pP 17) _ [("y", S n), ("x", S m)] none _
  walk_at "zopen"
  have l1 := len_big (show m.natAbs < big by omega)
  have l2 := len_big (show n.natAbs < big by omega)
  have hsm : m.sign = 0 ↔ m = 0 := Int.sign_eq_zero_iff_zero
  have hsn : n.sign = 0 ↔ n = 0 := Int.sign_eq_zero_iff_zero
  by_cases h1 : m = 0
  · have h1' := hsm.mpr h1
    walk_at "zifT"
    walk_at "zret"
    rw [h1, Int.zero_add]
  · have h1' : m.sign ≠ 0 := fun e => h1 (hsm.mp e)
    walk_at "zskip"
    by_cases h2 : n = 0
    · have h2' := hsn.mpr h2
      walk_at "zifT"
      walk_at "zret"
      rw [h2, Int.add_zero]
    · have h2' : n.sign ≠ 0 := fun e => h2 (hsn.mp e)
      walk_at "zskip"
      by_cases h3 : m.sign = n.sign
      · walk_at "zifT"
        walk_at "zret"
        obtain ⟨p1, p2⟩ := sadd_same h3 h1
        rw [S_eq p1 p2]
      · walk_at "zskip"
        by_cases h4 : n.natAbs ≤ m.natAbs
        · have h4' := sg_ge.mpr h4
          walk_at "zifT"
          walk_at "zret"
          obtain ⟨p1, p2⟩ := sadd_ge h3 h1 h2 h4
          rw [S_eq p1 p2]
        · have h4' : ¬ 0 ≤ sg m.natAbs n.natAbs := fun e => h4 (sg_ge.mp e)
          walk_at "zskip"
          walk_at "zret"
          obtain ⟨p1, p2⟩ := sadd_lt h3 h1 h2 (by omega)
          rw [S_eq p1 p2]
local macro_rules | `(tactic| walk_at "zfn") => `(tactic| (with_reducible refine' signed_add_gives (by assumption) _ _ ?_))
theorem signed_sub_gives {C : Cx} (W : Wd C pP gloP bltP) (m n : Int) (hmn : m.natAbs + n.natAbs < big) : Gives C 4 "signed_sub" [S m, S n] (S (m - n)) := by
  refine Gives.of_body (lv := 3) (xs := ["x", "y"]) W.ok (W.fn 18 rfl) (by walk_at "zpl2") rfl ?_
  show WP C 3 (scopeAt pP 18) _ [("y", S n), ("x", S m)] none _
  walk_at "zopen"
  have h1 : n.natAbs < big := by omega
  have h2 : m.natAbs + (-n).natAbs < big := by rw [Int.natAbs_neg]; exact hmn
  walk_at "zret"
  rfl
local macro_rules | `(tactic| walk_at "zfn") => `(tactic| (with_reducible refine' signed_sub_gives (by assumption) _ _ ?_))
theorem signed_mul_gives {C : Cx} (W : Wd C pP gloP bltP) (m n : Int) (hm : m.natAbs < big) (hn : n.natAbs < big) : Gives C 3 "signed_mul" [S m, S n] (S (m * n)) := by
  refine Gives.of_body (lv := 2) (xs := ["x", "y"]) W.ok (W.fn 19 rfl) (by walk_at "zpl2") rfl ?_
  show WP C 2 (scopeAt pP 19) _ [("y", S n), ("x", S m)] none _
  walk_at "zopen"
  have h1 := sign_le m
  have h2 := sign_le n
  walk_at "zret"
  rw [S_eq (Int.sign_mul m n) (Int.natAbs_mul m n)]
local macro_rules | `(tactic| walk_at "zfn") => `(tactic| (with_reducible refine' signed_mul_gives (by assumption) _ _ ?_ ?_))

theorem S_nat (q : Nat) : S (q : Int) = .tuple [.int (if q = 0 then 0 else 1), D q] := by
  refine S_eq ?_ (Int.natAbs_natCast q)
  by_cases h : q = 0
  · subst h; rfl
  · rw [if_neg h, Int.sign_eq_one_of_pos (by omega)]
theorem D_one : (.tuple [.int 1, L [1]] : PyData) = S 1 := by
  show PyData.tuple [.int 1, L [1]] = .tuple [.int 1, L (dig 1)]
  rw [dig_pos (by decide), dig_zero]; rfl
theorem D_nil : (.tuple [.int 0, L []] : PyData) = S 0 := by
  show PyData.tuple [.int 0, L []] = .tuple [.int 0, L (dig 0)]
  rw [dig_zero]
theorem bezout_gives {C : Cx} (W : Wd C pP gloP bltP) (a b : Nat) (hab : 10000 * (a + b + 1) < big) : Gives C 5 "bezout" [D a, D b] (.tuple [D (Nat.gcd a b), S (bz a b).1, S (bz a b).2]) := by
  refine Gives.of_body (lv := 4) (xs := ["a", "b"]) W.ok (W.fn 21 rfl) (by walk_at "zpl2") rfl ?_
  show WP C 4 (scopeAt pP 21) _ [("b", D b), ("a", D a)] none _
  walk_at "zopen"
  have l1 := len_big (show a < big by omega)
  have l2 := len_big (show b < big by omega)
  walk_at "zasg"
  refine WP.asg (d := S 1) (Ev.to (b := .tuple [.int 1, L [1]]) (by walk_at "zev") D_one) (by walk_at "zgl") (by walk_at "zoff") ?_
  refine WP.asg (d := S 0) (Ev.to (b := .tuple [.int 0, L []]) (by walk_at "zev") D_nil) (by walk_at "zgl") (by walk_at "zoff") ?_
  walk_at "zasg"
  refine WP.asg (d := S 0) (Ev.to (b := .tuple [.int 0, L []]) (by walk_at "zev") D_nil) (by walk_at "zgl") (by walk_at "zoff") ?_
  refine WP.asg (d := S 1) (Ev.to (b := .tuple [.int 1, L [1]]) (by walk_at "zev") D_one) (by walk_at "zgl") (by walk_at "zoff") ?_
  refine WP.while (fun k σ ow => ∃ (g : Nat) (s ns t nt : Int), ow = none ∧ Lk σ "g" (D g) ∧ Lk σ "s" (S s) ∧ Lk σ "t" (S t) ∧ Lk σ "next_g" (D k) ∧ Lk σ "next_s" (S ns) ∧ Lk σ "next_t" (S nt) ∧ Nat.gcd g k = Nat.gcd a b ∧
      s * (bz g k).1 + ns * (bz g k).2 = (bz a b).1 ∧ t * (bz g k).1 + nt * (bz g k).2 = (bz a b).2 ∧ s * ns ≤ 0 ∧ t * nt ≤ 0 ∧ g * ns.natAbs + k * s.natAbs = b ∧ g * nt.natAbs + k * t.natAbs = a ∧
      s.natAbs ≤ a + b + 1 ∧ ns.natAbs ≤ a + b + 1 ∧ t.natAbs ≤ a + b + 1 ∧ nt.natAbs ≤ a + b + 1 ∧ g ≤ a + b + 1 ∧ k ≤ a + b + 1) b
    ⟨a, 1, 0, 0, 1, rfl, by walk_at "zlk", by walk_at "zlk", by walk_at "zlk", by walk_at "zlk", by walk_at "zlk", by walk_at "zlk", rfl, by simp, by simp, by decide, by decide, by simp, by simp, by simp, by simp, by simp, by simp, by omega, by omega⟩ ?_
  rintro k σ ow ⟨g, s, ns, t, nt, rfl, k1, k2, k3, k4, k5, k6, e1, e2, e3, e4, e5, e6, e7, b1, b2, b3, b4, b5, b6⟩
  have l3 := len_big (show k < big by omega)
  refine ⟨decide ((0 : Int) < (dig k).length), by walk_at "zev", fun hq => ?_, fun hq => ?_⟩
  · simp only [decide_eq_false_iff_not] at hq
    have e : k = 0 := dig_nil_iff.mp (List.length_eq_zero_iff.mp (by omega))
    subst e
    walk_at "zret"
    rw [bz_zero] at e2 e3
    rw [← e1, Nat.gcd_zero_right, ← e2, ← e3]
    simp
  · simp only [decide_eq_true_eq] at hq
    have hk : 0 < k := by
      by_cases z : k = 0
      · subst z; rw [dig_zero] at hq; simp at hq
      · omega
    have hlt := Nat.mod_lt g hk
    have hle := Nat.div_le_self g k
    have hdm := Nat.div_add_mod g k
    rw [bz_pos hk] at e2 e3
    generalize hqq : g / k = q at *
    generalize hrr : g % k = r at *
    obtain ⟨p1, p2⟩ := abs_step q e4
    obtain ⟨p3, p4⟩ := abs_step q e5
    have f1 : k * (s - (q : Int) * ns).natAbs + r * ns.natAbs = b := by
      rw [p1, Nat.mul_add, ← e6, ← hdm, Nat.add_mul, ← Nat.mul_assoc]; omega
    have f2 : k * (t - (q : Int) * nt).natAbs + r * nt.natAbs = a := by
      rw [p3, Nat.mul_add, ← e7, ← hdm, Nat.add_mul, ← Nat.mul_assoc]; omega
    have c1 : (s - (q : Int) * ns).natAbs ≤ b := by
      have := Nat.le_mul_of_pos_left (s - (q : Int) * ns).natAbs hk
      omega
    have c2 : (t - (q : Int) * nt).natAbs ≤ a := by
      have := Nat.le_mul_of_pos_left (t - (q : Int) * nt).natAbs hk
      omega
    have m1 : ((q : Int) * ns).natAbs ≤ b := by rw [Int.natAbs_mul, Int.natAbs_natCast]; omega
    have m2 : ((q : Int) * nt).natAbs ≤ a := by rw [Int.natAbs_mul, Int.natAbs_natCast]; omega
    refine WP.unpack2 (d₁ := D q) (d₂ := D r) (Ev.to (b := .tuple [D (g / k), D (g % k)]) (by walk_at "zev") (by rw [hqq, hrr])) (by walk_at "zgl") (by walk_at "zgl") (by walk_at "zoff") (by walk_at "zoff") ?_
    refine WP.asg (d := S (q : Int)) (Ev.to (b := .tuple [.int (if q = 0 then 0 else 1), D q]) (by walk_at "zev") (S_nat q).symm) (by walk_at "zgl") (by walk_at "zoff") ?_
    have hqi : ((q : Int)).natAbs < big := by omega
    have hns : ns.natAbs < big := by omega
    have hnt : nt.natAbs < big := by omega
    have hs1 : s.natAbs + ((q : Int) * ns).natAbs < big := by omega
    have hs2 : t.natAbs + ((q : Int) * nt).natAbs < big := by omega
    walk_at "zasg"
    walk_at "zasg"
    walk_at "zasg"
    walk_at "zasg"
    walk_at "zasg"
    walk_at "zasg"
    walk_at "zasg"
    walk_at "zasg"
    refine WP.nil ⟨r, hlt, k, ns, s - (q : Int) * ns, nt, t - (q : Int) * nt, rfl, by walk_at "zlk", by walk_at "zlk", by walk_at "zlk", by walk_at "zlk", by walk_at "zlk", by walk_at "zlk", ?_, ?_, ?_, p2, p4, f1, f2, b2, by omega, b4, by omega, b6, by omega⟩
    · rw [← e1, ← hrr, Nat.gcd_comm g k, Nat.gcd_rec k g, Nat.gcd_comm]
    · rw [← e2]
      dsimp only
      rw [Int.mul_sub, Int.sub_mul, ← Int.mul_assoc ns, Int.mul_comm ns (q : Int)]
      omega
    · rw [← e3]
      dsimp only
      rw [Int.mul_sub, Int.sub_mul, ← Int.mul_assoc nt, Int.mul_comm nt (q : Int)]
      omega
local macro_rules | `(tactic| walk_at "zfn") => `(tactic| (with_reducible refine' bezout_gives (by assumption) _ _ ?_))

theorem one_dig : dig 1 = [1] := by rw [dig_pos (by decide), dig_zero]; rfl
theorem mod_inverse_zero {C : Cx} (W : Wd C pP gloP bltP) (n : Nat) : Raises C 6 "mod_inverse" [D n, D 0] "ValueError" := by
  refine Raises.of_body (lv := 5) (xs := ["a", "m"]) W.ok (W.fn 22 rfl) (by walk_at "zpl2") rfl ?_
  show WP C 5 (scopeAt pP 22) _ [("m", D 0), ("a", D n)] none _
  walk_at "zopen"
  have hl0 : (dig 0).length = 0 := by rw [dig_zero]; rfl
  walk_at "zifT"
  exact WP.raiseV W (by decide +kernel) (by walk_at "zgl") rfl
theorem mod_inverse_raises {C : Cx} (W : Wd C pP gloP bltP) (n m : Nat) (hm : 0 < m) (hb : 10000 * (n + m + 1) < big) (hg : Nat.gcd n m ≠ 1) : Raises C 6 "mod_inverse" [D n, D m] "ValueError" := by
  refine Raises.of_body (lv := 5) (xs := ["a", "m"]) W.ok (W.fn 22 rfl) (by walk_at "zpl2") rfl ?_
  show WP C 5 (scopeAt pP 22) _ [("m", D m), ("a", D n)] none _
  walk_at "zopen"
  have l1 := len_big (show m < big by omega)
  have hl0 : (dig m).length ≠ 0 := fun e => by
    have := dig_nil_iff.mp (List.length_eq_zero_iff.mp e)
    omega
  walk_at "zskip"
  refine WP.unpack3 (d₁ := D (Nat.gcd n m)) (d₂ := S (bz n m).1) (d₃ := S (bz n m).2) (by walk_at "zev") (by walk_at "zgl") (by walk_at "zgl") (by walk_at "zgl") (by walk_at "zoff") (by walk_at "zoff") (by walk_at "zoff") ?_
  refine WP.ifT (Tst.to (b := !decide (dig (Nat.gcd n m) = [1])) (by walk_at "zev") ?_) ?_
  · have : dig (Nat.gcd n m) ≠ [1] := fun e => hg (by
      have h1 := val_dig (Nat.gcd n m)
      rw [e] at h1
      simp [val] at h1
      omega)
    simp [this]
  · exact WP.raiseV W (by decide +kernel) (by walk_at "zgl") rfl
theorem mod_inverse_gives {C : Cx} (W : Wd C pP gloP bltP) (n m : Nat) (hm : 0 < m) (hb : 10000 * (n + m + 1) < big) (hg : Nat.gcd n m = 1) (hs : 10000 * (bz n m).1.natAbs < big) : Gives C 6 "mod_inverse" [D n, D m] (D ((bz n m).1 % (m : Int)).natAbs) := by
  refine Gives.of_body (lv := 5) (xs := ["a", "m"]) W.ok (W.fn 22 rfl) (by walk_at "zpl2") rfl ?_
  show WP C 5 (scopeAt pP 22) _ [("m", D m), ("a", D n)] none _
  walk_at "zopen"
  have l1 := len_big (show m < big by omega)
  have hl0 : (dig m).length ≠ 0 := fun e => by
    have := dig_nil_iff.mp (List.length_eq_zero_iff.mp e)
    omega
  walk_at "zskip"
  refine WP.unpack3 (d₁ := D (Nat.gcd n m)) (d₂ := S (bz n m).1) (d₃ := S (bz n m).2) (by walk_at "zev") (by walk_at "zgl") (by walk_at "zgl") (by walk_at "zgl") (by walk_at "zoff") (by walk_at "zoff") (by walk_at "zoff") ?_
  refine WP.skip (Tst.to (b := !decide (dig (Nat.gcd n m) = [1])) (by walk_at "zev") ?_) ?_
  · rw [hg, one_dig]; rfl
  have hmz : (m : Int) ≠ 0 := by omega
  have hma : 10000 * ((m : Int)).natAbs < big := by rw [Int.natAbs_natCast]; omega
  have hSm : (.tuple [.int 1, D m] : PyData) = S (m : Int) := by rw [S_nat, if_neg (by omega)]
  refine WP.ret (d := D ((bz n m).1.fmod (m : Int)).natAbs) (Ev.item (d := S ((bz n m).1.fmod (m : Int))) (i := 1) (Ev.item (d := .tuple [S ((bz n m).1.fdiv (m : Int)), S ((bz n m).1.fmod (m : Int))]) (i := 1) (Ev.fn (ds := [S (bz n m).1, S (m : Int)]) W (EvAll.cons (by walk_at "zev") (EvAll.cons (Ev.to (b := .tuple [.int 1, D m]) (by walk_at "zev") hSm) EvAll.nil)) (signed_divmod_gives W _ _ hmz hs hma) (by decide) (by walk_at "zgl")) (by walk_at "zev") Itm.at1) (by walk_at "zev") Itm.at1) ?_
  show Res.ret _ = Res.ret _
  rw [Int.fmod_eq_emod_of_nonneg _ (by omega)]
local macro_rules | `(tactic| walk_at "zfn") => `(tactic| (with_reducible refine' mod_inverse_gives (by assumption) _ _ ?_ ?_ ?_ ?_))

structure Ce (sc : Scope) (x : Str) : Prop where
  cell : sc.names.lookup x = some .cell
  ex : ∀ n, ((cellsFrom n sc.names []).lookup x).isSome = true
  kind : sc.kind = .function
  dbg : (x == ("__debug__" : Str)) = false
theorem Ev.cn {C : Cx} {lv : Nat} {sc : Scope} {σ : Sg} {ow : Ow} {x : Str} {pos : Pos} {d : PyData} (hσ : Lk σ x d) (c : Ce sc x) : Ev C lv sc (.Name x pos) σ ow d := Ev.cellName hσ c.cell c.ex c.kind c.dbg
theorem ce_mx : Ce (scopeAt pP 29) "x" := ⟨by decide +kernel, fun n => by with_unfolding_all rfl, rfl, by decide +kernel⟩
theorem ce_my : Ce (scopeAt pP 29) "y" := ⟨by decide +kernel, fun n => by with_unfolding_all rfl, rfl, by decide +kernel⟩
theorem ce_in : Ce (scopeAt pP 32) "n" := ⟨by decide +kernel, fun n => by with_unfolding_all rfl, rfl, by decide +kernel⟩
theorem ce_im : Ce (scopeAt pP 32) "m" := ⟨by decide +kernel, fun n => by with_unfolding_all rfl, rfl, by decide +kernel⟩
local macro_rules | `(tactic| walk_at "zEname") => `(tactic| first
  | (with_reducible refine' Ev.cn ?zh ce_mx; (case zh => walk_at "zlk"))
  | (with_reducible refine' Ev.cn ?zh ce_my; (case zh => walk_at "zlk"))
  | (with_reducible refine' Ev.cn ?zh ce_in; (case zh => walk_at "zlk"))
  | (with_reducible refine' Ev.cn ?zh ce_im; (case zh => walk_at "zlk")))
theorem law_limbs_nat {C : Cx} (W : Wd C pP gloP bltP) (n : Nat) (hn : n < 10000 ^ 9) : Gives C 1 "_law_limbs" [.int n] (D n) := by
  refine Gives.of_bodyC (lv := 0) (xs := ["n"]) W.ok (W.fn 27 rfl) ⟨fun vs hv pm cd doc => by (match vs, hv with | [_], _ => rfl), List.forall_mem_cons.mpr ⟨.inr ⟨by decide +kernel, fun n => by with_unfolding_all rfl⟩, List.forall_mem_nil _⟩, rfl, rfl, rfl⟩ rfl ?_
  show WP C 0 (scopeAt pP 27) _ [("n", .int n)] none _
  walk_at "zopen"
  refine WP.ret (d := D n) (Ev.to (Ev.compRange (a := 0) (b := 9) (c := 1) (n := 9) (fun L => [("n", L + 1)]) [("n", n)] (fun i : Int => decide ((10000 : Int) ^ i.toNat ≤ (n : Int))) (fun i : Int => (n : Int) / 10000 ^ i.toNat % 10000)
      (Rng.one W (by decide +kernel) (by walk_at "zgl") (by walk_at "zev")) (by decide +kernel) (by decide +kernel) (by rw [sizeLine_eq]; decide) (fun P => by with_unfolding_all rfl) (by decide +kernel) rfl (by decide +kernel) (by decide +kernel) ?_ ?_ ?_) ?_) rfl
  · intro y i e
    rw [List.lookup_cons] at e
    by_cases z : y = ("n" : Str)
    · subst z
      rw [beq_self_eq_true] at e; cases e
      exact ⟨by show Lk _ _ _; walk_at "zlk", by decide +kernel, fun L => ⟨L + 1, by with_unfolding_all rfl, by with_unfolding_all rfl⟩, fun P => by with_unfolding_all rfl⟩
    · rw [beq_eq_false_iff_ne.mpr z] at e; cases e
  · intro P Cc j hj
    refine Tests.one (BoolE.cmp (NumE.name (by with_unfolding_all rfl) (by with_unfolding_all rfl) (by decide +kernel)) (NumE.bin NumE.const (NumE.name rfl (by with_unfolding_all rfl) (by decide +kernel)) (Bin.powS (by decide) (by decide) (by omega) (by omega))) Cmp.ge)
  · intro P Cc j hj hq
    have hp := powI_big (j := (0 + (j : Int) * 1).toNat) (by omega)
    exact NumE.bin (NumE.bin (NumE.name (by with_unfolding_all rfl) (by with_unfolding_all rfl) (by decide +kernel)) (NumE.bin NumE.const (NumE.name rfl (by with_unfolding_all rfl) (by decide +kernel)) (Bin.powS (by decide) (by decide) (by omega) (by omega))) (Bin.divB hp.1 hp.2)) NumE.const (Bin.modP (by decide))
  · rw [dig_compI 9 n hn]
theorem law_limbs_gives {C : Cx} (W : Wd C pP gloP bltP) (n : Int) (h0 : 0 ≤ n) (hn : n.natAbs < 10000 ^ 9) : Gives C 1 "_law_limbs" [.int n] (D n.natAbs) := by
  have := law_limbs_nat W n.natAbs hn
  rwa [show ((n.natAbs : Nat) : Int) = n by omega] at this
local macro_rules | `(tactic| walk_at "zfn") => `(tactic| (with_reducible refine' law_limbs_gives (by assumption) _ ?_ ?_))
local macro_rules | `(tactic| walk_at "zfn") => `(tactic| (with_reducible refine' law_limbs_nat (by assumption) _ ?_))
theorem law_signed_gives {C : Cx} (W : Wd C pP gloP bltP) (n : Int) (hn : n.natAbs < 10000 ^ 9) : Gives C 2 "_law_signed" [.int n] (S n) := by
  refine Gives.of_body (lv := 1) (xs := ["n"]) W.ok (W.fn 28 rfl) (by walk_at "zpl1") rfl ?_
  show WP C 1 (scopeAt pP 28) _ [("n", .int n)] none _
  walk_at "zopen"
  by_cases h1 : n < 0
  · walk_at "zifT"
    walk_at "zret"
    rw [S_eq (Int.sign_eq_neg_one_of_neg h1) (show n.natAbs = (-n).natAbs by omega)]
  · walk_at "zskip"
    by_cases h2 : 0 < n
    · walk_at "zifT"
      walk_at "zret"
      rw [S_eq (Int.sign_eq_one_of_pos h2) rfl]
    · walk_at "zskip"
      obtain rfl : n = 0 := by omega
      walk_at "zret"
      rw [← D_nil]
local macro_rules | `(tactic| walk_at "zfn") => `(tactic| (with_reducible refine' law_signed_gives (by assumption) _ ?_))
theorem law_measure_gives {C : Cx} (W : Wd C pP gloP bltP) (x y : Nat) (hx : x < 8) (hy : y < 8) : Gives C 1 "_law_measure" [.int x, .int y] (.int (Nat.gcd x y)) := by
  refine Gives.of_bodyC (lv := 0) (xs := ["x", "y"]) W.ok (W.fn 29 rfl) ⟨fun vs hv pm cd doc => by (match vs, hv with | [_, _], _ => rfl), List.forall_mem_cons.mpr ⟨.inr ⟨by decide +kernel, fun n => by with_unfolding_all rfl⟩, List.forall_mem_cons.mpr ⟨.inr ⟨by decide +kernel, fun n => by with_unfolding_all rfl⟩, List.forall_mem_nil _⟩⟩, rfl, rfl, rfl⟩ rfl ?_
  show WP C 0 (scopeAt pP 29) _ [("y", .int y), ("x", .int x)] none _
  walk_at "zopen"
  have hsz := sizeLine_eq
  refine WP.ret (d := .int (Nat.gcd x y)) (Ev.maxL W (by decide +kernel) (by walk_at "zgl") (xs := [0] ++ (((List.range (x + y)).map fun j : Nat => (1 : Int) + (j : Int) * 1).filter fun d : Int => decide ((x : Int) % d = 0) && decide ((y : Int) % d = 0)).map fun d : Int => d)
    (Ev.bin (Ev.listI (xs := [0]) (by walk_at "zev") (by decide)) (Ev.compRange (a := 1) (b := (x : Int) + (y : Int) + 1) (c := 1) (n := x + y) (fun L => [("y", L + 1 + 1), ("x", L + 1)]) [("x", (x : Int)), ("y", (y : Int))] (fun d : Int => decide ((x : Int) % d = 0) && decide ((y : Int) % d = 0)) (fun d : Int => d)
      (Rng.two W (by decide +kernel) (by walk_at "zgl") (by walk_at "zev") (by walk_at "zev")) (small_one (by decide) (by decide) (by omega) (by omega)) (by rw [rangeSize_one]; split <;> omega) (by omega) (fun P => by with_unfolding_all rfl) (by decide +kernel) rfl (by decide +kernel) (by decide +kernel) ?_ ?_ ?_) (Bin.addI ?_)) ?_ ?_) rfl
  · intro z i e
    rw [List.lookup_cons] at e
    by_cases q : z = ("x" : Str)
    · subst q
      rw [beq_self_eq_true] at e; cases e
      exact ⟨by show Lk _ _ _; walk_at "zlk", by decide +kernel, fun L => ⟨L + 1, by with_unfolding_all rfl, by with_unfolding_all rfl⟩, fun P => by with_unfolding_all rfl⟩
    · rw [beq_eq_false_iff_ne.mpr q] at e
      simp only at e
      rw [List.lookup_cons] at e
      by_cases q : z = ("y" : Str)
      · subst q
        rw [beq_self_eq_true] at e; cases e
        exact ⟨by show Lk _ _ _; walk_at "zlk", by decide +kernel, fun L => ⟨L + 1 + 1, by with_unfolding_all rfl, by with_unfolding_all rfl⟩, fun P => by with_unfolding_all rfl⟩
      · rw [beq_eq_false_iff_ne.mpr q] at e; cases e
  · intro P Cc j hj
    exact Tests.one (BoolE.and (BoolE.cmp (NumE.bin (NumE.name (by with_unfolding_all rfl) (by with_unfolding_all rfl) (by decide +kernel)) (NumE.name (by with_unfolding_all rfl) (by with_unfolding_all rfl) (by decide +kernel)) (Bin.modP (by omega))) NumE.const Cmp.eqInt)
      (BoolE.cmp (NumE.bin (NumE.name (by with_unfolding_all rfl) (by with_unfolding_all rfl) (by decide +kernel)) (NumE.name (by with_unfolding_all rfl) (by with_unfolding_all rfl) (by decide +kernel)) (Bin.modP (by omega))) NumE.const Cmp.eqInt))
  · intro P Cc j hj hq
    exact NumE.name (by with_unfolding_all rfl) (by with_unfolding_all rfl) (by decide +kernel)
  · have h1 := List.length_filter_le (fun d : Int => decide ((x : Int) % d = 0) && decide ((y : Int) % d = 0)) ((List.range (x + y)).map fun j : Nat => (1 : Int) + (j : Int) * 1)
    simp only [List.length_map, List.length_range] at h1
    simp only [List.length_map, List.length_singleton]
    omega
  · by_cases hg : Nat.gcd x y = 0
    · rw [hg]; simp
    · have hgp : 0 < Nat.gcd x y := Nat.pos_of_ne_zero hg
      have hd1 := Nat.gcd_dvd_left x y
      have hd2 := Nat.gcd_dvd_right x y
      have hle : Nat.gcd x y ≤ x + y := by
        by_cases z : x = 0
        · have : 0 < y := by
            by_cases zy : y = 0
            · subst z zy; simp at hg
            · omega
          have := Nat.le_of_dvd this hd2
          omega
        · have := Nat.le_of_dvd (by omega) hd1
          omega
      refine List.mem_append_right _ (List.mem_map.mpr ⟨_, List.mem_filter.mpr ⟨List.mem_map.mpr ⟨Nat.gcd x y - 1, List.mem_range.mpr (by omega), ?_⟩, ?_⟩, rfl⟩)
      · omega
      · simp only [Bool.and_eq_true, decide_eq_true_eq]
        exact ⟨Int.emod_eq_zero_of_dvd (by exact_mod_cast hd1), Int.emod_eq_zero_of_dvd (by exact_mod_cast hd2)⟩
  · intro a ha
    rcases List.mem_append.mp ha with ha | ha
    · rw [List.mem_singleton.mp ha]; omega
    · obtain ⟨d, hd, rfl⟩ := List.mem_map.mp ha
      obtain ⟨h1, h2⟩ := List.mem_filter.mp hd
      obtain ⟨j, hj, rfl⟩ := List.mem_map.mp h1
      simp only [Bool.and_eq_true, decide_eq_true_eq] at h2
      have hj' := List.mem_range.mp hj
      have e1 : ((1 : Int) + (j : Int) * 1) = ((1 + j : Nat) : Int) := by omega
      rw [e1] at h2 ⊢
      have q1 : (1 + j) ∣ x := by exact_mod_cast Int.dvd_of_emod_eq_zero h2.1
      have q2 : (1 + j) ∣ y := by exact_mod_cast Int.dvd_of_emod_eq_zero h2.2
      have q3 := Nat.dvd_gcd q1 q2
      have hgp : 0 < Nat.gcd x y := by
        by_cases z : x = 0
        · exact Nat.gcd_pos_of_pos_right _ (by omega)
        · exact Nat.gcd_pos_of_pos_left _ (by omega)
      exact_mod_cast Nat.le_of_dvd hgp q3
local macro_rules | `(tactic| walk_at "zfn") => `(tactic| (with_reducible refine' law_measure_gives (by assumption) _ _ ?_ ?_))

theorem Tst.tyN {C : Cx} {p : Program} {glo : List (Str × PyData)} {blt : List (Str × Value)} {lv : Nat} {sc : Scope} {σ : Sg} {ow : Ow} {x T : Str} {q tp cp pos : Pos} {e : Expr} {d : PyData} {Tn : String} (W : Wd C p glo blt) (hm : (x, Value.type "type") ∈ blt) (hT : (T, Value.type Tn) ∈ blt) (g : Gl sc x) (gT : Gl sc T) (he : Ev C lv sc e σ ow d)
    (hst : ∀ env, starEach [e] env = (false, eval e env) :: starEach [] env := by intro _; with_unfolding_all rfl) (hp : ∀ env, (backTo cp (starEach [e] env)).any (·.1) = false := by intro _; with_unfolding_all rfl) : Tst C lv sc (.Compare (.Call (.Name x q) [e] [] cp) [.IsNot] [.Name T tp] pos) σ ow (!decide (tyName d = Tn)) :=
  Tst.typeIsNot W.ok he (W.blt _ hm).1 (W.blt _ hm).2 (W.blt _ hT).1 (W.blt _ hT).2 g.imp gT.imp g.kind g.dbg gT.dbg hst hp
theorem law_digit_gives {C : Cx} (W : Wd C pP gloP bltP) (b d r : Nat) (hb : 0 < b) (hb' : b ≤ 1000000) (hd : d ≤ 9999) (hr : r < b) : Gives C 3 "_law_digit" [.int b, .int d, .int r] (.bool true) := by
  refine Gives.of_body (lv := 2) (xs := ["b", "d", "r"]) W.ok (W.fn 31 rfl) (by walk_at "zpl3") rfl ?_
  show WP C 2 (scopeAt pP 31) _ [("r", .int r), ("d", .int d), ("b", .int b)] none _
  walk_at "zopen"
  have hB := big_is
  have hbd : b * d ≤ 1000000 * 9999 := Nat.mul_le_mul hb' hd
  have hbd2 : b * d + b = b * (d + 1) := by rw [Nat.mul_add, Nat.mul_one]
  have hbd3 : b * (d + 1) ≤ b * 10000 := Nat.mul_le_mul_left _ (by omega)
  have e0 : (b : Int) * (d : Int) = ((b * d : Nat) : Int) := (Int.natCast_mul b d).symm
  have e1 : ((b : Int) * (d : Int) + (r : Int)).toNat = b * d + r := by rw [e0]; omega
  have e2 : ((b : Int) * (d : Int) + (r : Int)).natAbs = b * d + r := by rw [e0]; omega
  have e3 : ((b : Int) * (d : Int)).natAbs = b * d := by rw [e0]; omega
  have e4 : (b * d + r) / b = d := by
    rw [Nat.mul_add_div hb, Nat.div_eq_of_lt hr, Nat.add_zero]
  have t1 : ((b : Int) * (d : Int) + (r : Int)).toNat < big := by rw [e1]; omega
  have t2 : (0 : Int) ≤ (b : Int) * (d : Int) + (r : Int) := by rw [e0]; omega
  have t3 : ((b : Int) * (d : Int) + (r : Int)).natAbs < 10000 ^ 9 := by rw [e2]; omega
  have t4 : (0 : Int) ≤ (b : Int) * (d : Int) := by rw [e0]; omega
  have t5 : ((b : Int) * (d : Int)).natAbs < 10000 ^ 9 := by rw [e3]; omega
  have t6 : b * d + r < 10000 * b := by omega
  refine WP.asg (d := D (b * d + r)) (Ev.to (b := D ((b : Int) * (d : Int) + (r : Int)).toNat) (by walk_at "zev") (by rw [e1])) (by walk_at "zgl") (by walk_at "zoff") ?_
  refine WP.asg (d := D b) (Ev.to (b := D ((b : Int)).toNat) (by walk_at "zev") rfl) (by walk_at "zgl") (by walk_at "zoff") ?_
  refine WP.asg (d := .int d) (Ev.to (b := .int (((b * d + r) / b : Nat) : Int)) (by walk_at "zev") (by rw [e4])) (by walk_at "zgl") (by walk_at "zoff") ?_
  refine WP.skip (Tst.to (b := !decide (tyName (.int d) = "int")) (Tst.tyN W (by decide +kernel) (by walk_at "zblt") (by walk_at "zgl") (by walk_at "zgl") (by walk_at "zev")) (by simp [tyName])) ?_
  walk_at "zskip"
  walk_at "zasg"
  refine WP.skip (Tst.to (b := !decide (dig (b * d) = dig ((b : Int) * (d : Int)).natAbs)) (by walk_at "zev") (by rw [e3]; simp)) ?_
  refine WP.asg (d := D r) (Ev.to (b := D (b * d + r - b * d)) (by walk_at "zev") (by rw [Nat.add_sub_cancel_left])) (by walk_at "zgl") (by walk_at "zoff") ?_
  walk_at "zskip"
  walk_at "zasg"
  refine WP.tryV W (ds := [D r, D b]) (EvAll.cons (by walk_at "zev") (EvAll.cons (by walk_at "zev") EvAll.nil)) (sub_raises W r b (by omega) hr) (by decide) (by walk_at "zblt") (by walk_at "zgl") (by walk_at "zgl") (by walk_at "zgl") (by walk_at "zoff") ?_
  walk_at "zskip"
  refine WP.skip (Tst.cmp (d := .tuple [D (b * d + r), D b, D r]) (e := .tuple [D ((b : Int) * (d : Int) + (r : Int)).natAbs, D b, D r]) (by walk_at "zev") (by walk_at "zev") (Cmp.neTo (k := 2) (by rw [e2]) (by walk_at "zsh") (by decide))) ?_
  walk_at "zret"
  rfl
local macro_rules | `(tactic| walk_at "zfn") => `(tactic| (with_reducible refine' law_digit_gives (by assumption) _ _ _ ?_ ?_ ?_ ?_))
theorem law_division_gives {C : Cx} (W : Wd C pP gloP bltP) (n d : Int) (hn : n.natAbs < 10 ^ 16) (hd : d.natAbs < 10 ^ 6) : Gives C 5 "_law_division" [.int n, .int d] (.bool true) := by
  refine Gives.of_body (lv := 4) (xs := ["n", "d"]) W.ok (W.fn 33 rfl) (by walk_at "zpl2") rfl ?_
  show WP C 4 (scopeAt pP 33) _ [("d", .int d), ("n", .int n)] none _
  walk_at "zopen"
  have hB := big_is
  walk_at "zasg"
  walk_at "zasg"
  walk_at "zasg"
  walk_at "zasg"
  walk_at "zasg"
  walk_at "zasg"
  by_cases h0 : d = 0
  · subst h0
    refine WP.tryZ W (ds := [S n, S 0]) (EvAll.cons (by walk_at "zev") (EvAll.cons (by walk_at "zev") EvAll.nil)) (signed_divmod_raises W n) (by decide) (by walk_at "zblt") (by walk_at "zgl") (by walk_at "zgl") (by walk_at "zgl") (by walk_at "zoff") ?_
    refine WP.tryZ W (ds := [D n.natAbs, D 0]) (EvAll.cons (by walk_at "zev") (EvAll.cons (by show Ev _ _ _ _ _ _ (D ((0 : Int)).natAbs); walk_at "zev") EvAll.nil)) (divmod_long_raises W n.natAbs) (by decide) (by walk_at "zblt") (by walk_at "zgl") (by walk_at "zgl") (by walk_at "zgl") (by walk_at "zoff") ?_
    refine WP.skip (Tst.cmp (d := .tuple [S n, S 0]) (e := .tuple [S n, S 0]) (by walk_at "zev") (by walk_at "zev") (Cmp.neSame (k := 3) (by walk_at "zsh") (by decide))) ?_
    refine WP.ifT (Tst.to (b := decide ((0 : Int) = 0)) (by walk_at "zev") rfl) ?_
    refine WP.skip (Tst.cmp (d := .tuple [.bool true, .bool true]) (e := .tuple [.bool true, .bool true]) (by walk_at "zev") (by walk_at "zev") (Cmp.neSame (k := 1) (by walk_at "zsh") (by decide))) ?_
    walk_at "zret"
    rfl
  · have hdp : 0 < d.natAbs := by omega
    have hdn : d.natAbs < big := by omega
    have f1 : (n.fdiv d).natAbs ≤ n.natAbs + 1 := by
      obtain ⟨p1, _⟩ := fdiv_parts n d h0
      rw [p1]
      have := Nat.div_le_self n.natAbs d.natAbs
      split <;> omega
    have f2 : (n.fmod d).natAbs ≤ d.natAbs := by
      obtain ⟨_, p2, _⟩ := fdiv_parts n d h0
      rw [p2]
      have := Nat.mod_lt n.natAbs hdp
      split <;> omega
    have hdl := Nat.div_le_self n.natAbs d.natAbs
    have hml := Nat.mod_lt n.natAbs hdp
    have q1 : ((n.natAbs : Int) / (d.natAbs : Int)) = ((n.natAbs / d.natAbs : Nat) : Int) := (Int.natCast_ediv _ _).symm
    have q2 : ((n.natAbs : Int) % (d.natAbs : Int)) = ((n.natAbs % d.natAbs : Nat) : Int) := (Int.natCast_emod _ _).symm
    refine WP.tryOk (WP.asg (d := .tuple [S (n.fdiv d), S (n.fmod d)]) (by walk_at "zev") (by walk_at "zgl") (by walk_at "zoff") (WP.nil ?_))
    show WP _ _ _ _ _ _ _
    refine WP.tryOk (WP.asg (d := .tuple [D (n.natAbs / d.natAbs), D (n.natAbs % d.natAbs)]) (by walk_at "zev") (by walk_at "zgl") (by walk_at "zoff") (WP.nil ?_))
    show WP _ _ _ _ _ _ _
    refine WP.skip (Tst.cmp (d := .tuple [S n, S d]) (e := .tuple [S n, S d]) (by walk_at "zev") (by walk_at "zev") (Cmp.neSame (k := 3) (by walk_at "zsh") (by decide))) ?_
    walk_at "zskip"
    refine WP.skip (Tst.cmp (d := .tuple [.bool false, .bool false]) (e := .tuple [.bool false, .bool false]) (by walk_at "zev") (by walk_at "zev") (Cmp.neSame (k := 1) (by walk_at "zsh") (by decide))) ?_
    refine WP.skip (Tst.cmp (d := .tuple [S (n.fdiv d), S (n.fmod d)]) (e := .tuple [S (n.fdiv d), S (n.fmod d)]) (by walk_at "zev") (Ev.tuple (EvAll.cons (Ev.fn W (EvAll.cons (Ev.bin (by walk_at "zev") (by walk_at "zev") (Bin.fdiv h0 (PyProof.noPylong_small (by omega)))) EvAll.nil) (law_signed_gives W _ (by omega)) (by decide) (by walk_at "zgl")) (EvAll.cons (Ev.fn W (EvAll.cons (Ev.bin (by walk_at "zev") (by walk_at "zev") (Bin.fmod h0)) EvAll.nil) (law_signed_gives W _ (by omega)) (by decide) (by walk_at "zgl")) EvAll.nil)) (by rw [sizeLine_eq]; simp)) (Cmp.neSame (k := 3) (by walk_at "zsh") (by decide))) ?_
    refine WP.skip (Tst.cmp (d := .tuple [D (n.natAbs / d.natAbs), D (n.natAbs % d.natAbs)]) (e := .tuple [D (n.natAbs / d.natAbs), D (n.natAbs % d.natAbs)]) (by walk_at "zev") (Ev.tuple (EvAll.cons (Ev.fn W (EvAll.cons (Ev.to (b := .int ((n.natAbs : Int) / (d.natAbs : Int))) (by walk_at "zev") (by rw [q1])) EvAll.nil) (law_limbs_nat W _ (by omega)) (by decide) (by walk_at "zgl")) (EvAll.cons (Ev.fn W (EvAll.cons (Ev.to (b := .int ((n.natAbs : Int) % (d.natAbs : Int))) (by walk_at "zev") (by rw [q2])) EvAll.nil) (law_limbs_nat W _ (by omega)) (by decide) (by walk_at "zgl")) EvAll.nil)) (by rw [sizeLine_eq]; simp)) (Cmp.neSame (k := 2) (by walk_at "zsh") (by decide))) ?_
    walk_at "zret"
    rfl
local macro_rules | `(tactic| walk_at "zfn") => `(tactic| (with_reducible refine' law_division_gives (by assumption) _ _ ?_ ?_))

theorem bz_bound (a b : Nat) : (bz a b).1.natAbs ≤ b + 1 ∧ (bz a b).2.natAbs ≤ a + 1 := by
  by_cases hb : b = 0
  · subst hb; rw [bz_zero]; simp
  · have hbp : 0 < b := Nat.pos_of_ne_zero hb
    by_cases h0 : a % b = 0
    · rw [bz_div hbp h0]; simp
    · obtain ⟨i1, i2⟩ := bz_small a b hbp h0
      have hg : 0 < Nat.gcd a b := Nat.gcd_pos_of_pos_right _ hbp
      have h1 := Nat.le_mul_of_pos_left (bz a b).1.natAbs hg
      have h2 := Nat.le_mul_of_pos_left (bz a b).2.natAbs hg
      omega
section
variable {C : Cx} {lv : Nat} {sc : Scope} {σ : Sg} {cd : Value} {Ψ : Heap → Prop}
theorem WPG.st {st : Stmt} {rest : List Stmt} (h : WP C lv sc [st] σ none (SegG C lv sc cd rest Ψ)) : WPG C lv sc cd (st :: rest) σ Ψ := WPG.seg (pre := [st]) h
theorem WPG.fin {ss : List Stmt} (h : WP C lv sc ss σ none (fun r => r = .ret (.bool true))) (hΨ : Ψ C.base) : WPG C lv sc cd ss σ Ψ := by
  have : WPG C lv sc cd (ss ++ []) σ Ψ := WPG.seg (h.mono fun r hr => by rw [hr]; exact ⟨rfl, hΨ⟩)
  rwa [List.append_nil] at this
end
/-- what the frame of the pair's law holds -/
structure Bp (a b g : Nat) (m n : Int) (σ : Sg) : Prop where
  a : Lk σ "a" (.int a)
  b : Lk σ "b" (.int b)
  g : Lk σ "g" (.int g)
  s : Lk σ "s" (S m)
  t : Lk σ "t" (S n)
  m : Lk σ "m" (.int m)
  n : Lk σ "n" (.int n)
local macro_rules | `(tactic| walk_at "zbp") => `(tactic| exact ⟨by walk_at "zlk", by walk_at "zlk", by walk_at "zlk", by walk_at "zlk", by walk_at "zlk", by walk_at "zlk", by walk_at "zlk"⟩)
theorem nat_mul_lt {x y p q : Nat} (h1 : x ≤ p) (h2 : y ≤ q) : x * y ≤ p * q := Nat.mul_le_mul h1 h2
theorem pair_tail {C : Cx} (W : Wd C pP gloP bltP) (a b g : Nat) (hg : Nat.gcd a b = g) (hg6 : g < 1000000) (ha : a < 10 ^ 23) (hb : b < 10 ^ 15) {σ : Sg} (B : Bp a b g (bz a b).1 (bz a b).2 σ) : WP C 5 (scopeAt pP 30) ((bodyAt pP 30).drop 9) σ none (fun r => r = .ret (.bool true)) := by
  have hB := big_is
  have hid := bz_id a b
  obtain ⟨m1, n1⟩ := bz_bound a b
  have hmin := fun k hk => bz_min a b (k := k) (hk := hk)
  rw [hg] at hid hmin
  obtain ⟨c1, c2, c3, c4, c5, c6, c7⟩ := B
  generalize (bz a b).1 = m at *
  generalize (bz a b).2 = n at *
  conv in (List.drop _ _) => whnf
  refine WP.skip (Tst.to (b := !decide (m * (a : Int) + n * (b : Int) = (g : Int))) (Tst.cmp (Ev.bin (by walk_at "zev") (Ev.bin (by walk_at "zev") (by walk_at "zev") (Bin.mulR (by omega) (by omega))) Bin.add) (by walk_at "zev") Cmp.neInt) (by simp [hid])) ?_
  by_cases h0 : g = 0
  · refine WP.ifT (Tst.to (b := decide ((g : Int) = 0)) (by walk_at "zev") (by simp [h0])) ?_
    walk_at "zret"
    rfl
  · refine WP.skip (Tst.to (b := decide ((g : Int) = 0)) (by walk_at "zev") (by simp [h0])) ?_
    have hgp : 0 < g := Nat.pos_of_ne_zero h0
    have qb : ((b : Int) / (g : Int)) = ((b / g : Nat) : Int) := (Int.natCast_ediv _ _).symm
    have qa : ((a : Int) / (g : Int)) = ((a / g : Nat) : Int) := (Int.natCast_ediv _ _).symm
    have lb := Nat.div_le_self b g
    have la := Nat.div_le_self a g
    have cross : ((b / g : Nat) : Int) * (a : Int) = ((a / g : Nat) : Int) * (b : Int) := by
      obtain ⟨a', ha'⟩ := Nat.gcd_dvd_left a b
      obtain ⟨b', hb'⟩ := Nat.gcd_dvd_right a b
      rw [hg] at ha' hb'
      rw [Nat.div_eq_of_eq_mul_right hgp ha', Nat.div_eq_of_eq_mul_right hgp hb', ha', hb']
      push_cast
      rw [Int.mul_left_comm, Int.mul_left_comm (a' : Int), Int.mul_comm (b' : Int)]
    refine WP.for (ds := I [-1, 1]) (fun r σ ow => ∃ ks : List Int, r = I ks ∧ (∀ k ∈ ks, k = -1 ∨ k = 1) ∧ ow = none ∧ Bp a b g m n σ) (Src.tuple (Ev.tuple (by show EvI _ _ _ _ _ _ _; walk_at "zev") (by rw [sizeLine_eq]; simp)) flatI) ⟨[-1, 1], rfl, by simp, rfl, by walk_at "zbp"⟩ ?_ ?_
    · rintro d r σ ow ⟨ks, e, h1, rfl, c1, c2, c3, c4, c5, c6, c7⟩
      cases ks with
      | nil => cases e
      | cons k ks =>
      cases e
      have hk := h1 k (.head _)
      have hm := hmin k hk hgp
      refine ⟨_, Asg.nm (by walk_at "zgl") (by walk_at "zoff"), ?_⟩
      refine WP.asg (d := .int (m + k * ((b / g : Nat) : Int))) (Ev.to (b := .int (m + k * ((b : Int) / (g : Int)))) (by walk_at "zev") (by rw [qb])) (by walk_at "zgl") (by walk_at "zoff") ?_
      refine WP.asg (d := .int (n - k * ((a / g : Nat) : Int))) (Ev.to (b := .int (n - k * ((a : Int) / (g : Int)))) (by walk_at "zev") (by rw [qa])) (by walk_at "zgl") (by walk_at "zoff") ?_
      dsimp only at hm
      generalize m + k * ((b / g : Nat) : Int) = m2 at *
      generalize n - k * ((a / g : Nat) : Int) = n2 at *
      refine WP.skip (Tst.to (Tst.cmp (d := .tuple [.int ((m.natAbs : Int) + (n.natAbs : Int)), .int (m.natAbs : Int)]) (e := .tuple [.int ((m2.natAbs : Int) + (n2.natAbs : Int)), .int (m2.natAbs : Int)]) (by walk_at "zev") (by walk_at "zev") Cmp.geTup) ?_) ?_
      · split
        · rw [decide_eq_false_iff_not]; omega
        · rw [decide_eq_false_iff_not]; omega
      · exact WP.nil ⟨ks, rfl, fun k hk => h1 k (.tail _ hk), rfl, by walk_at "zbp"⟩
    · rintro σ ow ⟨ks, e, h1, rfl, c1, c2, c3, c4, c5, c6, c7⟩
      have eb : ((b / g : Nat) : Int).natAbs = b / g := Int.natAbs_natCast _
      have ea : ((a / g : Nat) : Int).natAbs = a / g := Int.natAbs_natCast _
      have xa : ((a : Int)).natAbs = a := Int.natAbs_natCast _
      have xb : ((b : Int)).natAbs = b := Int.natAbs_natCast _
      generalize hbp : ((b / g : Nat) : Int) = bp at *
      generalize hap : ((a / g : Nat) : Int) = ap at *
      have k1 : (m + bp).natAbs ≤ 10 ^ 16 := by
        have := Int.natAbs_add_le m bp
        clear hid hmin hap ea xa xb cross
        omega
      have k2 : (n - ap).natAbs ≤ 10 ^ 23 + 10 ^ 23 + 1 := by
        have := Int.natAbs_add_le n (-ap)
        rw [Int.natAbs_neg, ← Int.sub_eq_add_neg] at this
        clear hid hmin hbp eb xa xb cross k1
        omega
      have k3 : (m + (b : Int) / (g : Int)).natAbs ≤ 10 ^ 16 := by rw [qb]; exact k1
      have k4 : (n - (a : Int) / (g : Int)).natAbs ≤ 10 ^ 23 + 10 ^ 23 + 1 := by rw [qa]; exact k2
      have k5 : ((b : Int) / (g : Int)).natAbs = b / g := by rw [qb]; exact eb
      have k6 : ((a : Int) / (g : Int)).natAbs = a / g := by rw [qa]; exact ea
      have p1 : (m * (a : Int)).natAbs ≤ 10 ^ 16 * 10 ^ 23 := by rw [Int.natAbs_mul, xa]; exact nat_mul_lt (by omega) (by omega)
      have p2 : (n * (b : Int)).natAbs ≤ (10 ^ 23 + 1) * 10 ^ 15 := by rw [Int.natAbs_mul, xb]; exact nat_mul_lt (by omega) (by omega)
      have p3 : ((m + bp) * (a : Int)).natAbs ≤ 10 ^ 16 * 10 ^ 23 := by rw [Int.natAbs_mul, xa]; exact nat_mul_lt k1 (by omega)
      have p4 : ((n - ap) * (b : Int)).natAbs ≤ (10 ^ 23 + 10 ^ 23 + 1) * 10 ^ 15 := by rw [Int.natAbs_mul, xb]; exact nat_mul_lt k2 (by omega)
      have e1 : m + bp - bp = m := Int.add_sub_cancel m bp
      have e2 : n - ap + ap = n := Int.sub_add_cancel n ap
      have e3 : (m + bp) * (a : Int) + (n - ap) * (b : Int) = (g : Int) := by
        rw [Int.add_mul, Int.sub_mul]; omega
      walk_at "zasg"
      walk_at "zasg"
      refine WP.asg (d := S bp) (Ev.to (b := S ((b : Int) / (g : Int))) (by walk_at "zev") (by rw [qb])) (by walk_at "zgl") (by walk_at "zoff") ?_
      refine WP.asg (d := S ap) (Ev.to (b := S ((a : Int) / (g : Int))) (by walk_at "zev") (by rw [qa])) (by walk_at "zgl") (by walk_at "zoff") ?_
      walk_at "zasg"
      walk_at "zasg"
      refine WP.skip (Tst.cmp (d := .tuple [S (m + bp), S (n - ap)]) (e := .tuple [S (m + (b : Int) / (g : Int)), S (n - (a : Int) / (g : Int))]) (by walk_at "zev") (by walk_at "zev") (Cmp.neTo (k := 3) (by rw [qb, qa]) (by walk_at "zsh") (by decide))) ?_
      refine WP.skip (Tst.cmp (d := .tuple [S (m + bp - bp), S (n - ap + ap)]) (e := .tuple [S m, S n]) (by walk_at "zev") (by walk_at "zev") (Cmp.neTo (k := 3) (by rw [e1, e2]) (by walk_at "zsh") (by decide))) ?_
      refine WP.skip (Tst.cmp (d := S (m * (a : Int) + n * (b : Int))) (e := S (g : Int)) (by walk_at "zev") (by walk_at "zev") (Cmp.neTo (k := 2) (by rw [hid]) (by walk_at "zsh") (by decide))) ?_
      refine WP.skip (Tst.cmp (d := S ((m + bp) * (a : Int) + (n - ap) * (b : Int))) (e := S (g : Int)) (by walk_at "zev") (by walk_at "zev") (Cmp.neTo (k := 2) (by rw [e3]) (by walk_at "zsh") (by decide))) ?_
      refine WP.skip (Tst.cmp (d := .tuple [S m, S n, S (a : Int), S (b : Int)]) (e := .tuple [S m, S n, S (a : Int), S (b : Int)]) (by walk_at "zev") (by walk_at "zev") (Cmp.neSame (k := 3) (by walk_at "zsh") (by decide))) ?_
      walk_at "zret"
      rfl

section
variable {C : Cx} {lv : Nat} {sc : Scope} {σ : Sg} {cd : Value} {Ψ : Heap → Prop} {rest : List Stmt}
theorem SegG.go (h : WPG C lv sc cd rest σ Ψ) : SegG C lv sc cd rest Ψ (.next σ none) := ⟨rfl, h⟩
end
theorem Tb.cd {h₀ : Heap} {C : Cx} {n : Str} {gp : Pos} {c T fa : Addr} {fo : Obj} {ps : Array Value} {pars : Arguments} {body : List Stmt} {sc : Scope} {pm cd doc : Value} (x : Tb h₀ C n gp c T ps) (hmg : C.mg n = some (.ref fa)) (hget : C.base.get? fa = some fo) (hd : fo.data = .func (docDef n pars body sc pm cd doc)) : cd = .ref c := by
  obtain ⟨a', o', fd, f1, f2, f3, f4⟩ := x.fn
  rw [hmg] at f1; cases f1
  rw [hget] at f2; cases f2
  rw [hd] at f3; cases f3
  exact f4
abbrev PsiPair (C : Cx) (T : Addr) (b : Heap) : Prop := ∃ c' : Addr, b = regrown C.base T (#[] ++ #[rawInt 192, rawInt 11, .ref c'])
theorem law_pair_gives {C : Cx} (W : Wd C pP gloP bltP) {h₀ : Heap} {c T bm : Addr} {ob : Obj} {gp : Pos} (x : Tb h₀ C "_law_pair" gp c T #[]) (M : BMod C.base mainGlobals C.mg bm ob) (a b g : Nat) (hg : Nat.gcd a b = g) (hg6 : g < 1000000) (ha : a < 10 ^ 23) (hb : b < 10 ^ 15) :
    GivesG C 6 "_law_pair" [.int a, .int b, .int g] (PsiPair C T) := by
  refine GivesG.of_body (lv := 5) (xs := ["a", "b", "g"]) W.ok (W.fn 30 rfl) (Plain.c (by walk_at "zpl3")) rfl ?_
  intro fa fo pm cd doc hmg hget hdata
  have hcd := x.cd hmg hget hdata
  show WPG C 5 (scopeAt pP 30) cd _ [("g", .int g), ("b", .int b), ("a", .int a)] _
  conv in (bodyAt _ _) => whnf
  have hB := big_is
  obtain ⟨m1, n1⟩ := bz_bound a b
  have hbz := bezout_gives W a b (by omega)
  rw [hg] at hbz
  have l1 := len_big (show g < big by omega)
  have l2 := len_big (show (bz a b).1.natAbs < big by omega)
  have l3 := len_big (show (bz a b).2.natAbs < big by omega)
  have hsz := sizeLine_eq
  refine WPG.st (WP.asg (d := D a) (Ev.to (b := D ((a : Int)).toNat) (by walk_at "zev") rfl) (by walk_at "zgl") (by walk_at "zoff") (WP.nil (SegG.go ?_)))
  refine WPG.st (WP.asg (d := D b) (Ev.to (b := D ((b : Int)).toNat) (by walk_at "zev") rfl) (by walk_at "zgl") (by walk_at "zoff") (WP.nil (SegG.go ?_)))
  refine WPG.st (WP.unpack3 (d₁ := D g) (d₂ := S (bz a b).1) (d₃ := S (bz a b).2) (Ev.fn W (EvAll.cons (by walk_at "zev") (EvAll.cons (by walk_at "zev") EvAll.nil)) hbz (by decide) (by walk_at "zgl")) (by walk_at "zgl") (by walk_at "zgl") (by walk_at "zgl") (by walk_at "zoff") (by walk_at "zoff") (by walk_at "zoff") (WP.nil (SegG.go ?_)))
  refine WPG.st (WP.skip (Tst.cmp (d := .tuple [D a, D b]) (e := .tuple [D a, D b]) (by walk_at "zev") (by walk_at "zev") (Cmp.neSame (k := 2) (by walk_at "zsh") (by decide))) (WP.nil (SegG.go ?_)))
  refine WPG.st (WP.skip (Tst.cmp (d := D g) (e := D g) (by walk_at "zev") (by walk_at "zev") (Cmp.neSame (k := 1) (by walk_at "zsh") (by decide))) (WP.nil (SegG.go ?_)))
  refine WPG.st (WP.asg (d := .int (bz a b).1) (by walk_at "zev") (by walk_at "zgl") (by walk_at "zoff") (WP.nil (SegG.go ?_)))
  refine WPG.st (WP.asg (d := .int (bz a b).2) (by walk_at "zev") (by walk_at "zgl") (by walk_at "zoff") (WP.nil (SegG.go ?_)))
  refine WPG.st (WP.skip (Tst.cmp (d := .tuple [S (bz a b).1, S (bz a b).2]) (e := .tuple [S (bz a b).1, S (bz a b).2]) (by walk_at "zev") (by walk_at "zev") (Cmp.neSame (k := 3) (by walk_at "zsh") (by decide))) (WP.nil (SegG.go ?_)))
  refine WPG.anyIf (c := c) (T := T) (ps := #[]) (xs := [(bz a b).1.sign, (bz a b).2.sign] ++ dig g ++ dig (bz a b).1.natAbs ++ dig (bz a b).2.natAbs) W (by decide +kernel) (by walk_at "zblt") (by walk_at "zblt") (by walk_at "zgl") hcd x.code x.tab rfl (x.st W.ok) M (by walk_at "zev") rfl (fun P => by with_unfolding_all rfl) (by decide +kernel) (by decide +kernel) (by decide +kernel) rfl (by decide +kernel) (by decide +kernel) (by decide +kernel) (by decide +kernel) (by decide +kernel) ?_
  intro c'
  exact WPG.fin (pair_tail (Wd.reg W x.tab x.ns) a b g hg hg6 ha hb (by walk_at "zbp")) ⟨c', rfl⟩

def inv (n m : Nat) : Nat := ((bz n m).1 % (m : Int)).natAbs
theorem filter_one {p : Nat → Bool} {v : Nat} : ∀ {m : Nat}, v < m → p v = true → (∀ x, x < m → p x = true → x = v) → (List.range m).filter p = [v]
  | 0, h, _, _ => by omega
  | m + 1, h, hv, hu => by
    rw [List.range_succ, List.filter_append]
    by_cases z : v < m
    · rw [filter_one z hv fun x hx => hu x (by omega)]
      have : p m = false := by
        cases q : p m with
        | false => rfl
        | true => have := hu m (by omega) q; omega
      simp [this]
    · obtain rfl : v = m := by omega
      have e : (List.range v).filter p = [] := List.filter_eq_nil_iff.mpr fun x hx q => by
        have h1 := List.mem_range.mp hx
        have := hu x (by omega) q
        omega
      rw [e]; simp [hv]
theorem inv_ok {n m : Nat} (hm : 0 < m) (hg : Nat.gcd n m = 1) : inv n m < m ∧ (n : Int) * (inv n m : Int) % (m : Int) = 1 % (m : Int) ∧ ∀ x : Nat, x < m → (n : Int) * (x : Int) % (m : Int) = 1 % (m : Int) → x = inv n m := by
  have hid := bz_id n m
  rw [hg] at hid
  have h1 := Int.emod_nonneg (bz n m).1 (show (m : Int) ≠ 0 by omega)
  have h2 := Int.emod_lt_of_pos (bz n m).1 (show (0 : Int) < m by omega)
  have hv : ((inv n m : Nat) : Int) = (bz n m).1 % (m : Int) := by unfold inv; omega
  generalize (bz n m).1 = s at *
  generalize (bz n m).2 = t at *
  have key : (n : Int) * s % (m : Int) = 1 % (m : Int) := by
    have : (1 : Int) = (n : Int) * s + t * (m : Int) := by rw [Int.mul_comm (n : Int)]; exact hid.symm
    rw [this, Int.add_mul_emod_self_right]
  refine ⟨by omega, ?_, fun x hx hq => ?_⟩
  · rw [hv, Int.mul_emod, Int.emod_emod, ← Int.mul_emod]; exact key
  · have e : (x : Int) = s % (m : Int) := by
      have a1 : (x : Int) % (m : Int) = (x : Int) := Int.emod_eq_of_lt (by omega) (by omega)
      have a2 : (s * ((n : Int) * (x : Int))) % (m : Int) = s % (m : Int) := by
        rw [Int.mul_emod, hq, ← Int.mul_emod, Int.mul_one]
      have a3 : (x : Int) = s * ((n : Int) * (x : Int)) + (t * (x : Int)) * (m : Int) := by
        have : (x : Int) * 1 = (x : Int) * (s * (n : Int) + t * (m : Int)) := by rw [hid]; rfl
        rw [Int.mul_one, Int.mul_add] at this
        have b1 : (x : Int) * (s * (n : Int)) = s * ((n : Int) * (x : Int)) := by rw [Int.mul_left_comm, Int.mul_comm (x : Int)]
        have b2 : (x : Int) * (t * (m : Int)) = t * (x : Int) * (m : Int) := by rw [Int.mul_left_comm, Int.mul_assoc]
        have b3 : s * ((n : Int) * (x : Int)) + t * (x : Int) * (m : Int) = (x : Int) := by rw [← b1, ← b2]; exact this.symm
        exact b3.symm
      have a4 : (x : Int) % (m : Int) = s % (m : Int) := by
        rw [← a2]
        conv => lhs; rw [a3, Int.add_mul_emod_self_right]
      rw [← a1]; exact a4
    omega
theorem no_inv {n m : Nat} (hm : 0 < m) (hg : Nat.gcd n m ≠ 1) (x : Nat) : (n : Int) * (x : Int) % (m : Int) ≠ 1 % (m : Int) := fun h => by
  apply hg
  have h1 : (m : Int) ∣ (n : Int) * (x : Int) - 1 := Int.dvd_of_emod_eq_zero (Int.emod_eq_emod_iff_emod_sub_eq_zero.mp h)
  have g1 : ((Nat.gcd n m : Nat) : Int) ∣ (m : Int) := Int.natCast_dvd_natCast.mpr (Nat.gcd_dvd_right n m)
  have g2 : ((Nat.gcd n m : Nat) : Int) ∣ (n : Int) * (x : Int) := Int.dvd_mul_of_dvd_left (Int.natCast_dvd_natCast.mpr (Nat.gcd_dvd_left n m))
  have g3 : ((Nat.gcd n m : Nat) : Int) ∣ 1 := by
    have := Int.dvd_sub g2 (Int.dvd_trans g1 h1)
    rwa [show (n : Int) * (x : Int) - ((n : Int) * (x : Int) - 1) = 1 by omega] at this
  have g4 : Nat.gcd n m ∣ 1 := by exact_mod_cast g3
  exact Nat.dvd_one.mp g4
theorem only_eq (n m : Nat) : ((((List.range m).map fun j : Nat => (0 : Int) + (j : Int) * 1).filter fun x : Int => decide ((n : Int) * x % (m : Int) = 1 % (m : Int))).map fun x : Int => x) = if 0 < m ∧ Nat.gcd n m = 1 then [((inv n m : Nat) : Int)] else [] := by
  rw [List.map_id', List.filter_map]
  have hf : ((fun x : Int => decide ((n : Int) * x % (m : Int) = 1 % (m : Int))) ∘ fun j : Nat => (0 : Int) + (j : Int) * 1) = fun j : Nat => decide ((n : Int) * (j : Int) % (m : Int) = 1 % (m : Int)) := by
    funext j
    show decide ((n : Int) * ((0 : Int) + (j : Int) * 1) % (m : Int) = _) = _
    rw [show (0 : Int) + (j : Int) * 1 = (j : Int) by omega]
  rw [hf]
  by_cases h : 0 < m ∧ Nat.gcd n m = 1
  · obtain ⟨p1, p2, p3⟩ := inv_ok h.1 h.2
    rw [if_pos h, filter_one p1 (by simpa using p2) fun x hx q => p3 x hx (by simpa using q)]
    simp
  · rw [if_neg h]
    have e : (List.range m).filter (fun j : Nat => decide ((n : Int) * (j : Int) % (m : Int) = 1 % (m : Int))) = [] := List.filter_eq_nil_iff.mpr fun x hx q => by
      have h1 := List.mem_range.mp hx
      exact no_inv (by omega) (fun z => h ⟨by omega, z⟩) x (by simpa using q)
    rw [e]; rfl
abbrev gp2 : Pos := { line := 264, col := 11, endLine := 264, endCol := 50 }
abbrev PsiInv (C : Cx) (T : Addr) (ps : Array Value) (b : Heap) : Prop := b = C.base ∨ ∃ c' : Addr, b = regrown C.base T (ps ++ #[rawInt 264, rawInt 11, .ref c'])
theorem law_inverse_gives {C : Cx} (W : Wd C pP gloP bltP) {h₀ : Heap} {c T bm : Addr} {ob : Obj} {ps : Array Value} (x : Tb h₀ C "_law_inverse" gp2 c T ps) (M : BMod C.base mainGlobals C.mg bm ob) (n m : Nat) (hn : n < 10 ^ 15) (hm : m < 1000) :
    GivesG C 7 "_law_inverse" [.int n, .int m] (PsiInv C T ps) := by
  refine GivesG.of_body (lv := 6) (xs := ["n", "m"]) W.ok (W.fn 32 rfl) ⟨fun vs hv pm cd doc => by (match vs, hv with | [_, _], _ => rfl), List.forall_mem_cons.mpr ⟨.inr ⟨by decide +kernel, fun n => by with_unfolding_all rfl⟩, List.forall_mem_cons.mpr ⟨.inr ⟨by decide +kernel, fun n => by with_unfolding_all rfl⟩, List.forall_mem_nil _⟩⟩, rfl, rfl, rfl⟩ rfl ?_
  intro fa fo pm cd doc hmg hget hdata
  have hcd := x.cd hmg hget hdata
  show WPG C 6 (scopeAt pP 32) cd _ [("m", .int m), ("n", .int n)] _
  conv in (bodyAt _ _) => whnf
  have hB := big_is
  have hsz := sizeLine_eq
  obtain ⟨m1, n1⟩ := bz_bound n m
  refine WPG.st (WP.cons (Sp.asgComp (a := 0) (b := (m : Int)) (c := 1) (n := m) (fun L => [("n", L + 1), ("m", L + 1 + 1)]) [("n", (n : Int)), ("m", (m : Int))] (fun z : Int => decide ((n : Int) * z % (m : Int) = 1 % (m : Int))) (fun z : Int => z)
      (Rng.one W (by decide +kernel) (by walk_at "zgl") (by walk_at "zev")) (small_one (by decide) (by decide) (by omega) (by omega)) (by rw [rangeSize_one]; split <;> omega) (by omega) (fun P => by with_unfolding_all rfl) (by decide +kernel) rfl (by decide +kernel) (by decide +kernel) ?_ ?_ ?_ (fun P => by with_unfolding_all rfl) (by walk_at "zgl") (WP.nil (SegG.go ?_))))
  · intro z i e
    rw [List.lookup_cons] at e
    by_cases q : z = ("n" : Str)
    · subst q
      rw [beq_self_eq_true] at e; cases e
      exact ⟨by show Lk _ _ _; walk_at "zlk", by decide +kernel, fun L => ⟨L + 1, by with_unfolding_all rfl, by with_unfolding_all rfl⟩, fun P => by with_unfolding_all rfl⟩
    · rw [beq_eq_false_iff_ne.mpr q] at e
      simp only at e
      rw [List.lookup_cons] at e
      by_cases q : z = ("m" : Str)
      · subst q
        rw [beq_self_eq_true] at e; cases e
        exact ⟨by show Lk _ _ _; walk_at "zlk", by decide +kernel, fun L => ⟨L + 1 + 1, by with_unfolding_all rfl, by with_unfolding_all rfl⟩, fun P => by with_unfolding_all rfl⟩
      · rw [beq_eq_false_iff_ne.mpr q] at e; cases e
  · intro P Cc j hj
    exact Tests.one (BoolE.cmp (NumE.bin (NumE.bin (NumE.name (by with_unfolding_all rfl) (by with_unfolding_all rfl) (by decide +kernel)) (NumE.name (by with_unfolding_all rfl) (by with_unfolding_all rfl) (by decide +kernel)) (Bin.mulL (by omega) (by omega))) (NumE.name (by with_unfolding_all rfl) (by with_unfolding_all rfl) (by decide +kernel)) (Bin.modP (by omega)))
      (NumE.bin NumE.const (NumE.name (by with_unfolding_all rfl) (by with_unfolding_all rfl) (by decide +kernel)) (Bin.modP (by omega))) Cmp.eqInt)
  · intro P Cc j hj hq
    exact NumE.name (by with_unfolding_all rfl) (by with_unfolding_all rfl) (by decide +kernel)
  rw [only_eq]
  refine WPG.st (WP.asg (d := D n) (Ev.to (b := D ((n : Int)).toNat) (by walk_at "zev") rfl) (by walk_at "zgl") (by walk_at "zoff") (WP.nil (SegG.go ?_)))
  refine WPG.st (WP.asg (d := D m) (Ev.to (b := D ((m : Int)).toNat) (by walk_at "zev") rfl) (by walk_at "zgl") (by walk_at "zoff") (WP.nil (SegG.go ?_)))
  refine WPG.st (WP.asg (d := .none) (by walk_at "zev") (by walk_at "zgl") (by walk_at "zoff") (WP.nil (SegG.go ?_)))
  refine WPG.st (WP.asg (d := .bool false) (by walk_at "zev") (by walk_at "zgl") (by walk_at "zoff") (WP.nil (SegG.go ?_)))
  by_cases h : 0 < m ∧ Nat.gcd n m = 1
  · obtain ⟨p1, p2, p3⟩ := inv_ok h.1 h.2
    rw [if_pos h]
    have l1 := len_big (show inv n m < big by omega)
    have hgv : Gives C 6 "mod_inverse" [D n, D m] (D (inv n m)) := mod_inverse_gives W n m h.1 (by omega) h.2 (by omega)
    refine WPG.st (WP.tryOk (WP.asg (d := D (inv n m)) (Ev.fn W (EvAll.cons (by walk_at "zev") (EvAll.cons (by walk_at "zev") EvAll.nil)) hgv (by decide) (by walk_at "zgl")) (by walk_at "zgl") (by walk_at "zoff") (WP.nil (WP.nil (SegG.go ?_)))))
    refine WPG.st (WP.skip (Tst.cmp (d := .tuple [D n, D m]) (e := .tuple [D n, D m]) (by walk_at "zev") (by walk_at "zev") (Cmp.neSame (k := 2) (by walk_at "zsh") (by decide))) (WP.nil (SegG.go ?_)))
    refine WPG.st (WP.skip (Tst.to (b := decide (([((inv n m : Nat) : Int)] : List Int) = [])) (by walk_at "zev") (by simp)) (WP.nil (SegG.go ?_)))
    refine WPG.st (WP.skip (Tst.to (b := false) (by walk_at "zev") rfl) (WP.nil (SegG.go ?_)))
    refine WPG.st (WP.skip (Tst.cmp (d := D (inv n m)) (e := D (inv n m)) (by walk_at "zev") (Ev.fn W (EvAll.cons (Ev.to (b := .int (([((inv n m : Nat) : Int)] : List Int).getD ((0 : Int)).toNat 0)) (by walk_at "zev") rfl) EvAll.nil) (law_limbs_nat W (inv n m) (by omega)) (by decide) (by walk_at "zgl")) (Cmp.neSame (k := 1) (by walk_at "zsh") (by decide))) (WP.nil (SegG.go ?_)))
    refine WPG.anyIf (c := c) (T := T) (ps := ps) (xs := dig (inv n m)) W (by decide +kernel) (by walk_at "zblt") (by walk_at "zblt") (by walk_at "zgl") hcd x.code x.tab x.nf (x.st W.ok) M (by walk_at "zev") rfl (fun P => by with_unfolding_all rfl) (by decide +kernel) (by decide +kernel) (by decide +kernel) rfl (by decide +kernel) (by decide +kernel) (by decide +kernel) (by decide +kernel) (by decide +kernel) ?_
    intro c'
    refine WPG.fin ?_ (.inr ⟨c', rfl⟩)
    walk_at "zret"
    rfl
  · rw [if_neg h]
    have hra : Raises C 6 "mod_inverse" [D n, D m] "ValueError" := by
      by_cases z : m = 0
      · subst z; exact mod_inverse_zero W n
      · exact mod_inverse_raises W n m (by omega) (by omega) fun q => h ⟨by omega, q⟩
    refine WPG.st (WP.tryV W (ds := [D n, D m]) (EvAll.cons (by walk_at "zev") (EvAll.cons (by walk_at "zev") EvAll.nil)) hra (by decide) (by walk_at "zblt") (by walk_at "zgl") (by walk_at "zgl") (by walk_at "zgl") (by walk_at "zoff") (WP.nil (SegG.go ?_)))
    refine WPG.st (WP.skip (Tst.cmp (d := .tuple [D n, D m]) (e := .tuple [D n, D m]) (by walk_at "zev") (by walk_at "zev") (Cmp.neSame (k := 2) (by walk_at "zsh") (by decide))) (WP.nil (SegG.go ?_)))
    refine WPG.st (WP.ifT (Tst.to (b := decide (([] : List Int) = [])) (by walk_at "zev") (by simp)) ?_)
    walk_at "zskip"
    refine WP.ret (d := .bool true) (by walk_at "zev") ?_
    exact ⟨rfl, .inl rfl⟩

theorem modN (a : Int) (k : Nat) (hk : 0 < k) : ∃ n : Nat, a % (k : Int) = (n : Int) ∧ n < k := by
  have h1 := Int.emod_nonneg a (show (k : Int) ≠ 0 by omega)
  have h2 := Int.emod_lt_of_pos a (show (0 : Int) < (k : Int) by omega)
  exact ⟨(a % (k : Int)).toNat, by omega, by omega⟩
theorem scale_at (a : Int) : ∃ s : Nat, tbScales.getD (a % 11).toNat 0 = (s : Int) ∧ 1 ≤ s ∧ s ≤ 65536 := by
  have key : ∀ i : Nat, i < 11 → 1 ≤ tbScales.getD i 0 ∧ tbScales.getD i 0 ≤ 65536 := by decide
  have := key (a % 11).toNat (by omega)
  exact ⟨(tbScales.getD (a % 11).toNat 0).toNat, by omega, by omega, by omega⟩
theorem quot_at (a : Int) : ∃ s : Nat, tbQuots.getD (a % 11).toNat 0 = (s : Int) ∧ s ≤ 99999999 := by
  have key : ∀ i : Nat, i < 11 → 0 ≤ tbQuots.getD i 0 ∧ tbQuots.getD i 0 ≤ 99999999 := by decide
  have := key (a % 11).toNat (by omega)
  exact ⟨(tbQuots.getD (a % 11).toNat 0).toNat, by omega, by omega⟩
theorem digit_at (a : Int) : ∃ s : Nat, tbDigits.getD (a % 7).toNat 0 = (s : Int) ∧ s ≤ 9999 := by
  have key : ∀ i : Nat, i < 7 → 0 ≤ tbDigits.getD i 0 ∧ tbDigits.getD i 0 ≤ 9999 := by decide
  have := key (a % 7).toNat (by omega)
  exact ⟨(tbDigits.getD (a % 7).toNat 0).toNat, by omega, by omega⟩
theorem nmul (a b : Nat) : (a : Int) * (b : Int) = ((a * b : Nat) : Int) := (Int.natCast_mul a b).symm
theorem law_t3 {C : Cx} (W : Wd C pP gloP bltP) (xs : List Int) (h19 : 19 ≤ xs.length) (hl : xs.length ≤ 1000) {σ : Sg} (hs : Lk σ "script" (L xs)) : WP C 7 (scopeAt pP 34) ((bodyAt pP 34).drop 18) σ none (fun r => r = .ret (.bool true)) := by
  conv in (List.drop _ _) => whnf
  obtain ⟨sc, hsc, s1, s2⟩ := scale_at (xs.getD (15 : Int).toNat 0)
  obtain ⟨q, hq, q1⟩ := quot_at (xs.getD (17 : Int).toNat 0)
  obtain ⟨e, he⟩ : ∃ e : Int, xs.getD (14 : Int).toNat 0 % 9 - 4 = e := ⟨_, rfl⟩
  obtain ⟨f, hf⟩ : ∃ f : Int, xs.getD (16 : Int).toNat 0 % 3 - 1 = f := ⟨_, rfl⟩
  have e1 : e.natAbs ≤ 4 := by omega
  have f1 : f.natAbs ≤ 1 := by omega
  have d1 : (e * (sc : Int)).natAbs ≤ 4 * 65536 := by rw [Int.natAbs_mul, Int.natAbs_natCast]; exact Nat.mul_le_mul e1 s2
  have g1 : (f * (q : Int)).natAbs ≤ 1 * 99999999 := by rw [Int.natAbs_mul, Int.natAbs_natCast]; exact Nat.mul_le_mul f1 q1
  refine WP.asg (d := .int (e * (sc : Int))) (Ev.to (b := .int ((xs.getD (14 : Int).toNat 0 % 9 - 4) * tbScales.getD (xs.getD (15 : Int).toNat 0 % 11).toNat 0)) (by walk_at "zev") (by rw [he, hsc])) (by walk_at "zgl") (by walk_at "zoff") ?_
  generalize e * (sc : Int) = d at *
  have n1 : (f * (q : Int) * d).natAbs ≤ 1 * 99999999 * (4 * 65536) := by rw [Int.natAbs_mul]; exact Nat.mul_le_mul g1 d1
  have hqr : -(2 ^ 64) < (xs.getD (16 : Int).toNat 0 % 3 - 1) * tbQuots.getD (xs.getD (17 : Int).toNat 0 % 11).toNat 0 ∧ (xs.getD (16 : Int).toNat 0 % 3 - 1) * tbQuots.getD (xs.getD (17 : Int).toNat 0 % 11).toNat 0 < 2 ^ 64 := by
    rw [hf, hq]; omega
  obtain ⟨u1, u2⟩ := hqr
  refine WP.asg (d := .int (f * (q : Int) * d + xs.getD (18 : Int).toNat 0 % 21 - 10)) (Ev.to (b := .int ((xs.getD (16 : Int).toNat 0 % 3 - 1) * tbQuots.getD (xs.getD (17 : Int).toNat 0 % 11).toNat 0 * d + xs.getD (18 : Int).toNat 0 % 21 - 10)) (by walk_at "zev") (by rw [hf, hq])) (by walk_at "zgl") (by walk_at "zoff") ?_
  generalize f * (q : Int) * d = p at *
  have hn : (p + xs.getD (18 : Int).toNat 0 % 21 - 10).natAbs < 10 ^ 16 := by omega
  have hd : d.natAbs < 10 ^ 6 := by omega
  walk_at "zskip"
  walk_at "zret"
  rfl
theorem law_t2 {C : Cx} (W : Wd C pP gloP bltP) {h₀ : Heap} {c T bm : Addr} {ob : Obj} {ps : Array Value} {cd : Value} (x : Tb h₀ C "_law_inverse" gp2 c T ps) (M : BMod C.base mainGlobals C.mg bm ob) (K : OldK h₀ C.base) (xs : List Int) (h19 : 19 ≤ xs.length) (hl : xs.length ≤ 1000) (b dd : Nat) (hb : 0 < b) (hb' : b ≤ 1000000) (hdd : dd ≤ 9999) {σ : Sg} (hs : Lk σ "script" (L xs)) (kb : Lk σ "b" (.int b)) (kd : Lk σ "digit" (.int dd)) :
    WPG C 7 (scopeAt pP 34) cd ((bodyAt pP 34).drop 14) σ (OldK h₀) := by
  conv in (List.drop _ _) => whnf
  have hsz := sizeLine_eq
  obtain ⟨r0, hr0, hrb⟩ := modN (xs.getD (10 : Int).toNat 0) b hb
  refine WPG.st (WP.asg (d := .tuple (I [0, (b : Int) - 1, (r0 : Int)])) (Ev.to (b := .tuple (I [0, (b : Int) - 1, xs.getD (10 : Int).toNat 0 % (b : Int)])) (Ev.tuple (by show EvI _ _ _ _ _ _ _; walk_at "zev") (by rw [sizeLine_eq]; simp)) (by rw [hr0])) (by walk_at "zgl") (by walk_at "zoff") (WP.nil (SegG.go ?_)))
  obtain ⟨r, hr, hrlt⟩ : ∃ r : Nat, ([0, (b : Int) - 1, (r0 : Int)] : List Int).getD (xs.getD (9 : Int).toNat 0 % 3).toNat 0 = (r : Int) ∧ r < b := by
    have h3 : (xs.getD (9 : Int).toNat 0 % 3).toNat = 0 ∨ (xs.getD (9 : Int).toNat 0 % 3).toNat = 1 ∨ (xs.getD (9 : Int).toNat 0 % 3).toNat = 2 := by omega
    rcases h3 with h3 | h3 | h3 <;> rw [h3]
    · exact ⟨0, rfl, hb⟩
    · exact ⟨b - 1, by show (b : Int) - 1 = _; omega, by omega⟩
    · exact ⟨r0, rfl, hrb⟩
  refine WPG.st (WP.skip (Tst.to (b := !true) (Tst.not (Tst.val (Ev.fn (ds := [.int b, .int dd, .int r]) W (EvAll.cons (by walk_at "zev") (EvAll.cons (by walk_at "zev") (EvAll.cons (Ev.to (b := .int (([0, (b : Int) - 1, (r0 : Int)] : List Int).getD (xs.getD (9 : Int).toNat 0 % 3).toNat 0)) (by walk_at "zev") (by rw [hr])) EvAll.nil))) (law_digit_gives W b dd r hb hb' hdd hrlt) (by decide) (by walk_at "zgl")) Tru.bool)) rfl) (WP.nil (SegG.go ?_)))
  obtain ⟨m, hm, hm13⟩ := modN (xs.getD (11 : Int).toNat 0) 13 (by decide)
  obtain ⟨n0, hn0, hn13⟩ := modN (xs.getD (12 : Int).toNat 0) 13 (by decide)
  obtain ⟨q, hq, q1⟩ := quot_at (xs.getD (13 : Int).toNat 0)
  have mq : m * q ≤ 12 * 99999999 := Nat.mul_le_mul (by omega) q1
  refine WPG.st (WP.asg (d := .int m) (Ev.to (b := .int (xs.getD (11 : Int).toNat 0 % 13)) (by walk_at "zev") (by rw [show (13 : Int) = ((13 : Nat) : Int) from rfl, hm])) (by walk_at "zgl") (by walk_at "zoff") (WP.nil (SegG.go ?_)))
  refine WPG.callIf W (EvAll.cons (Ev.to (b := .int (xs.getD (12 : Int).toNat 0 % 13 + (m : Int) * tbQuots.getD (xs.getD (13 : Int).toNat 0 % 11).toNat 0)) (by walk_at "zev") (show _ = PyData.int ((n0 + m * q : Nat) : Int) by rw [show xs.getD (12 : Int).toNat 0 % 13 = (n0 : Int) from hn0, hq, nmul]; rfl)) (EvAll.cons (by walk_at "zev") EvAll.nil)) (law_inverse_gives W x M (n0 + m * q) m (by omega) (by omega)) (by decide) (by walk_at "zgl") ?_ ?_
  · rintro b' (rfl | ⟨c', rfl⟩) y hy
    · exact hy
    · exact regrown_none x.tab.2 y hy
  · rintro b' (rfl | ⟨c', rfl⟩)
    · exact WPG.fin (law_t3 W xs h19 hl (by walk_at "zlk")) K
    · exact WPG.fin (law_t3 (Wd.reg W x.tab x.ns) xs h19 hl (by walk_at "zlk")) (OldK.reg K x W.ok)
theorem law_t1 {C : Cx} (W : Wd C pP gloP bltP) {h₀ : Heap} {c T bm : Addr} {ob : Obj} {ps : Array Value} {cd : Value} (x : Tb h₀ C "_law_inverse" gp2 c T ps) (M : BMod C.base mainGlobals C.mg bm ob) (K : OldK h₀ C.base) (xs : List Int) (h19 : 19 ≤ xs.length) (hl : xs.length ≤ 1000) {σ : Sg} (hs : Lk σ "script" (L xs)) :
    WPG C 7 (scopeAt pP 34) cd ((bodyAt pP 34).drop 11) σ (OldK h₀) := by
  conv in (List.drop _ _) => whnf
  obtain ⟨sc, hsc, s1, s2⟩ := scale_at (xs.getD (5 : Int).toNat 0)
  obtain ⟨k, hk, hk9⟩ := modN (xs.getD (6 : Int).toNat 0) 9 (by decide)
  obtain ⟨d, hd, hd4⟩ := modN (xs.getD (8 : Int).toNat 0) 10000 (by decide)
  obtain ⟨d', hd', hd4'⟩ := digit_at (xs.getD (8 : Int).toNat 0)
  have hb1 : sc * (1 + k) ≤ 65536 * 9 := Nat.mul_le_mul s2 (by omega)
  have hb2 : 0 < sc * (1 + k) := Nat.mul_pos (by omega) (by omega)
  refine WPG.st (WP.asg (d := .int ((sc * (1 + k) : Nat) : Int)) (Ev.to (b := .int (tbScales.getD (xs.getD (5 : Int).toNat 0 % 11).toNat 0 * (1 + xs.getD (6 : Int).toNat 0 % 9))) (by walk_at "zev") (by rw [hsc, show xs.getD (6 : Int).toNat 0 % 9 = (k : Int) from hk, ← nmul]; rfl)) (by walk_at "zgl") (by walk_at "zoff") (WP.nil (SegG.go ?_)))
  generalize sc * (1 + k) = b at *
  refine WPG.st (WP.asg (d := .int (d : Int)) (Ev.to (b := .int (xs.getD (8 : Int).toNat 0 % 10000)) (by walk_at "zev") (by rw [show (10000 : Int) = ((10000 : Nat) : Int) from rfl, hd])) (by walk_at "zgl") (by walk_at "zoff") (WP.nil (SegG.go ?_)))
  by_cases h2 : xs.getD (7 : Int).toNat 0 % 2 = 0
  · refine WPG.st (WP.ifT (Tst.to (b := decide (xs.getD (7 : Int).toNat 0 % 2 = 0)) (by walk_at "zev") (by simpa using h2)) ?_)
    refine WP.asg (d := .int (d' : Int)) (Ev.to (b := .int (tbDigits.getD (xs.getD (8 : Int).toNat 0 % 7).toNat 0)) (by walk_at "zev") (by rw [hd'])) (by walk_at "zgl") (by walk_at "zoff") ?_
    refine WP.nil (WP.nil (SegG.go ?_))
    exact law_t2 W x M K xs h19 hl b d' hb2 (by omega) hd4' (by walk_at "zlk") (by walk_at "zlk") (by walk_at "zlk")
  · refine WPG.st (WP.skip (Tst.to (b := decide (xs.getD (7 : Int).toNat 0 % 2 = 0)) (by walk_at "zev") (by simpa using h2)) (WP.nil (SegG.go ?_)))
    exact law_t2 W x M K xs h19 hl b d hb2 (by omega) (by omega) (by walk_at "zlk") (by walk_at "zlk") (by walk_at "zlk")
theorem gcd_step (q u v : Nat) : Nat.gcd u (q * u + v) = Nat.gcd u v := by
  rw [Nat.add_comm, Nat.gcd_add_mul_right_right]
theorem law_gives {C : Cx} (W : Wd C pP gloP bltP) {c T c' T' bm : Addr} {ob : Obj} {gp : Pos} (x : Tb C.base C "_law_pair" gp c T #[]) (y : Tb C.base C "_law_inverse" gp2 c' T' #[]) (M : BMod C.base mainGlobals C.mg bm ob) (xs : List Int) (hl : xs.length ≤ 1000) : GivesG C 8 "law" [L xs] (OldK C.base) := by
  refine GivesG.of_body (lv := 7) (xs := ["script"]) W.ok (W.fn 34 rfl) (Plain.c (by walk_at "zpl1")) rfl ?_
  intro fa fo pm cd doc hmg hget hdata
  show WPG C 7 (scopeAt pP 34) cd _ [("script", L xs)] _
  conv in (bodyAt _ _) => whnf
  have hB := big_is
  have hsz := sizeLine_eq
  by_cases h19 : xs.length < 19
  · refine WPG.st (WP.ifT (Tst.to (b := decide ((xs.length : Int) < 19)) (by walk_at "zev") (by simp; omega)) ?_)
    refine WP.ret (d := .bool true) (by walk_at "zev") ?_
    exact ⟨rfl, OldK.refl _⟩
  · refine WPG.st (WP.skip (Tst.to (b := decide ((xs.length : Int) < 19)) (by walk_at "zev") (by simp; omega)) (WP.nil (SegG.go ?_)))
    obtain ⟨sc, hsc, s1, s2⟩ := scale_at (xs.getD (2 : Int).toNat 0)
    obtain ⟨X, hX, hX8⟩ := modN (xs.getD (0 : Int).toNat 0) 8 (by decide)
    obtain ⟨Y, hY, hY8⟩ := modN (xs.getD (1 : Int).toNat 0) 8 (by decide)
    obtain ⟨q3, hq3, q31⟩ := quot_at (xs.getD (3 : Int).toNat 0)
    obtain ⟨q4, hq4, q41⟩ := quot_at (xs.getD (4 : Int).toNat 0)
    have e8 : (8 : Int) = ((8 : Nat) : Int) := rfl
    have bu : X * sc ≤ 7 * 65536 := Nat.mul_le_mul (by omega) s2
    have bv : Y * sc ≤ 7 * 65536 := Nat.mul_le_mul (by omega) s2
    have gle : Nat.gcd X Y ≤ 7 := by
      by_cases z : X = 0
      · subst z; rw [Nat.gcd_zero_left]; omega
      · have := Nat.le_of_dvd (by omega) (Nat.gcd_dvd_left X Y)
        omega
    have bg : Nat.gcd X Y * sc ≤ 7 * 65536 := Nat.mul_le_mul gle s2
    have hgcd : Nat.gcd (X * sc) (Y * sc) = Nat.gcd X Y * sc := Nat.gcd_mul_right X sc Y
    refine WPG.st (WP.asg (d := .int (sc : Int)) (Ev.to (b := .int (tbScales.getD (xs.getD (2 : Int).toNat 0 % 11).toNat 0)) (by walk_at "zev") (by rw [hsc])) (by walk_at "zgl") (by walk_at "zoff") (WP.nil (SegG.go ?_)))
    refine WPG.st (WP.asg (d := .int ((X * sc : Nat) : Int)) (Ev.to (b := .int (xs.getD (0 : Int).toNat 0 % 8 * (sc : Int))) (by walk_at "zev") (by rw [e8, hX, nmul])) (by walk_at "zgl") (by walk_at "zoff") (WP.nil (SegG.go ?_)))
    refine WPG.st (WP.asg (d := .int ((Y * sc : Nat) : Int)) (Ev.to (b := .int (xs.getD (1 : Int).toNat 0 % 8 * (sc : Int))) (by walk_at "zev") (by rw [e8, hY, nmul])) (by walk_at "zgl") (by walk_at "zoff") (WP.nil (SegG.go ?_)))
    refine WPG.st (WP.asg (d := .int ((Nat.gcd X Y * sc : Nat) : Int)) (Ev.to (b := .int (((Nat.gcd X Y : Nat) : Int) * (sc : Int))) (Ev.bin (Ev.fn (ds := [.int X, .int Y]) W (EvAll.cons (Ev.to (b := .int (xs.getD (0 : Int).toNat 0 % 8)) (by walk_at "zev") (by rw [e8, hX])) (EvAll.cons (Ev.to (b := .int (xs.getD (1 : Int).toNat 0 % 8)) (by walk_at "zev") (by rw [e8, hY])) EvAll.nil)) (law_measure_gives W X Y hX8 hY8) (by decide) (by walk_at "zgl")) (by walk_at "zev") (Bin.mulL (by omega) (by omega))) (by rw [nmul])) (by walk_at "zgl") (by walk_at "zoff") (WP.nil (SegG.go ?_)))
    generalize hu : X * sc = u at *
    generalize hv : Y * sc = v at *
    generalize hg : Nat.gcd X Y * sc = g at *
    refine WPG.st (WP.asg (d := D u) (Ev.to (b := D ((u : Int)).toNat) (by walk_at "zev") rfl) (by walk_at "zgl") (by walk_at "zoff") (WP.nil (SegG.go ?_)))
    refine WPG.st (WP.asg (d := D v) (Ev.to (b := D ((v : Int)).toNat) (by walk_at "zev") rfl) (by walk_at "zgl") (by walk_at "zoff") (WP.nil (SegG.go ?_)))
    refine WPG.st (WP.skip (Tst.cmp (d := D (Nat.gcd u v)) (e := D g) (Ev.fn W (EvAll.cons (by walk_at "zev") (EvAll.cons (by walk_at "zev") EvAll.nil)) (gcd_nat_gives W u v (by omega) (by omega)) (by decide) (by walk_at "zgl")) (by walk_at "zev") (Cmp.neTo (k := 1) (by rw [hgcd]) (by walk_at "zsh") (by decide))) (WP.nil (SegG.go ?_)))
    refine WPG.st (WP.skip (Tst.cmp (d := .tuple [D u, D v]) (e := .tuple [D u, D v]) (by walk_at "zev") (by walk_at "zev") (Cmp.neSame (k := 2) (by walk_at "zsh") (by decide))) (WP.nil (SegG.go ?_)))
    have bw : q3 * u ≤ 99999999 * (7 * 65536) := Nat.mul_le_mul q31 bu
    refine WPG.st (WP.asg (d := .int ((q3 * u + v : Nat) : Int)) (Ev.to (b := .int (tbQuots.getD (xs.getD (3 : Int).toNat 0 % 11).toNat 0 * (u : Int) + (v : Int))) (by walk_at "zev") (by rw [hq3, nmul]; rfl)) (by walk_at "zgl") (by walk_at "zoff") (WP.nil (SegG.go ?_)))
    have hw : Nat.gcd u (q3 * u + v) = g := by rw [gcd_step, hgcd]
    have hwb : q3 * u + v ≤ 99999999 * (7 * 65536) + 7 * 65536 := by omega
    generalize q3 * u + v = w at *
    have ba : q4 * w ≤ 99999999 * (99999999 * (7 * 65536) + 7 * 65536) := Nat.mul_le_mul q41 (by omega)
    have hpg : Nat.gcd (q4 * w + u) w = g := by rw [Nat.gcd_comm, gcd_step, Nat.gcd_comm, hw]
    refine WPG.callIf W (EvAll.cons (Ev.to (b := .int (tbQuots.getD (xs.getD (4 : Int).toNat 0 % 11).toNat 0 * (w : Int) + (u : Int))) (by walk_at "zev") (show _ = PyData.int ((q4 * w + u : Nat) : Int) by rw [hq4, nmul]; rfl)) (EvAll.cons (by walk_at "zev") (EvAll.cons (by walk_at "zev") EvAll.nil))) (law_pair_gives W x M (q4 * w + u) w g hpg (by omega) (by omega) (by omega)) (by decide) (by walk_at "zgl") ?_ ?_
    · rintro b' ⟨c', rfl⟩ z hz
      exact regrown_none x.tab.2 z hz
    · rintro b' ⟨a', rfl⟩
      obtain ⟨ps, y'⟩ := Tb.other (a := a') (l := 192) (k := 11) x y rfl
      exact law_t1 (Wd.reg W x.tab x.ns) y' (BMod.reg M x.tab) (OldK.reg (OldK.refl _) x W.ok) xs (by omega) hl (by walk_at "zlk")

end Mine
open PySem PySem.W PyProof.Rows
set_option Elab.async false
set_option maxRecDepth 100000
set_option maxHeartbeats 8000000
namespace Mine
/-- the text without the two rows that name the module -/
def viewP : Program := { PySem.Challenge.pw_sx_zlimbs_6 with main := { PySem.Challenge.pw_sx_zlimbs_6.main with body := ((List.range 35).filter fun i => i != 0 && i != 23).filterMap (PySem.Challenge.pw_sx_zlimbs_6.main.body[·]?) } }
theorem rec_at {n : Str} (h : ((recsOf viewP).any fun d => d.name == n) = true) : ∃ d ∈ recsOf viewP, d.name = n := by
  obtain ⟨d, hd, e⟩ := List.any_eq_true.mp h
  exact ⟨d, hd, beq_iff_eq.mp e⟩
end Mine
theorem PySem.Challenge.cw_sx_zlimbs_6_holds : PySem.Challenge.rw_sx_zlimbs_6.Holds := by
  w_on
  o_law
  refine holds_open (q := Mine.viewP) (loose := []) (Xt := fun s => xlAt Mine.viewP [] s && recOk (RowW.records PySem.Challenge.rw_sx_zlimbs_6.row.toRowW) s) (XP := XL Mine.viewP []) (Yf := Hook.obs Hook.none) (Ya := Hook.val Hook.none) (YP := Hook.says Hook.none) (N := 2182) ?hl (Hook.of Hook.none) (Hook.keeps Hook.none) (fun s e => xl_of s (Bool.and_eq_true_iff.mp e).1) XL.keeps (by rfl) (by rfl) (by rfl) (fun s e => recFacts_of (Bool.and_eq_true_iff.mp e).2) (by rfl) (by first | assumption | decide +kernel) (by decide +kernel) ⟨rfl, rfl, rfl, rfl, rfl, by decide +kernel⟩ ?hw ?hc
  case hl => intro w; kernel_rfl
  case hw => w_witness2
  intro w s₀ s₁ mg mb G Y fa o pm cd doc dV kV ho hd hcd hD hmg hg args vals as hpre hlay hrd hwl hlo
  refine Ground.open G ?_
  intro T B D TE TW
  refine Mine.closeG (l := PySem.Challenge.rw_sx_zlimbs_6) (C := ⟨PySem.Challenge.pw_sx_zlimbs_6, w, s₁.heap, mg, mb⟩) (k := 8) (n := 63) rfl rfl rfl hmg hg hpre hrd (by decide) ?_
  intro xs hx
  obtain ⟨c, P, hx⟩ := Mine.tb_top (p := PySem.Challenge.pw_sx_zlimbs_6) (w := w) (n := "_law_pair") (gp := Mine.gp2) T (Mine.rec_at (by kernel_rfl))
  obtain ⟨c', P', hy⟩ := Mine.tb_top (p := PySem.Challenge.pw_sx_zlimbs_6) (w := w) (n := "_law_inverse") (gp := Mine.gp2) T (Mine.rec_at (by kernel_rfl))
  obtain ⟨bm, ob, hM⟩ := Mine.bm_top (p := PySem.Challenge.pw_sx_zlimbs_6) (w := w) T
  refine Mine.law_gives (Mine.world T B ?_ ?_ ?_) hx hy hM xs (by omega)
  · kernel_rfl
  · refine List.forall_mem_cons.mpr ⟨Mine.glo_int ?_, List.forall_mem_cons.mpr ⟨Mine.glo_tup ?_, List.forall_mem_cons.mpr ⟨Mine.glo_tup ?_, List.forall_mem_cons.mpr ⟨Mine.glo_tup ?_, List.forall_mem_nil _⟩⟩⟩⟩ <;> kernel_rfl
  · kernel_rfl
