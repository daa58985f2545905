import PyProof.Rows.All
import PyProof.StationsW
import PyProof.Claim2
import PyProof.Calls
import PyProof.Seq
import PyProof.Rules3
import PyProof.RulesTry
import PyProof.Rows.Frame
import PyProof.Rows.CellsFrame
import KE.KItem
import OpenK.KRaise
import PyProof.ExcFactsAll.ValueError
import PyProof.ExcFactsAll.ZeroDivisionError
import PyProof.ExcAttrAll.ValueError
import PyProof.ExcAttrAll.ZeroDivisionError
import Open.Line
import PySem.Challenge.RW_sx_zlimbs_4
set_option Elab.async false
set_option maxRecDepth 100000
namespace Mine
open PySem PySem.Calls PyProof.Rows
set_option autoImplicit false

-- data read at one heap are read at another that keeps their objects
mutual
theorem reads_on {h h' : Heap} : ∀ {v : Value} {d : PyData} {as : List Addr}, Reads h v d as →
    (∀ b o, h.get? b = some o → (b ∈ as ∨ (o.cls = .type "tuple" ∧ ∃ vs n, o.data = .seq vs n)) → ∃ o', h'.get? b = some o' ∧ o'.cls = o.cls ∧ o'.data = o.data) → Reads h' v d as
  | _, _, _, .none, _ => .none
  | _, _, _, .bool b, _ => .bool b
  | _, _, _, .int i t, _ => .int i t
  | _, _, _, .str x t, _ => .str x t
  | _, _, _, .list h1 h2 h3 h4, H =>
    let ⟨_, k1, k2, k3⟩ := H _ _ h1 (.inl (.head _))
    .list k1 (k2.trans h2) (k3.trans h3) (readsAll_on h4 fun b o e q => H b o e (q.imp (.tail _) id))
  | _, _, _, .tuple h1 h2 h3 h4, H =>
    let ⟨_, k1, k2, k3⟩ := H _ _ h1 (.inr ⟨h2, _, _, h3⟩)
    .tuple k1 (k2.trans h2) (k3.trans h3) (readsAll_on h4 H)
  | _, _, _, .dict h1 h2 h3 h4 h5, H =>
    let ⟨_, k1, k2, k3⟩ := H _ _ h1 (.inl (.head _))
    .dict k1 (k2.trans h2) (k3.trans h3) (readsAll_on h4 fun b o e q => H b o e (q.imp (fun m => .tail _ (List.mem_append_left _ m)) id))
      (readsAll_on h5 fun b o e q => H b o e (q.imp (fun m => .tail _ (List.mem_append_right _ m)) id))
theorem readsAll_on {h h' : Heap} : ∀ {vs : List Value} {ds : List PyData} {as : List Addr}, ReadsAll h vs ds as →
    (∀ b o, h.get? b = some o → (b ∈ as ∨ (o.cls = .type "tuple" ∧ ∃ vs n, o.data = .seq vs n)) → ∃ o', h'.get? b = some o' ∧ o'.cls = o.cls ∧ o'.data = o.data) → ReadsAll h' vs ds as
  | _, _, _, .nil, _ => .nil
  | _, _, _, .cons h1 h2, H => .cons (reads_on h1 fun b o e q => H b o e (q.imp (List.mem_append_left _) id)) (readsAll_on h2 fun b o e q => H b o e (q.imp (List.mem_append_right _) id))
end
mutual
theorem reads_seq {h : Heap} : ∀ {v : Value} {d : PyData} {as : List Addr}, Reads h v d as → ∀ a ∈ as, ∃ o, h.get? a = some o ∧ ∀ vs, o.data ≠ .fields vs
  | _, _, _, .none, _, m => nomatch m
  | _, _, _, .bool _, _, m => nomatch m
  | _, _, _, .int _ _, _, m => nomatch m
  | _, _, _, .str _ _, _, m => nomatch m
  | _, _, _, .list h1 _ h3 h4, a, m => (List.mem_cons.mp m).elim (fun e => ⟨_, e ▸ h1, fun _ q => by rw [h3] at q; cases q⟩) (readsAll_seq h4 a)
  | _, _, _, .tuple _ _ _ h4, a, m => readsAll_seq h4 a m
  | _, _, _, .dict h1 _ h3 h4 h5, a, m => (List.mem_cons.mp m).elim (fun e => ⟨_, e ▸ h1, fun _ q => by rw [h3] at q; cases q⟩) fun m => (List.mem_append.mp m).elim (readsAll_seq h4 a) (readsAll_seq h5 a)
theorem readsAll_seq {h : Heap} : ∀ {vs : List Value} {ds : List PyData} {as : List Addr}, ReadsAll h vs ds as → ∀ a ∈ as, ∃ o, h.get? a = some o ∧ ∀ vs, o.data ≠ .fields vs
  | _, _, _, .nil, _, m => nomatch m
  | _, _, _, .cons h1 h2, a, m => (List.mem_append.mp m).elim (reads_seq h1 a) (readsAll_seq h2 a)
end
theorem reads_live {h : Heap} {v : Value} {d : PyData} {as : List Addr} (r : Reads h v d as) (a : Addr) (m : a ∈ as) : ∃ o, h.get? a = some o := let ⟨o, e, _⟩ := reads_seq r a m; ⟨o, e⟩
theorem readsAll_live {h : Heap} {v : List Value} {d : List PyData} {as : List Addr} (r : ReadsAll h v d as) (a : Addr) (m : a ∈ as) : ∃ o, h.get? a = some o := let ⟨o, e, _⟩ := readsAll_seq r a m; ⟨o, e⟩

/-- a value that reads as d, and none of whose lists is one of O -/
def Rd (O : List Addr) (h : Heap) (v : Value) (d : PyData) : Prop := ∃ as, Reads h v d as ∧ ∀ a ∈ as, a ∉ O
def RdAll (O : List Addr) (h : Heap) (vs : List Value) (ds : List PyData) : Prop := ∃ as, ReadsAll h vs ds as ∧ ∀ a ∈ as, a ∉ O

theorem Rd.none {O h} : Rd O h .none .none := ⟨_, .none, fun _ m => nomatch m⟩
theorem Rd.bool {O h} (b : Bool) : Rd O h (.bool b) (.bool b) := ⟨_, .bool b, fun _ m => nomatch m⟩
theorem Rd.int {O h} (i : Int) (t : Tok) : Rd O h (.int i t) (.int i) := ⟨_, .int i t, fun _ m => nomatch m⟩
theorem Rd.str {O h} (x : Str) (t : Tok) : Rd O h (.str x t) (.str x) := ⟨_, .str x t, fun _ m => nomatch m⟩
theorem RdAll.nil {O h} : RdAll O h [] [] := ⟨_, .nil, fun _ m => nomatch m⟩
theorem RdAll.cons {O h v vs d ds} : Rd O h v d → RdAll O h vs ds → RdAll O h (v :: vs) (d :: ds)
  | ⟨_, r, k⟩, ⟨_, r', k'⟩ => ⟨_, .cons r r', fun a m => (List.mem_append.mp m).elim (k a) (k' a)⟩
theorem RdAll.inv {O h vs d ds} (x : RdAll O h vs (d :: ds)) : ∃ v ws, vs = v :: ws ∧ Rd O h v d ∧ RdAll O h ws ds := by
  obtain ⟨_, r, k⟩ := x
  cases r with
  | cons r r' => exact ⟨_, _, rfl, ⟨_, r, fun a m => k a (List.mem_append_left _ m)⟩, ⟨_, r', fun a m => k a (List.mem_append_right _ m)⟩⟩
theorem RdAll.invNil {O h vs} (x : RdAll O h vs []) : vs = [] := by
  obtain ⟨_, r, _⟩ := x
  cases r; rfl
theorem RdAll.one {O h vs d} (x : RdAll O h vs [d]) : ∃ v, vs = [v] ∧ Rd O h v d := by
  obtain ⟨v, ws, rfl, r, y⟩ := x.inv
  rw [y.invNil]; exact ⟨v, rfl, r⟩
theorem RdAll.two {O h vs d e} (x : RdAll O h vs [d, e]) : ∃ v u, vs = [v, u] ∧ Rd O h v d ∧ Rd O h u e := by
  obtain ⟨v, ws, rfl, r, y⟩ := x.inv
  obtain ⟨u, rfl, r'⟩ := y.one
  exact ⟨v, u, rfl, r, r'⟩
theorem RdAll.length {O h vs} : ∀ {ds}, RdAll O h vs ds → vs.length = ds.length := by
  induction vs with
  | nil =>
    intro ds x
    cases ds with
    | nil => rfl
    | cons d ds => obtain ⟨_, _, e, _⟩ := x.inv; cases e
  | cons v vs ih =>
    intro ds x
    cases ds with
    | nil => have := x.invNil; cases this
    | cons d ds =>
      obtain ⟨_, _, e, _, y⟩ := x.inv
      cases e
      simp [ih y]
theorem RdAll.get {O h} : ∀ {vs ds}, RdAll O h vs ds → ∀ (i : Nat) (d : PyData), ds[i]? = some d → ∃ v, vs[i]? = some v ∧ Rd O h v d := by
  intro vs ds
  induction ds generalizing vs with
  | nil => intro _ i d e; simp at e
  | cons d ds ih =>
    intro x i d' e
    obtain ⟨v, ws, rfl, r, y⟩ := x.inv
    cases i with
    | zero => simp at e; subst e; exact ⟨v, rfl, r⟩
    | succ i => simpa using ih y i d' (by simpa using e)
theorem RdAll.append {O h} : ∀ {vs ws ds es}, RdAll O h vs ds → RdAll O h ws es → RdAll O h (vs ++ ws) (ds ++ es) := by
  intro vs ws ds es
  induction ds generalizing vs with
  | nil => intro x y; rw [x.invNil]; exact y
  | cons d ds ih =>
    intro x y
    obtain ⟨v, us, rfl, r, z⟩ := x.inv
    exact RdAll.cons r (ih z y)
theorem RdAll.take {O h} : ∀ {vs ds} (n : Nat), RdAll O h vs ds → RdAll O h (vs.take n) (ds.take n) := by
  intro vs ds n
  induction n generalizing vs ds with
  | zero => intro _; simpa using RdAll.nil
  | succ n ih =>
    intro x
    cases ds with
    | nil => rw [x.invNil]; simpa using RdAll.nil
    | cons d ds =>
      obtain ⟨v, ws, rfl, r, y⟩ := x.inv
      simpa using RdAll.cons r (ih y)
theorem RdAll.drop {O h} : ∀ {vs ds} (n : Nat), RdAll O h vs ds → RdAll O h (vs.drop n) (ds.drop n) := by
  intro vs ds n
  induction n generalizing vs ds with
  | zero => intro x; simpa using x
  | succ n ih =>
    intro x
    cases ds with
    | nil => rw [x.invNil]; simpa using RdAll.nil
    | cons d ds =>
      obtain ⟨v, ws, rfl, r, y⟩ := x.inv
      simpa using ih y
theorem RdAll.set {O h} : ∀ {vs ds} (n : Nat) {v d}, RdAll O h vs ds → Rd O h v d → RdAll O h (vs.set n v) (ds.set n d) := by
  intro vs ds n v d
  induction n generalizing vs ds with
  | zero =>
    intro x r
    cases ds with
    | nil => rw [x.invNil]; simpa using RdAll.nil
    | cons e ds =>
      obtain ⟨u, ws, rfl, _, y⟩ := x.inv
      simpa using RdAll.cons r y
  | succ n ih =>
    intro x r
    cases ds with
    | nil => rw [x.invNil]; simpa using RdAll.nil
    | cons e ds =>
      obtain ⟨u, ws, rfl, r', y⟩ := x.inv
      simpa using RdAll.cons r' (ih y r)
theorem RdAll.reverse {O h} : ∀ {vs ds}, RdAll O h vs ds → RdAll O h vs.reverse ds.reverse := by
  intro vs ds
  induction ds generalizing vs with
  | nil => intro x; rw [x.invNil]; simpa using RdAll.nil
  | cons d ds ih =>
    intro x
    obtain ⟨v, ws, rfl, r, y⟩ := x.inv
    simpa using (ih y).append (RdAll.cons r RdAll.nil)
theorem Rd.list {O : List Addr} {h : Heap} {a : Addr} {o : Obj} {vs : Array Value} {n : Nat} {ds : List PyData} (ho : h.get? a = some o) (hc : o.cls = .type "list") (hd : o.data = .seq vs n) (ha : a ∉ O) : RdAll O h vs.toList ds → Rd O h (.ref a) (.list ds)
  | ⟨_, r, k⟩ => ⟨_, .list ho hc hd r, fun b m => (List.mem_cons.mp m).elim (fun e => e ▸ ha) (k b)⟩
theorem Rd.tuple {O : List Addr} {h : Heap} {a : Addr} {o : Obj} {vs : Array Value} {n : Nat} {ds : List PyData} (ho : h.get? a = some o) (hc : o.cls = .type "tuple") (hd : o.data = .seq vs n) : RdAll O h vs.toList ds → Rd O h (.ref a) (.tuple ds)
  | ⟨_, r, k⟩ => ⟨_, .tuple ho hc hd r, k⟩
theorem Rd.listInv {O : List Addr} {h : Heap} {v : Value} {ds : List PyData} (x : Rd O h v (.list ds)) : ∃ a o vs n, v = .ref a ∧ h.get? a = some o ∧ o.cls = .type "list" ∧ o.data = .seq vs n ∧ a ∉ O ∧ RdAll O h vs.toList ds := by
  obtain ⟨_, r, k⟩ := x
  cases r with
  | list h1 h2 h3 h4 => exact ⟨_, _, _, _, rfl, h1, h2, h3, k _ (.head _), ⟨_, h4, fun a m => k a (.tail _ m)⟩⟩
theorem Rd.tupleInv {O : List Addr} {h : Heap} {v : Value} {ds : List PyData} (x : Rd O h v (.tuple ds)) : ∃ a o vs n, v = .ref a ∧ h.get? a = some o ∧ o.cls = .type "tuple" ∧ o.data = .seq vs n ∧ RdAll O h vs.toList ds := by
  obtain ⟨_, r, k⟩ := x
  cases r with
  | tuple h1 h2 h3 h4 => exact ⟨_, _, _, _, rfl, h1, h2, h3, ⟨_, h4, k⟩⟩
theorem Rd.intInv {O : List Addr} {h : Heap} {v : Value} {i : Int} (x : Rd O h v (.int i)) : ∃ t, v = .int i t := by
  obtain ⟨_, r, _⟩ := x; cases r; exact ⟨_, rfl⟩
theorem Rd.boolInv {O : List Addr} {h : Heap} {v : Value} {b : Bool} (x : Rd O h v (.bool b)) : v = .bool b := by
  obtain ⟨_, r, _⟩ := x; cases r; rfl
theorem Rd.strInv {O : List Addr} {h : Heap} {v : Value} {i : Str} (x : Rd O h v (.str i)) : ∃ t, v = .str i t := by
  obtain ⟨_, r, _⟩ := x; cases r; exact ⟨_, rfl⟩
theorem Rd.noneInv {O : List Addr} {h : Heap} {v : Value} (x : Rd O h v .none) : v = .none := by
  obtain ⟨_, r, _⟩ := x; cases r; rfl
theorem Rd.sub {O O' : List Addr} {h : Heap} {v : Value} {d : PyData} (k : ∀ a ∈ O', a ∈ O) : Rd O h v d → Rd O' h v d
  | ⟨_, r, m⟩ => ⟨_, r, fun a ha q => m a ha (k a q)⟩
theorem RdAll.sub {O O' : List Addr} {h : Heap} {v : List Value} {d : List PyData} (k : ∀ a ∈ O', a ∈ O) : RdAll O h v d → RdAll O' h v d
  | ⟨_, r, m⟩ => ⟨_, r, fun a ha q => m a ha (k a q)⟩
/-- an address that holds nothing is none of the data's -/
theorem Rd.more {O : List Addr} {h : Heap} {v : Value} {d : PyData} {b : Addr} (hb : h.get? b = .none) : Rd O h v d → Rd (b :: O) h v d
  | ⟨_, r, m⟩ => ⟨_, r, fun a ha q => (List.mem_cons.mp q).elim (fun e => by obtain ⟨o, ho⟩ := reads_live r a ha; rw [e, hb] at ho; cases ho) (m a ha)⟩
theorem RdAll.more {O : List Addr} {h : Heap} {v : List Value} {d : List PyData} {b : Addr} (hb : h.get? b = .none) : RdAll O h v d → RdAll (b :: O) h v d
  | ⟨_, r, m⟩ => ⟨_, r, fun a ha q => (List.mem_cons.mp q).elim (fun e => by obtain ⟨o, ho⟩ := readsAll_live r a ha; rw [e, hb] at ho; cases ho) (m a ha)⟩

/-- what is no record (no iterator, no exception) stays: so do the data -/
theorem Rd.moved {O : List Addr} {h h' : Heap} {v : Value} {d : PyData} (k : ∀ b o, h.get? b = some o → (∀ vs, o.data ≠ .fields vs) → h'.get? b = some o) : Rd O h v d → Rd O h' v d
  | ⟨_, r, m⟩ => ⟨_, reads_on r fun b o e q => ⟨o, k b o e (fun vs z => q.elim (fun q => by obtain ⟨o', e', n⟩ := reads_seq r b q; rw [e] at e'; cases e'; exact n vs z) fun ⟨_, _, _, q⟩ => by rw [q] at z; cases z), rfl, rfl⟩, m⟩
theorem RdAll.moved {O : List Addr} {h h' : Heap} {v : List Value} {d : List PyData} (k : ∀ b o, h.get? b = some o → (∀ vs, o.data ≠ .fields vs) → h'.get? b = some o) : RdAll O h v d → RdAll O h' v d
  | ⟨_, r, m⟩ => ⟨_, readsAll_on r fun b o e q => ⟨o, k b o e (fun vs z => q.elim (fun q => by obtain ⟨o', e', n⟩ := readsAll_seq r b q; rw [e] at e'; cases e'; exact n vs z) fun ⟨_, _, _, q⟩ => by rw [q] at z; cases z), rfl, rfl⟩, m⟩

/-- what may change under a call: nothing but the slots of the frames at hand -/
structure Ext (fs : List Addr) (h h' : Heap) : Prop where
  keep : ∀ b o, h.get? b = some o → b ∉ fs → h'.get? b = some o
  slot : ∀ b o, h.get? b = some o → b ∈ fs → ∃ sl, h'.get? b = some { o with slots := sl }

theorem Ext.of_stays {fs : List Addr} {h h' : Heap} (k : h.StaysIn h') : Ext fs h h' := ⟨fun b o e _ => k b o e, fun b o e _ => ⟨o.slots, k b o e⟩⟩
theorem Ext.refl (fs : List Addr) (h : Heap) : Ext fs h h := .of_stays fun _ _ e => e
theorem Ext.up {fs : List Addr} {h h' : Heap} (x : Ext fs h h') : ∀ b o, h.get? b = some o → ∃ sl, h'.get? b = some { o with slots := sl } := fun b o e => by
  by_cases m : b ∈ fs
  · exact x.slot b o e m
  · exact ⟨o.slots, x.keep b o e m⟩
theorem Ext.trans {fs : List Addr} {h h' h'' : Heap} (x : Ext fs h h') (y : Ext fs h' h'') : Ext fs h h'' :=
  ⟨fun b o e m => y.keep b o (x.keep b o e m) m, fun b o e m => let ⟨_, e'⟩ := x.slot b o e m; let ⟨sl, e''⟩ := y.slot b _ e' m; ⟨sl, e''⟩⟩
theorem Ext.sub {fs fs' : List Addr} {h h' : Heap} (x : Ext fs h h') (k : ∀ b ∈ fs, b ∈ fs') : Ext fs' h h' :=
  ⟨fun b o e m => x.keep b o e fun q => m (k b q), fun b o e _ => x.up b o e⟩
theorem Ext.push {fs : List Addr} {h h' : Heap} (x : Ext fs h h') (o : Obj) : Ext fs h (h'.push o) := x.trans (.of_stays fun _ _ e => Heap.get?_push_of_some o e)
theorem Ext.rd {fs O : List Addr} {h h' : Heap} (x : Ext fs h h') {v : Value} {d : PyData} : Rd O h v d → Rd O h' v d
  | ⟨_, r, m⟩ => ⟨_, reads_on r fun b o e _ => let ⟨_, e'⟩ := x.up b o e; ⟨_, e', rfl, rfl⟩, m⟩
theorem Ext.rdAll {fs O : List Addr} {h h' : Heap} (x : Ext fs h h') {v : List Value} {d : List PyData} : RdAll O h v d → RdAll O h' v d
  | ⟨_, r, m⟩ => ⟨_, readsAll_on r fun b o e _ => let ⟨_, e'⟩ := x.up b o e; ⟨_, e', rfl, rfl⟩, m⟩
theorem Ext.ns {fs : List Addr} {h h' : Heap} (x : Ext fs h h') {a : Addr} {m : Str → Option Value} : h.Ns a m → h'.Ns a m
  | ⟨_, es, ep, ho, hd, r⟩ => let ⟨_, e'⟩ := x.up _ _ ho; ⟨_, es, ep, e', hd, r⟩
theorem Ext.funFrames {fs : List Addr} {h h' base : Heap} (x : Ext fs h h') {l : List Env} (f : h.FunFrames base l) : h'.FunFrames base l :=
  f.of_keeps fun b o e _ => let ⟨_, e'⟩ := x.up b o e; ⟨_, e', rfl⟩
theorem Ext.live {fs : List Addr} {h h' : Heap} (x : Ext fs h h') {a : Addr} : (∃ o, h.get? a = some o) → ∃ o, h'.get? a = some o
  | ⟨o, e⟩ => let ⟨_, e'⟩ := x.up a o e; ⟨_, e'⟩

def frsOf (l : List Env) : List Addr := l.filterMap (·.frame)
theorem Ext.base {base h h' : Heap} {l : List Env} (x : Ext (frsOf l) h h') (b : base.StaysIn h) (f : h.FunFrames base l) : base.StaysIn h' := fun a o e =>
  x.keep a o (b a o e) fun m => by rw [(f.mem m).1] at e; cases e

/-- the static part -/
structure Cx where
  prog : Program
  w : World
  base : Heap
  mg : Str → Option Value
  mb : Str → Option Value
structure Cx.Ok (C : Cx) : Prop where
  g : C.base.Ns mainGlobals C.mg
  b : C.base.Ns builtinsNs C.mb
  nolimit : C.base.NoLimit
  nodigits : ∃ mc, C.base.Ns cStatics mc ∧ mc "sys.int_max_str_digits" = none

/-- room for n further frames -/
structure Room (A : Around) (n : Nat) : Prop where
  handled : A.handled = none
  depth : A.depth + n < 1000
  units : A.units + 20 * n + 200 < 9900
theorem Room.le {A : Around} {n m : Nat} (r : Room A n) (h : m ≤ n) : Room A m := ⟨r.handled, by have := r.depth; omega, by have := r.units; omega⟩
theorem Room.deeper {A : Around} {n : Nat} (r : Room A (n + 1)) (env : Env) : Room (A.deeper env) n := ⟨r.handled, by have := r.depth; show A.depth + 1 + n < _; omega, by have := r.units; show A.units + 3 + 20 * n + 200 < _; omega⟩
theorem Room.limit {A : Around} {n : Nat} (r : Room A n) : A.depth < recursionLimit := by have := r.depth; show A.depth < 1000; omega
theorem Room.line {A : Around} {n : Nat} (r : Room A n) : A.units + 64 < cLine := by have := r.units; show A.units + 64 < 9900; omega
theorem Room.in1 {A : Around} {n : Nat} (r : Room A n) : A.units < cLine := by have := r.units; show A.units < 9900; omega

/-- the frames at hand -/
structure Stk (C : Cx) (A : Around) (l : List Env) (h : Heap) : Prop where
  frames : A.frames = some l
  base : C.base.StaysIn h
  fun_ : h.FunFrames C.base l
  dicts : ∀ b ∈ frsOf l, ∃ o es n, h.get? b = some o ∧ o.data = .dict es n
theorem Stk.ext {C : Cx} {A : Around} {l : List Env} {h h' : Heap} (S : Stk C A l h) (x : Ext (frsOf l) h h') : Stk C A l h' := ⟨S.frames, x.base S.base S.fun_, x.funFrames S.fun_, fun b m => by
  obtain ⟨o, es, n, ho, hd⟩ := S.dicts b m
  obtain ⟨_, e⟩ := x.up b o ho
  exact ⟨_, es, n, e, hd⟩⟩
theorem Stk.off {C : Cx} {A : Around} {l : List Env} {h : Heap} (S : Stk C A l h) {b : Addr} {o : Obj} (e : h.get? b = some o) (hd : ∀ es n, o.data ≠ .dict es n) : b ∉ frsOf l := fun m => by
  obtain ⟨o', es, n, ho, hd'⟩ := S.dicts b m
  rw [e] at ho; cases ho
  exact hd es n hd'
theorem Stk.stays {C : Cx} {A : Around} {l : List Env} {h h' : Heap} (S : Stk C A l h) (x : h.StaysIn h') : Stk C A l h' := S.ext (.of_stays x)
def Live (O : List Addr) (h : Heap) : Prop := ∀ a ∈ O, ∃ o, h.get? a = some o
theorem Live.ext {fs O : List Addr} {h h' : Heap} (k : Live O h) (x : Ext fs h h') : Live O h' := fun a m => x.live (k a m)
theorem Live.fresh {O : List Addr} {h : Heap} (k : Live O h) : h.objs.size ∉ O := fun m => by
  obtain ⟨o, e⟩ := k _ m
  exact absurd (Heap.lt_size e) (Nat.lt_irrefl _)
end Mine

set_option maxRecDepth 100000
set_option autoImplicit false
namespace Mine
open PySem PySem.Calls PyProof.Rows

abbrev Sg := List (Str × PyData)
abbrev Ow := Option (Str × List PyData)
/-- where a frame stands -/
structure Pt where
  nm : Str
  a : Addr
  cd : Value
  L : Addr
  A : Around
  outer : List Env
  O : List Addr
  oa : Option Addr
abbrev Pt.env (P : Pt) (sc : Scope) : Env := envOfC P.nm sc P.L P.a P.cd
abbrev Pt.l (P : Pt) (sc : Scope) : List Env := P.env sc :: P.outer
abbrev Pt.fs (P : Pt) : List Addr := P.L :: frsOf P.outer
abbrev Pt.OO (P : Pt) : List Addr := P.oa.toList ++ P.L :: P.O
theorem Pt.frs (P : Pt) (sc : Scope) : frsOf (P.l sc) = P.fs := rfl

/-- the names of a frame: its own, and those in cells -/
def Nv (sc : Scope) (h : Heap) (L : Addr) (m : Str → Option Value) : Prop := ∃ o es ep, h.get? L = some o ∧ o.data = .dict es ep ∧
  ∃ ml cm, h.Ns L ml ∧ Cl L (cellsFrom (L + 1) sc.names []) h cm ∧ ∀ x, m x = if sc.names.lookup x = some .cell then cm x else ml x
theorem Nv.data {sc : Scope} {h h' : Heap} {L : Addr} {m : Str → Option Value} (k : ∀ b o, h.get? b = some o → (∀ vs, o.data ≠ .fields vs) → ∃ o', h'.get? b = some o' ∧ o'.data = o.data) : Nv sc h L m → Nv sc h' L m
  | ⟨o, es, ep, e, hd, ml, cm, ⟨o₂, es₂, ep₂, e₂, hd₂, r⟩, X, q⟩ => by
    obtain ⟨o', e', d'⟩ := k L o e (fun vs z => by rw [hd] at z; cases z)
    obtain ⟨o₃, e₃, d₃⟩ := k L o₂ e₂ (fun vs z => by rw [hd₂] at z; cases z)
    refine ⟨o', es, ep, e', d'.trans hd, ml, cm, ⟨o₃, es₂, ep₂, e₃, d₃.trans hd₂, r⟩, ⟨fun n c z => ?_, X.apart, X.above⟩, q⟩
    obtain ⟨p, f, g⟩ := X.cell n c z
    obtain ⟨p', f', g'⟩ := k c p f (fun vs z => by rw [g] at z; cases z)
    exact ⟨p', f', g'.trans g⟩
theorem Ext.nv {fs : List Addr} {h h' : Heap} (x : Ext fs h h') {sc : Scope} {a : Addr} {m : Str → Option Value} (n : Nv sc h a m) : Nv sc h' a m := n.data fun b o e _ => let ⟨_, q⟩ := x.up b o e; ⟨_, q, rfl⟩
theorem Nv.other {sc : Scope} {h h' : Heap} {L b : Addr} {o : Obj} {vs : Array Value} {k : Nat} {m : Str → Option Value} (hs : Heap.SameBut b h h') (hb : h.get? b = some o) (hd : o.data = .seq vs k) : Nv sc h L m → Nv sc h' L m
  | ⟨o₁, es, ep, e, hd₁, ml, cm, ns, X, q⟩ => by
    have hL : L ≠ b := fun z => by rw [z, hb] at e; cases e; rw [hd] at hd₁; cases hd₁
    refine ⟨o₁, es, ep, (hs.2 L hL).trans e, hd₁, ml, cm, ns.sameBut hs hL, ⟨fun n c z => (X.cell n c z).sameBut hs fun y => ?_, X.apart, X.above⟩, q⟩
    obtain ⟨p, f, g⟩ := X.cell n c z
    rw [y, hb] at f; cases f; rw [hd] at g; cases g
theorem load_nv {M : Model} {A : Around} {E : Value → Shared → Prop} {s : Shared} {P : Pt} {sc : Scope} {x : Str} {v : Value} {m : Str → Option Value} {Q : Value → Shared → Prop} (hk : sc.kind = .function) (hl : sc.names.lookup x = some .local) (hn : Nv sc s.heap P.L m) (e : m x = some v) (h : Q v s) :
    wpAny M A (loadName (P.env sc) x) Q E s := by
  obtain ⟨_, _, _, _, _, ml, cm, ns, X, q⟩ := hn
  refine wpAny_loadName_local (env := P.env sc) hk hl ns ?_ h
  rw [← e, q x, hl]; rfl
theorem load_cell {M : Model} {A : Around} {E : Value → Shared → Prop} {s : Shared} {P : Pt} {sc : Scope} {x : Str} {v : Value} {m : Str → Option Value} {Q : Value → Shared → Prop} (hk : sc.kind = .function) (hl : sc.names.lookup x = some .cell) (hc : ((cellsFrom (P.L + 1) sc.names []).lookup x).isSome = true) (hn : Nv sc s.heap P.L m) (e : m x = some v) (h : Q v s) :
    wpAny M A (loadName (P.env sc) x) Q E s := by
  obtain ⟨_, _, _, _, _, ml, cm, ns, X, q⟩ := hn
  obtain ⟨c, hc⟩ := Option.isSome_iff_exists.mp hc
  have : cm x = some v := by rw [← e, q x, hl]; rfl
  exact wpAny_loadName_cell (env := P.env sc) hk hl hc (this ▸ X.cell x c hc) h
theorem store_nv {M : Model} {A : Around} {E : Value → Shared → Prop} {s : Shared} {P : Pt} {sc : Scope} {x : Str} {v : Value} {m : Str → Option Value} {Q : Unit → Shared → Prop} (hl : sc.names.lookup x = some .local) (hn : Nv sc s.heap P.L m)
    (h : ∀ h', Nv sc h' P.L (fun y => if y = x then some v else m y) → Heap.SameBut P.L s.heap h' → Q () { s with heap := h', toks := s.toks + 1 }) (hk : ((P.env sc).scope.kind == .class || ((P.env sc).scope.kind == .module && (P.env sc).locals != (P.env sc).globals)) = false) :
    wpAny M A (storeName (P.env sc) x v) Q E s := by
  obtain ⟨_, _, _, _, _, ml, cm, ns, X, q⟩ := hn
  refine wpAny_storeName_local (env := P.env sc) hl ns (fun h' hn' hs => h h' ?_ hs) hk
  have hn'' := hn'
  obtain ⟨o, es, ep, e, hd, _⟩ := hn''
  refine ⟨o, es, ep, e, hd, _, cm, hn', X.sameBut hs (Nat.le_refl _), fun y => ?_⟩
  by_cases z : y = x
  · subst z; simp [hl]
  · simp only [z, if_false]; exact q y
def Vars (P : Pt) (h : Heap) (σ : Sg) (m : Str → Option Value) : Prop := ∀ x d, σ.lookup x = some d → ∃ v, m x = some v ∧ Rd P.OO h v d
def Owned (P : Pt) (h : Heap) (m : Str → Option Value) : Ow → Prop
  | none => P.oa = none
  | some (x, xs) => ∃ b vs n, P.oa = some b ∧ m x = some (.ref b) ∧ h.get? b = some { cls := .type "list", data := .seq vs n } ∧ RdAll P.OO h vs.toList xs
structure FS (C : Cx) (sc : Scope) (P : Pt) (h : Heap) (σ : Sg) (ow : Ow) : Prop where
  stk : Stk C P.A (P.l sc) h
  live : Live P.O h
  own : ∀ b, P.oa = some b → C.base.get? b = none ∧ b ∉ P.O
  vars : ∃ m, Nv sc h P.L m ∧ Vars P h σ m ∧ Owned P h m ow

theorem FS.ext {C : Cx} {sc : Scope} {P : Pt} {h h' : Heap} {σ : Sg} {ow : Ow} (F : FS C sc P h σ ow) (x : Ext P.fs h h') (hk : ∀ b, P.oa = some b → b ∉ P.fs) : FS C sc P h' σ ow := by
  obtain ⟨S, l, ob, m, hn, hv, ho⟩ := F
  refine ⟨S.ext x, l.ext x, ob, m, x.nv hn, fun y d e => ?_, ?_⟩
  · obtain ⟨v, e', r⟩ := hv y d e
    exact ⟨v, e', x.rd r⟩
  · cases ow with
    | none => exact ho
    | some p =>
      obtain ⟨b, vs, n, h1, h2, h3, h4⟩ := ho
      exact ⟨b, vs, n, h1, h2, x.keep _ _ h3 (hk b h1), x.rdAll h4⟩
theorem FS.own_off {C : Cx} {sc : Scope} {P : Pt} {h : Heap} {σ : Sg} {ow : Ow} (F : FS C sc P h σ ow) : ∀ b, P.oa = some b → b ∉ P.fs ∧ ∃ vs n, h.get? b = some { cls := .type "list", data := .seq vs n } := by
  obtain ⟨S, _, _, m, hn, _, ho⟩ := F
  intro b e
  cases ow with
  | none => have : P.oa = none := ho; rw [this] at e; cases e
  | some p =>
    obtain ⟨b', vs, n, h1, _, h3, _⟩ := ho
    rw [h1] at e; cases e
    exact ⟨S.off h3 (fun _ _ q => by cases q), vs, n, h3⟩
theorem FS.ext' {C : Cx} {sc : Scope} {P : Pt} {h h' : Heap} {σ : Sg} {ow : Ow} (F : FS C sc P h σ ow) (x : Ext P.fs h h') : FS C sc P h' σ ow := F.ext x fun b e => (F.own_off b e).1
theorem FS.less {C : Cx} {sc : Scope} {P : Pt} {h : Heap} {σ σ' : Sg} {ow : Ow} (F : FS C sc P h σ ow) (k : ∀ x d, σ'.lookup x = some d → σ.lookup x = some d) : FS C sc P h σ' ow := by
  obtain ⟨S, l, ob, m, hn, hv, ho⟩ := F
  exact ⟨S, l, ob, m, hn, fun x d e => hv x d (k x d e), ho⟩

section
variable (C : Cx) (lv : Nat) (sc : Scope)
/-- in every frame that holds σ, the expression yields d -/
def Ev (e : Expr) (σ : Sg) (ow : Ow) (d : PyData) : Prop :=
  ∀ (P : Pt) (s : Shared) (Q E : Value → Shared → Prop), Room P.A lv → FS C sc P s.heap σ ow →
    (∀ v h' tk, Ext P.fs s.heap h' → Rd P.OO h' v d → Q v { s with heap := h', toks := tk }) →
    wpAny (model C.prog C.w) P.A (eval e (P.env sc)) Q E s
def EvAll (es : List Expr) (σ : Sg) (ow : Ow) (ds : List PyData) : Prop :=
  ∀ (P : Pt) (s : Shared) (pos : Pos) (Q : List Value → Shared → Prop) (E : Value → Shared → Prop), Room P.A lv → FS C sc P s.heap σ ow →
    (∀ vs h' tk, Ext P.fs s.heap h' → RdAll P.OO h' vs ds → Q vs { s with heap := h', toks := tk }) →
    wpAny (model C.prog C.w) P.A (spliced (backTo pos (starEach es (P.env sc)))) Q E s
def Tst (e : Expr) (σ : Sg) (ow : Ow) (b : Bool) : Prop :=
  ∀ (P : Pt) (s : Shared) (Q : Bool → Shared → Prop) (E : Value → Shared → Prop), Room P.A lv → FS C sc P s.heap σ ow →
    (∀ h' tk, Ext P.fs s.heap h' → Q b { s with heap := h', toks := tk }) →
    wpAny (model C.prog C.w) P.A (isTrue e (P.env sc) (eval e (P.env sc))) Q E s
end

/-- what an operation yields of data -/
def Bin (C : Cx) (op : Operator) (d e r : PyData) : Prop :=
  ∀ (A : Around) (O : List Addr) (s : Shared) (v u : Value) (Q E : Value → Shared → Prop), Room A 0 → Live O s.heap → C.base.StaysIn s.heap → Rd O s.heap v d → Rd O s.heap u e →
    (∀ x h' tk, s.heap.StaysIn h' → Rd O h' x r → Q x { s with heap := h', toks := tk }) → wpAny (model C.prog C.w) A (binaryOp op v u) Q E s
def Aug (C : Cx) (op : Operator) (d e r : PyData) : Prop :=
  ∀ (A : Around) (O : List Addr) (s : Shared) (v u : Value) (Q E : Value → Shared → Prop), Room A 0 → Live O s.heap → C.base.StaysIn s.heap → Rd O s.heap v d → Rd O s.heap u e →
    (∀ x h' tk, s.heap.StaysIn h' → Rd O h' x r → Q x { s with heap := h', toks := tk }) → wpAny (model C.prog C.w) A (inplaceOp op v u) Q E s
def Cmp (C : Cx) (op : CmpOp) (d e : PyData) (b : Bool) : Prop :=
  ∀ (A : Around) (O : List Addr) (s : Shared) (v u : Value) (Q E : Value → Shared → Prop), Room A 0 → Live O s.heap → C.base.StaysIn s.heap → Rd O s.heap v d → Rd O s.heap u e →
    (∀ h' tk, s.heap.StaysIn h' → Q (.bool b) { s with heap := h', toks := tk }) → wpAny (model C.prog C.w) A (compareOp op v u) Q E s
def Una (C : Cx) (op : UnaryOp) (d r : PyData) : Prop :=
  ∀ (A : Around) (O : List Addr) (s : Shared) (v : Value) (Q E : Value → Shared → Prop), Room A 0 → Live O s.heap → C.base.StaysIn s.heap → Rd O s.heap v d →
    (∀ x h' tk, s.heap.StaysIn h' → Rd O h' x r → Q x { s with heap := h', toks := tk }) → wpAny (model C.prog C.w) A (unaryOp op v) Q E s
def Tru (C : Cx) (d : PyData) (b : Bool) : Prop :=
  ∀ (A : Around) (O : List Addr) (s : Shared) (v : Value) (Q : Bool → Shared → Prop) (E : Value → Shared → Prop), Room A 0 → Live O s.heap → C.base.StaysIn s.heap → Rd O s.heap v d →
    (∀ h' tk, s.heap.StaysIn h' → Q b { s with heap := h', toks := tk }) → wpAny (model C.prog C.w) A (truthy v) Q E s
/-- a built-in function called upon data -/
def Blt (C : Cx) (id : Value) (ds : List PyData) (r : PyData) : Prop :=
  ∀ (A : Around) (O : List Addr) (s : Shared) (vs : List Value) (Q E : Value → Shared → Prop), Room A 0 → Live O s.heap → C.base.StaysIn s.heap → RdAll O s.heap vs ds →
    (∀ x h' tk, s.heap.StaysIn h' → Rd O h' x r → Q x { s with heap := h', toks := tk }) → wpAny (model C.prog C.w) A (call id vs) Q E s
/-- a function of the text called upon data -/
def Gives (C : Cx) (lv : Nat) (n : Str) (ds : List PyData) (r : PyData) : Prop :=
  ∃ a o fd, C.mg n = some (.ref a) ∧ C.base.get? a = some o ∧ o.data = .func fd ∧
    ∀ (A : Around) (l : List Env) (O : List Addr) (s : Shared) (vs : List Value) (Q E : Value → Shared → Prop), Room A lv → Stk C A l s.heap → Live O s.heap → RdAll O s.heap vs ds →
      (∀ x h' tk, Ext (frsOf l) s.heap h' → Rd O h' x r → Q x { s with heap := h', toks := tk }) → wpAny (model C.prog C.w) A (call (.ref a) vs) Q E s
/-- a name of the module -/
def Glo (C : Cx) (x : Str) (d : PyData) : Prop := ∃ v, C.mg x = some v ∧ ∀ (h : Heap) (O : List Addr), C.base.StaysIn h → Rd O h v d

section
variable {C : Cx} {lv : Nat} {sc : Scope} {σ : Sg} {ow : Ow}
theorem liveOO {P : Pt} {h : Heap} (F : FS C sc P h σ ow) : Live P.OO h := fun a m => by
  rcases List.mem_append.mp m with q | q
  · obtain ⟨_, vs, n, e⟩ := F.own_off a (by simpa using q)
    exact ⟨_, e⟩
  · rcases List.mem_cons.mp q with rfl | q
    · obtain ⟨_, _, _, m, ⟨o, _, _, e, _⟩, _⟩ := F
      exact ⟨o, e⟩
    · exact F.live a q
theorem Room.zero {A : Around} {n : Nat} (r : Room A n) : Room A 0 := r.le (Nat.zero_le _)

theorem Ev.name {x : Str} {pos : Pos} {d : PyData} (hσ : σ.lookup x = some d) (hl : sc.names.lookup x = some .local) (hk : sc.kind = .function) (hd : (x == ("__debug__" : Str)) = false) : Ev C lv sc (.Name x pos) σ ow d := by
  intro P s Q E _ F k
  obtain ⟨S, l, _, m, hn, hv, _⟩ := F
  obtain ⟨v, e, r⟩ := hv x d hσ
  exact wpAny_Name (load_nv hk hl hn e (k v s.heap s.toks (Ext.refl _ _) r)) hd
theorem Ev.cellName {x : Str} {pos : Pos} {d : PyData} (hσ : σ.lookup x = some d) (hl : sc.names.lookup x = some .cell) (hc : ∀ n, ((cellsFrom n sc.names []).lookup x).isSome = true) (hk : sc.kind = .function) (hd : (x == ("__debug__" : Str)) = false) : Ev C lv sc (.Name x pos) σ ow d := by
  intro P s Q E _ F k
  obtain ⟨S, l, _, m, hn, hv, _⟩ := F
  obtain ⟨v, e, r⟩ := hv x d hσ
  exact wpAny_Name (load_cell hk hl (hc _) hn e (k v s.heap s.toks (Ext.refl _ _) r)) hd
theorem glob_at {P : Pt} {x : Str} {pos : Pos} {v : Value} {s : Shared} {Q E : Value → Shared → Prop} (ok : C.Ok) (F : FS C sc P s.heap σ ow) (hg : C.mg x = some v) (hl : sc.names.lookup x = some .globalImplicit) (hk : sc.kind = .function) (hd : (x == ("__debug__" : Str)) = false)
    (k : Q v s) : wpAny (model C.prog C.w) P.A (eval (.Name x pos) (P.env sc)) Q E s :=
  Name_function_global hk hl (loadGlobal_global (mg := C.mg) ((Ext.of_stays (fs := []) F.stk.base).ns ok.g) hg k) hd
theorem built_at {P : Pt} {x : Str} {pos : Pos} {v : Value} {s : Shared} {Q E : Value → Shared → Prop} (ok : C.Ok) (F : FS C sc P s.heap σ ow) (hg : C.mg x = none) (hb : C.mb x = some v) (hl : sc.names.lookup x = some .globalImplicit) (hk : sc.kind = .function) (hd : (x == ("__debug__" : Str)) = false)
    (k : Q v s) : wpAny (model C.prog C.w) P.A (eval (.Name x pos) (P.env sc)) Q E s :=
  Name_function_global hk hl (loadGlobal_builtin (mg := C.mg) (mb := C.mb) ((Ext.of_stays (fs := []) F.stk.base).ns ok.g) hg ((Ext.of_stays (fs := []) F.stk.base).ns ok.b) hb k) hd
theorem Ev.glob {x : Str} {pos : Pos} {d : PyData} (ok : C.Ok) (hg : Glo C x d) (hl : sc.names.lookup x = some .globalImplicit) (hk : sc.kind = .function) (hd : (x == ("__debug__" : Str)) = false) : Ev C lv sc (.Name x pos) σ ow d := by
  intro P s Q E _ F k
  obtain ⟨v, e, r⟩ := hg
  exact glob_at ok F e hl hk hd (k v s.heap s.toks (Ext.refl _ _) (r _ _ F.stk.base))
theorem Ev.int {i : Int} {k : Nat} {pos : Pos} : Ev C lv sc (.Constant (.int i) k pos) σ ow (.int i) := fun _ _ _ _ _ _ k => wpAny_Constant_int (k _ _ _ (Ext.refl _ _) (.int _ _))
theorem Ev.str {x : Str} {k : Nat} {pos : Pos} : Ev C lv sc (.Constant (.str x) k pos) σ ow (.str x) := fun _ _ _ _ _ _ k => wpAny_Constant_str (k _ _ _ (Ext.refl _ _) (.str _ _))
theorem Ev.bool {b : Bool} {k : Nat} {pos : Pos} : Ev C lv sc (.Constant (.bool b) k pos) σ ow (.bool b) := fun _ s _ _ _ _ k => wpAny_Constant_bool (k _ s.heap s.toks (Ext.refl _ _) (.bool _))
theorem Ev.non {k : Nat} {pos : Pos} : Ev C lv sc (.Constant .none k pos) σ ow .none := fun _ s _ _ _ _ k => wpAny_Constant_none (k _ s.heap s.toks (Ext.refl _ _) .none)

theorem Ev.bin {l r : Expr} {op : Operator} {pos : Pos} {d e x : PyData} (hl : Ev C lv sc l σ ow d) (hr : Ev C lv sc r σ ow e) (hb : Bin C op d e x) : Ev C lv sc (.BinOp l op r pos) σ ow x := by
  intro P s Q E R F k
  refine wpAny_BinOp (hl P s _ _ R F fun v h₁ t₁ x₁ r₁ => ?_)
  have F₁ := F.ext' x₁
  refine hr P _ _ _ R F₁ fun u h₂ t₂ x₂ r₂ => ?_
  have F₂ := F₁.ext' x₂
  exact hb P.A P.OO _ v u _ _ R.zero (liveOO F₂) F₂.stk.base (x₂.rd r₁) r₂ fun y h₃ t₃ x₃ r₃ => k y h₃ t₃ ((x₁.trans x₂).trans (.of_stays x₃)) r₃
theorem Ev.una {e : Expr} {op : UnaryOp} {pos : Pos} {d x : PyData} (hl : Ev C lv sc e σ ow d) (hb : Una C op d x) : Ev C lv sc (.UnaryOp op e pos) σ ow x := by
  intro P s Q E R F k
  refine wpAny_UnaryOp (hl P s _ _ R F fun v h₁ t₁ x₁ r₁ => ?_)
  have F₁ := F.ext' x₁
  exact hb P.A P.OO _ v _ _ R.zero (liveOO F₁) F₁.stk.base r₁ fun y h₃ t₃ x₃ r₃ => k y h₃ t₃ (x₁.trans (.of_stays x₃)) r₃
theorem Ev.cmp {l r : Expr} {op : CmpOp} {pos : Pos} {d e : PyData} {b : Bool} (hl : Ev C lv sc l σ ow d) (hr : Ev C lv sc r σ ow e) (hb : Cmp C op d e b) (hm : behindInMarks op r = false := by with_unfolding_all rfl) : Ev C lv sc (.Compare l [op] [r] pos) σ ow (.bool b) := by
  intro P s Q E R F k
  refine wpAny_Compare1 (hl P s _ _ R F fun v h₁ t₁ x₁ r₁ => ?_) hm
  have F₁ := F.ext' x₁
  refine hr P _ _ _ R F₁ fun u h₂ t₂ x₂ r₂ => ?_
  have F₂ := F₁.ext' x₂
  exact hb P.A P.OO _ v u _ _ R.zero (liveOO F₂) F₂.stk.base (x₂.rd r₁) r₂ fun h₃ t₃ x₃ => k _ h₃ t₃ ((x₁.trans x₂).trans (.of_stays x₃)) (.bool b)
theorem Tst.cmp {l r : Expr} {op : CmpOp} {pos : Pos} {d e : PyData} {b : Bool} (hl : Ev C lv sc l σ ow d) (hr : Ev C lv sc r σ ow e) (hb : Cmp C op d e b) (hm : behindInMarks op r = false := by with_unfolding_all rfl) : Tst C lv sc (.Compare l [op] [r] pos) σ ow b := by
  intro P s Q E R F k
  refine wpAny_isTrue_Compare1 (hl P s _ _ R F fun v h₁ t₁ x₁ r₁ => ?_) hm
  have F₁ := F.ext' x₁
  refine hr P _ _ _ R F₁ fun u h₂ t₂ x₂ r₂ => ?_
  have F₂ := F₁.ext' x₂
  exact hb P.A P.OO _ v u _ _ R.zero (liveOO F₂) F₂.stk.base (x₂.rd r₁) r₂ fun h₃ t₃ x₃ => wpAny_truthy_bool (k h₃ t₃ ((x₁.trans x₂).trans (.of_stays x₃)))
theorem Tst.not {e : Expr} {pos : Pos} {b : Bool} (h : Tst C lv sc e σ ow b) : Tst C lv sc (.UnaryOp .Not e pos) σ ow (!b) := by
  intro P s Q E R F k
  exact wpAny_isTrue_Not (h P s _ _ R F fun h₁ t₁ x₁ => k h₁ t₁ x₁)
theorem Tst.val {e : Expr} {d : PyData} {b : Bool} (h : Ev C lv sc e σ ow d) (ht : Tru C d b) (he : ∀ env whole, isTrue e env whole = (do let v ← whole; standAt e.pos; holding [v] (truthy v)) := by intro _ _; with_unfolding_all rfl) : Tst C lv sc e σ ow b := by
  intro P s Q E R F k
  refine wpAny_isTrue_value (h P s _ _ R F fun v h₁ t₁ x₁ r₁ => ?_) (he _ _)
  have F₁ := F.ext' x₁
  exact ht P.A P.OO _ v _ _ R.zero (liveOO F₁) F₁.stk.base r₁ fun h₃ t₃ x₃ => k h₃ t₃ (x₁.trans (.of_stays x₃))
theorem Tst.and {x y : Expr} {pos : Pos} {a b : Bool} (h : Tst C lv sc x σ ow a) (h' : a = true → Tst C lv sc y σ ow b) (hab : a = false → b = false) : Tst C lv sc (.BoolOp .And [x, y] pos) σ ow b := by
  intro P s Q E R F k
  refine wpAny_isTrue_BoolOp (wpAny_allTrue_And_cons (h P s _ _ R F fun h₁ t₁ x₁ => ?_))
  cases a with
  | false => rw [hab rfl] at k; exact k _ _ x₁
  | true =>
    refine wpAny_allTrue_And_cons (h' rfl P _ _ _ R (F.ext' x₁) fun h₂ t₂ x₂ => ?_)
    cases b with
    | false => exact k _ _ (x₁.trans x₂)
    | true => exact wpAny_allTrue_And_nil (k _ _ (x₁.trans x₂))
theorem Tst.or {x y : Expr} {pos : Pos} {a b : Bool} (h : Tst C lv sc x σ ow a) (h' : a = false → Tst C lv sc y σ ow b) (hab : a = true → b = true) : Tst C lv sc (.BoolOp .Or [x, y] pos) σ ow b := by
  intro P s Q E R F k
  refine wpAny_isTrue_BoolOp (wpAny_allTrue_Or_cons (h P s _ _ R F fun h₁ t₁ x₁ => ?_))
  cases a with
  | true => rw [hab rfl] at k; exact k _ _ x₁
  | false =>
    refine wpAny_allTrue_Or_cons (h' rfl P _ _ _ R (F.ext' x₁) fun h₂ t₂ x₂ => ?_)
    cases b with
    | true => exact k _ _ (x₁.trans x₂)
    | false => exact wpAny_allTrue_Or_nil (k _ _ (x₁.trans x₂))
theorem Ev.ite {t x y : Expr} {pos : Pos} {b : Bool} {d : PyData} (h : Tst C lv sc t σ ow b) (hx : b = true → Ev C lv sc x σ ow d) (hy : b = false → Ev C lv sc y σ ow d) : Ev C lv sc (.IfExp t x y pos) σ ow d := by
  intro P s Q E R F k
  refine wpAny_IfExp (h P s _ _ R F fun h₁ t₁ x₁ => ?_)
  cases b with
  | true => exact hx rfl P _ _ _ R (F.ext' x₁) fun v h₂ t₂ x₂ r₂ => k v h₂ t₂ (x₁.trans x₂) r₂
  | false => exact hy rfl P _ _ _ R (F.ext' x₁) fun v h₂ t₂ x₂ r₂ => k v h₂ t₂ (x₁.trans x₂) r₂

theorem EvAll.nil : EvAll C lv sc [] σ ow [] := fun _ s _ _ _ _ _ k => wpAny_items_nil (k _ s.heap s.toks (Ext.refl _ _) .nil)
theorem EvAll.cons {e : Expr} {es : List Expr} {d : PyData} {ds : List PyData} (h : Ev C lv sc e σ ow d) (h' : EvAll C lv sc es σ ow ds) (he : ∀ env, starEach (e :: es) env = (false, eval e env) :: starEach es env := by intro _; with_unfolding_all rfl) : EvAll C lv sc (e :: es) σ ow (d :: ds) := by
  intro P s pos Q E R F k
  refine wpAny_items_cons (h P s _ _ R F fun v h₁ t₁ x₁ r₁ => ?_) (he _)
  exact h' P _ _ _ _ R (F.ext' x₁) fun vs h₂ t₂ x₂ r₂ => k _ h₂ t₂ (x₁.trans x₂) (.cons (x₂.rd r₁) r₂)
theorem Ev.tuple {es : List Expr} {k : Nat} {pos : Pos} {ds : List PyData} (h : EvAll C lv sc es σ ow ds) (hs : ds.length ≤ sizeLine := by decide) : Ev C lv sc (.Tuple es k pos) σ ow (.tuple ds) := by
  intro P s Q E R F k
  refine wpAny_Tuple (h P s _ _ _ R F fun vs h₁ t₁ x₁ r₁ => ⟨by rw [r₁.length]; exact hs, ?_⟩)
  refine k _ _ t₁ (x₁.push _) (Rd.tuple (Heap.get?_push_size _ rfl) rfl rfl ?_)
  exact (Ext.refl P.fs _).push _ |>.rdAll (by simpa using r₁)
theorem Ev.list {es : List Expr} {pos : Pos} {ds : List PyData} (h : EvAll C lv sc es σ ow ds) (hs : ds.length ≤ sizeLine := by decide) : Ev C lv sc (.List es pos) σ ow (.list ds) := by
  intro P s Q E R F k
  refine wpAny_List (h P s _ _ _ R F fun vs h₁ t₁ x₁ r₁ => ⟨by rw [r₁.length]; exact hs, ?_⟩)
  refine k _ _ t₁ (x₁.push _) (Rd.list (Heap.get?_push_size _ rfl) rfl rfl (liveOO (F.ext' x₁)).fresh ?_)
  exact (Ext.refl P.fs _).push _ |>.rdAll (by simpa using r₁)
end
end Mine

set_option maxRecDepth 100000
set_option autoImplicit false
namespace Mine
open PySem PySem.Calls PyProof.Rows

section
variable {C : Cx} {lv : Nat} {sc : Scope} {σ : Sg} {ow : Ow}
theorem evalArgs_cons {M : Model} {A : Around} {E : Value → Shared → Prop} {s : Shared} {f : Value} {pos : Pos} {e : Expr} {es : List Expr} {env : Env} {Q : Args → Shared → Prop} (he : starEach (e :: es) env = (false, eval e env) :: starEach es env)
    (h : wpAny M A (spliced (backTo pos (starEach (e :: es) env))) (fun vs s' => Q ⟨vs, []⟩ s') E s) : wpAny M A (evalArgs f true (backTo pos (starEach (e :: es) env)) []) Q E s := by
  rw [he] at h ⊢
  exact evalArgs_plain h
theorem Ev.call {x : Str} {p pos : Pos} {e : Expr} {es : List Expr} {ds : List PyData} {r : PyData} {k : Nat} (ok : C.Ok) (hf : Gives C k x ds r) (ha : EvAll C lv sc (e :: es) σ ow ds) (hk : k ≤ lv) (hl : sc.names.lookup x = some .globalImplicit) (hs : sc.kind = .function) (hd : (x == ("__debug__" : Str)) = false)
    (he : ∀ env, starEach (e :: es) env = (false, eval e env) :: starEach es env := by intro _; with_unfolding_all rfl) : Ev C lv sc (.Call (.Name x p) (e :: es) [] pos) σ ow r := by
  intro P s Q E R F K
  obtain ⟨a, o, fd, hg, ho, hdat, hcall⟩ := hf
  show wpAny _ _ (do callWith pos (← eval (.Name x p) (P.env sc)) [] (backTo pos (starEach (e :: es) (P.env sc))) (backToKw pos (keywordEach [] (P.env sc)))) Q E s
  refine wpAny_bind (glob_at ok F hg hl hs hd ?_)
  refine callWith_function (o := o) (fd := fd) (evalArgs_cons (he _) (ha P s pos _ _ R F fun vs h₁ t₁ x₁ r₁ => ?_))
  have F₁ := F.ext' x₁
  refine ⟨⟨F₁.stk.base _ _ ho, hdat⟩, ?_⟩
  exact hcall P.A (P.l sc) P.OO _ _ _ _ (R.le hk) F₁.stk (liveOO F₁) r₁ fun y h₃ t₃ x₃ r₃ => K y h₃ t₃ (x₁.trans x₃) r₃
theorem Ev.blt {x : Str} {p pos : Pos} {e : Expr} {es : List Expr} {ds : List PyData} {r : PyData} {id : String} (ok : C.Ok) (hg : C.mg x = .none) (hb : C.mb x = some (.builtin id)) (hf : Blt C (.builtin id) ds r) (ha : EvAll C lv sc (e :: es) σ ow ds) (hl : sc.names.lookup x = some .globalImplicit) (hs : sc.kind = .function) (hd : (x == ("__debug__" : Str)) = false)
    (he : ∀ env, starEach (e :: es) env = (false, eval e env) :: starEach es env := by intro _; with_unfolding_all rfl) (hp : ∀ env, (backTo pos (starEach (e :: es) env)).any (·.1) = false := by intro _; with_unfolding_all rfl) : Ev C lv sc (.Call (.Name x p) (e :: es) [] pos) σ ow r := by
  intro P s Q E R F K
  show wpAny _ _ (do callWith pos (← eval (.Name x p) (P.env sc)) [] (backTo pos (starEach (e :: es) (P.env sc))) (backToKw pos (keywordEach [] (P.env sc)))) Q E s
  refine wpAny_bind (built_at ok F hg hb hl hs hd ?_)
  refine callWith_builtin (hp _) (evalArgs_cons (he _) (ha P s pos _ _ R F fun vs h₁ t₁ x₁ r₁ => ?_))
  have F₁ := F.ext' x₁
  exact hf P.A P.OO _ _ _ _ R.zero (liveOO F₁) F₁.stk.base r₁ fun y h₃ t₃ x₃ r₃ => K y h₃ t₃ (x₁.trans (.of_stays x₃)) r₃

/-- what a statement may change -/
structure Chg (P : Pt) (h h' : Heap) : Prop where
  keep : ∀ b o, h.get? b = some o → b ∉ P.fs → P.oa ≠ some b → h'.get? b = some o
  slot : ∀ b o, h.get? b = some o → b ≠ P.L → P.oa ≠ some b → ∃ sl, h'.get? b = some { o with slots := sl }
  live : ∀ b o, h.get? b = some o → ∃ o', h'.get? b = some o'
theorem Chg.of_ext {P : Pt} {h h' : Heap} (x : Ext P.fs h h') : Chg P h h' := ⟨fun b o e m _ => x.keep b o e m, fun b o e _ _ => x.up b o e, fun b o e => let ⟨_, q⟩ := x.up b o e; ⟨_, q⟩⟩
theorem Chg.refl (P : Pt) (h : Heap) : Chg P h h := .of_ext (Ext.refl _ _)
def OaOk (oa oa' : Option Addr) (h : Heap) : Prop := ∀ b, oa' = some b → oa = some b ∨ h.get? b = none
theorem OaOk.refl (oa : Option Addr) (h : Heap) : OaOk oa oa h := fun _ e => .inl e
abbrev Pt.at (P : Pt) (oa : Option Addr) : Pt := { P with oa := oa }
theorem Chg.trans {P : Pt} {oa : Option Addr} {h h' h'' : Heap} (x : Chg P h h') (ok : OaOk P.oa oa h) (y : Chg (P.at oa) h' h'') : Chg P h h'' := by
  have k : ∀ b o, h.get? b = some o → P.oa ≠ some b → oa ≠ some b := fun b o e q z => (ok b z).elim q fun n => by rw [e] at n; cases n
  exact ⟨fun b o e m q => y.keep b o (x.keep b o e m q) m (k b o e q), fun b o e m q => let ⟨_, e'⟩ := x.slot b o e m q; let ⟨sl, e''⟩ := y.slot b _ e' m (k b o e q); ⟨sl, e''⟩,
    fun b o e => let ⟨o', e'⟩ := x.live b o e; y.live b o' e'⟩
theorem OaOk.trans {P : Pt} {oa oa' : Option Addr} {h h' : Heap} (x : OaOk P.oa oa h) (c : Chg P h h') (y : OaOk oa oa' h') : OaOk P.oa oa' h := fun b e => by
  rcases y b e with q | q
  · exact x b q
  · right
    cases z : h.get? b with
    | none => rfl
    | some o => obtain ⟨_, e'⟩ := c.live b o z; rw [q] at e'; cases e'

inductive Res where
  | next (σ : Sg) (ow : Ow)
  | brk (σ : Sg) (ow : Ow)
  | ret (d : PyData)
  | exc (cls : String)

/-- what is wanted behind a statement -/
structure Post (C : Cx) (sc : Scope) (P : Pt) (s : Shared) (Φ : Res → Prop) (Q : Flow → Shared → Prop) (E : Value → Shared → Prop) : Prop where
  next : ∀ σ ow oa h tk, Φ (.next σ ow) → FS C sc (P.at oa) h σ ow → Chg P s.heap h → OaOk P.oa oa s.heap → Q .next { s with heap := h, toks := tk }
  brk : ∀ σ ow oa h tk, Φ (.brk σ ow) → FS C sc (P.at oa) h σ ow → Chg P s.heap h → OaOk P.oa oa s.heap → Q .brk { s with heap := h, toks := tk }
  ret : ∀ v d h tk, Φ (.ret d) → Rd P.O h v d → Stk C P.A (P.l sc) h → Chg P s.heap h → Q (.ret v) { s with heap := h, toks := tk }
  exc : ∀ e cls args h₁ h tk, Φ (.exc cls) → Stk C P.A (P.l sc) h₁ → Chg P s.heap h₁ → Heap.MadeExcOf h₁ h e (.type cls) args → E (.ref e) { s with heap := h, toks := tk }

def WP (C : Cx) (lv : Nat) (sc : Scope) (ss : List Stmt) (σ : Sg) (ow : Ow) (Φ : Res → Prop) : Prop :=
  ∀ (P : Pt) (s : Shared) (Q : Flow → Shared → Prop) (E : Value → Shared → Prop), Room P.A lv → FS C sc P s.heap σ ow → Post C sc P s Φ Q E → wpAny (model C.prog C.w) P.A (execs ss (P.env sc)) Q E s
def Sp (C : Cx) (lv : Nat) (sc : Scope) (st : Stmt) (σ : Sg) (ow : Ow) (Φ : Res → Prop) : Prop :=
  ∀ (P : Pt) (s : Shared) (Q : Flow → Shared → Prop) (E : Value → Shared → Prop), Room P.A lv → FS C sc P s.heap σ ow → Post C sc P s Φ Q E → wpAny (model C.prog C.w) P.A (exec st (P.env sc)) Q E s

theorem Post.moved {P : Pt} {s : Shared} {Φ : Res → Prop} {Q : Flow → Shared → Prop} {E : Value → Shared → Prop} {oa : Option Addr} {h : Heap} {tk : Nat} (p : Post C sc P s Φ Q E) (c : Chg P s.heap h) (ok : OaOk P.oa oa s.heap) :
    Post C sc (P.at oa) { s with heap := h, toks := tk } Φ Q E :=
  ⟨fun σ ow oa' h' tk' f F c' ok' => p.next σ ow oa' h' tk' f F (c.trans ok c') (ok.trans c ok'), fun σ ow oa' h' tk' f F c' ok' => p.brk σ ow oa' h' tk' f F (c.trans ok c') (ok.trans c ok'),
    fun v d h' tk' f r S c' => p.ret v d h' tk' f r S (c.trans ok c'), fun e cls args h₁ h' tk' f S c' m => p.exc e cls args h₁ h' tk' f S (c.trans ok c') m⟩

theorem WP.nil {Φ : Res → Prop} (h : Φ (.next σ ow)) : WP C lv sc [] σ ow Φ := fun P s _ _ _ F p => wpAny_execs_nil (p.next σ ow P.oa s.heap s.toks h F (Chg.refl _ _) (OaOk.refl _ _))
/-- what follows a statement -/
def Then (C : Cx) (lv : Nat) (sc : Scope) (ss : List Stmt) (Φ : Res → Prop) : Res → Prop
  | .next σ ow => WP C lv sc ss σ ow Φ
  | .brk σ ow => Φ (.brk σ ow)
  | .ret d => Φ (.ret d)
  | .exc c => Φ (.exc c)
theorem WP.cons {st : Stmt} {rest : List Stmt} {Φ : Res → Prop} (h : Sp C lv sc st σ ow (Then C lv sc rest Φ)) : WP C lv sc (st :: rest) σ ow Φ := by
  intro P s Q E R F p
  refine wpAny_execs_cons (h P s _ _ R F ⟨?_, ?_, ?_, ?_⟩)
  · intro σ' ow' oa h' tk f F' c ok
    exact f (P.at oa) _ Q E R F' (p.moved c ok)
  · intro σ' ow' oa h' tk f F' c ok
    exact p.brk σ' ow' oa h' tk f F' c ok
  · intro v d h' tk f r S c
    exact p.ret v d h' tk f r S c
  · intro e cls args h₁ h' tk f S c m
    exact p.exc e cls args h₁ h' tk f S c m
theorem WP.mono {ss : List Stmt} {Φ Ψ : Res → Prop} (h : WP C lv sc ss σ ow Φ) (k : ∀ r, Φ r → Ψ r) : WP C lv sc ss σ ow Ψ := fun P s Q E R F p =>
  h P s Q E R F ⟨fun σ ow oa h tk f => p.next σ ow oa h tk (k _ f), fun σ ow oa h tk f => p.brk σ ow oa h tk (k _ f), fun v d h tk f => p.ret v d h tk (k _ f), fun e cls args h₁ h tk f => p.exc e cls args h₁ h tk (k _ f)⟩
theorem WP.less {ss : List Stmt} {σ' : Sg} {Φ : Res → Prop} (h : WP C lv sc ss σ' ow Φ) (k : ∀ x d, σ'.lookup x = some d → σ.lookup x = some d) : WP C lv sc ss σ ow Φ := fun P s Q E R F p => h P s Q E R (F.less k) p

theorem rd_same {P : Pt} {h h' : Heap} {m : Str → Option Value} {O : List Addr} {v : Value} {d : PyData} (hn : Nv sc h P.L m) (hs : Heap.SameBut P.L h h') (hO : P.L ∈ O) : Rd O h v d → Rd O h' v d
  | ⟨as, r, k⟩ => by
    refine ⟨as, reads_on r fun b o e q => ?_, k⟩
    have hb : b ≠ P.L := by
      rintro rfl
      rcases q with q | ⟨_, vs, n, q⟩
      · exact k _ q hO
      · obtain ⟨o', es, ep, e', hd, _⟩ := hn
        rw [e] at e'; cases e'
        rw [q] at hd; cases hd
    exact ⟨o, (hs.2 b hb).trans e, rfl, rfl⟩
theorem rdAll_same {P : Pt} {h h' : Heap} {m : Str → Option Value} {O : List Addr} {v : List Value} {d : List PyData} (hn : Nv sc h P.L m) (hs : Heap.SameBut P.L h h') (hO : P.L ∈ O) : RdAll O h v d → RdAll O h' v d
  | ⟨as, r, k⟩ => by
    refine ⟨as, readsAll_on r fun b o e q => ?_, k⟩
    have hb : b ≠ P.L := by
      rintro rfl
      rcases q with q | ⟨_, vs, n, q⟩
      · exact k _ q hO
      · obtain ⟨o', es, ep, e', hd, _⟩ := hn
        rw [e] at e'; cases e'
        rw [q] at hd; cases hd
    exact ⟨o, (hs.2 b hb).trans e, rfl, rfl⟩
theorem funFrames_to {h h' base : Heap} (k : ∀ b o, h.get? b = some o → (∀ vs, o.data ≠ .fields vs) → ∃ o', h'.get? b = some o' ∧ ∀ vs, o'.data ≠ .fields vs) : ∀ {l : List Env}, h.FunFrames base l → h'.FunFrames base l
  | [], _ => trivial
  | _ :: _, ⟨hk, ⟨L, o, hf, hn, ho, hd⟩, hr⟩ => let ⟨o', ho', hd'⟩ := k L o ho hd; ⟨hk, ⟨L, o', hf, hn, ho', hd'⟩, funFrames_to k hr⟩
theorem stk_same {P : Pt} {h h' : Heap} {m m' : Str → Option Value} (S : Stk C P.A (P.l sc) h) (hn : Nv sc h P.L m) (hn' : Nv sc h' P.L m') (hs : Heap.SameBut P.L h h') : Stk C P.A (P.l sc) h' := by
  have hb : C.base.get? P.L = none := (S.fun_.mem (show P.L ∈ frsOf (P.l sc) from .head _)).1
  refine ⟨S.frames, fun b o e => (hs.2 b ?_).trans (S.base b o e), funFrames_to (fun b o e hf => ?_) S.fun_, fun b m => ?_⟩
  · rintro rfl; rw [hb] at e; cases e
  · by_cases q : b = P.L
    · subst q
      obtain ⟨o', es, ep, e', hd, _⟩ := hn'
      exact ⟨o', e', fun vs z => by rw [hd] at z; cases z⟩
    · exact ⟨o, (hs.2 b q).trans e, hf⟩
  · by_cases q : b = P.L
    · subst q
      obtain ⟨o', es, ep, e', hd, _⟩ := hn'
      exact ⟨o', es, ep, e', hd⟩
    · obtain ⟨o, es, n, e, hd⟩ := S.dicts b m
      exact ⟨o, es, n, (hs.2 b q).trans e, hd⟩
/-- a name stored -/
theorem FS.store {P : Pt} {h h' : Heap} {m : Str → Option Value} {x : Str} {v : Value} {d : PyData} (S : Stk C P.A (P.l sc) h) (lO : Live P.O h) (ob : ∀ b, P.oa = some b → C.base.get? b = none ∧ b ∉ P.O) (hn : Nv sc h P.L m) (hv : Vars P h σ m) (ho : Owned P h m ow) (r : Rd P.OO h v d) (hx : ∀ y xs, ow = some (y, xs) → y ≠ x)
    (hn' : Nv sc h' P.L (fun y => if y = x then some v else m y)) (hs : Heap.SameBut P.L h h') : FS C sc P h' ((x, d) :: σ) ow := by
  have hL : P.L ∈ P.OO := List.mem_append_right _ (.head _)
  refine ⟨stk_same S hn hn' hs, fun a k => ?_, ob, _, hn', fun y e q => ?_, ?_⟩
  · by_cases z : a = P.L
    · obtain ⟨o, _, _, e, _⟩ := hn'; exact ⟨o, z ▸ e⟩
    · obtain ⟨o, e⟩ := lO a k; exact ⟨o, (hs.2 a z).trans e⟩
  · by_cases z : y = x
    · subst z
      rw [List.lookup_cons, beq_self_eq_true] at q
      cases q
      exact ⟨v, by simp, rd_same hn hs hL r⟩
    · rw [List.lookup_cons, beq_eq_false_iff_ne.mpr z] at q
      obtain ⟨u, e', r'⟩ := hv y e q
      exact ⟨u, by simp [z, e'], rd_same hn hs hL r'⟩
  · cases ow with
    | none => exact ho
    | some p =>
      obtain ⟨b, vs, n, h1, h2, h3, h4⟩ := ho
      refine ⟨b, vs, n, h1, by simp [hx p.1 p.2 rfl, h2], (hs.2 b ?_).trans h3, rdAll_same hn hs hL h4⟩
      rintro rfl
      obtain ⟨o', es, ep, e', hd, _⟩ := hn
      rw [h3] at e'; cases e'; cases hd
theorem Chg.same {P : Pt} {h h' : Heap} {m' : Str → Option Value} (hn' : Nv sc h' P.L m') (hs : Heap.SameBut P.L h h') : Chg P h h' := by
  refine ⟨fun b o e m _ => (hs.2 b fun z => m (z ▸ .head _)).trans e, fun b o e m _ => ⟨o.slots, (hs.2 b m).trans e⟩, fun b o e => ?_⟩
  by_cases z : b = P.L
  · obtain ⟨o', _, _, e', _⟩ := hn'; exact ⟨o', z ▸ e'⟩
  · exact ⟨o, (hs.2 b z).trans e⟩
theorem storeName_at {P : Pt} {s : Shared} {x : Str} {v : Value} {d : PyData} {Q : Unit → Shared → Prop} {E : Value → Shared → Prop} (F : FS C sc P s.heap σ ow) (r : Rd P.OO s.heap v d) (hx : ∀ y xs, ow = some (y, xs) → y ≠ x) (hl : sc.names.lookup x = some .local) (hk : sc.kind = .function)
    (k : ∀ h' tk, FS C sc P h' ((x, d) :: σ) ow → Chg P s.heap h' → Q () { s with heap := h', toks := tk }) : wpAny (model C.prog C.w) P.A (storeName (P.env sc) x v) Q E s := by
  obtain ⟨S, l, ob, m, hn, hv, ho⟩ := F
  exact store_nv hl hn (fun h' hn' hs => k h' _ (FS.store S l ob hn hv ho r hx hn' hs) (Chg.same hn' hs)) (by show (sc.kind == .class || (sc.kind == .module && _)) = false; rw [hk]; rfl)
theorem Sp.assign {x : Str} {p pos : Pos} {e : Expr} {d : PyData} {Φ : Res → Prop} (he : Ev C lv sc e σ ow d) (h : Φ (.next ((x, d) :: σ) ow)) (hx : ∀ y xs, ow = some (y, xs) → y ≠ x) (hl : sc.names.lookup x = some .local) (hk : sc.kind = .function)
    (hs : ∀ env, swapsWith e (some (.Name x p)) pos.line env = pure false := by intro _; with_unfolding_all rfl) : Sp C lv sc (.Assign [.Name x p] e pos) σ ow Φ := by
  intro P s Q E R F K
  refine wpAny_Assign_Name (he P s _ _ R F fun v h₁ t₁ x₁ r₁ => ?_) (hs _)
  exact storeName_at (F.ext' x₁) r₁ hx hl hk fun h₂ t₂ F₂ c₂ => K.next _ _ P.oa h₂ t₂ h F₂ ((Chg.of_ext x₁).trans (oa := P.oa) (OaOk.refl _ _) c₂) (OaOk.refl _ _)
theorem Sp.aug {x : Str} {p pos : Pos} {op : Operator} {e : Expr} {d₀ d₁ d : PyData} {Φ : Res → Prop} (hσ : σ.lookup x = some d₀) (he : Ev C lv sc e σ ow d₁) (hb : Aug C op d₀ d₁ d) (h : Φ (.next ((x, d) :: σ) ow)) (hx : ∀ y xs, ow = some (y, xs) → y ≠ x) (hl : sc.names.lookup x = some .local) (hk : sc.kind = .function) :
    Sp C lv sc (.AugAssign (.Name x p) op e pos) σ ow Φ := by
  intro P s Q E R F K
  have F' := F
  obtain ⟨S, l, _, m, hn, hv, ho⟩ := F'
  obtain ⟨v, hm, r⟩ := hv x d₀ hσ
  refine wpAny_AugAssign_Name (load_nv hk hl hn hm (he P s _ _ R F fun u h₁ t₁ x₁ r₁ => ?_))
  have F₁ := F.ext' x₁
  refine hb P.A P.OO _ v u _ _ R.zero (liveOO F₁) F₁.stk.base (x₁.rd r) r₁ fun y h₂ t₂ x₂ r₂ => ?_
  have x₂' : Ext P.fs h₁ h₂ := .of_stays x₂
  exact storeName_at (s := { s with heap := h₂, toks := t₂ }) (F₁.ext' x₂') r₂ hx hl hk fun h₃ t₃ F₃ c₃ => K.next _ _ P.oa h₃ t₃ h F₃ ((Chg.of_ext (x₁.trans x₂')).trans (oa := P.oa) (OaOk.refl _ _) c₃) (OaOk.refl _ _)
theorem rd_out {P : Pt} {h : Heap} {v : Value} {d : PyData} (r : Rd P.OO h v d) : Rd P.O h v d := r.sub fun _ m => List.mem_append_right _ (.tail _ m)
theorem Sp.ret {e : Expr} {pos : Pos} {d : PyData} {Φ : Res → Prop} (he : Ev C lv sc e σ ow d) (h : Φ (.ret d)) : Sp C lv sc (.Return (some e) pos) σ ow Φ := by
  intro P s Q E R F K
  exact wpAny_Return_some (he P s _ _ R F fun v h₁ t₁ x₁ r₁ => K.ret v d h₁ t₁ h (rd_out r₁) (F.stk.ext x₁) (.of_ext x₁))
theorem Sp.brk {pos : Pos} {Φ : Res → Prop} (h : Φ (.brk σ ow)) : Sp C lv sc (.Break pos) σ ow Φ := fun P s _ _ _ F K => wpAny_Break (K.brk σ ow P.oa s.heap s.toks h F (Chg.refl _ _) (OaOk.refl _ _))
theorem Sp.ite {t : Expr} {b : Bool} {body orelse : List Stmt} {pos : Pos} {Φ : Res → Prop} (ht : Tst C lv sc t σ ow b) (h1 : b = true → WP C lv sc body σ ow Φ) (h2 : b = false → WP C lv sc orelse σ ow Φ) : Sp C lv sc (.If t body orelse pos) σ ow Φ := by
  intro P s Q E R F K
  refine wpAny_If (ht P s _ _ R F fun h₁ t₁ x₁ => ?_)
  have K₁ := K.moved (oa := P.oa) (tk := t₁) (Chg.of_ext x₁) (OaOk.refl _ _)
  cases b with
  | true => exact h1 rfl P _ Q E R (F.ext' x₁) K₁
  | false => exact h2 rfl P _ Q E R (F.ext' x₁) K₁
end
end Mine

set_option maxRecDepth 100000
set_option autoImplicit false
set_option linter.unusedVariables false
namespace Mine
open PySem PySem.Calls PyProof.Rows

section
variable {C : Cx} {lv : Nat} {sc : Scope} {σ : Sg} {ow : Ow}

def Loop (J : Sg → Ow → Prop) (Φ : Res → Prop) : Res → Prop
  | .next σ ow => J σ ow
  | .brk σ ow => Φ (.next σ ow)
  | .ret d => Φ (.ret d)
  | .exc _ => False

theorem Sp.while {t : Expr} {body : List Stmt} {pos : Pos} {Φ : Res → Prop} (I : Nat → Sg → Ow → Prop) (n : Nat) (h0 : I n σ ow)
    (turn : ∀ n σ ow, I n σ ow → ∃ b, Tst C lv sc t σ ow b ∧ (b = false → Φ (.next σ ow)) ∧ (b = true → WP C lv sc body σ ow (Loop (fun σ' ow' => ∃ m, m < n ∧ I m σ' ow') Φ))) :
    Sp C lv sc (.While t body [] pos) σ ow Φ := by
  intro P s Q E R F K
  refine wpAny_While (codeAny_whileLoop (fun n s' => ∃ σ' ow' oa h tk, s' = { s with heap := h, toks := tk } ∧ I n σ' ow' ∧ FS C sc (P.at oa) h σ' ow' ∧ Chg P s.heap h ∧ OaOk P.oa oa s.heap) ?_ n
    ⟨σ, ow, P.oa, s.heap, s.toks, rfl, h0, F, Chg.refl _ _, OaOk.refl _ _⟩)
  rintro n' _ ⟨σ', ow', oa, h, tk, rfl, hI, F', c, ok⟩
  obtain ⟨b, ht, hf, hb⟩ := turn n' σ' ow' hI
  refine ht (P.at oa) _ _ _ R F' fun h₁ t₁ x₁ => ?_
  have F₁ := F'.ext' x₁
  have c₁ : Chg P s.heap h₁ := c.trans ok (Chg.of_ext x₁)
  cases b with
  | false => exact wpAny_execs_nil (K.next σ' ow' oa h₁ t₁ (hf rfl) F₁ c₁ ok)
  | true =>
    refine hb rfl (P.at oa) _ _ _ R F₁ ⟨?_, ?_, ?_, ?_⟩
    · rintro σ₂ ow₂ oa₂ h₂ t₂ ⟨m, hm, hI₂⟩ F₂ c₂ ok₂
      exact ⟨m, hm, σ₂, ow₂, oa₂, h₂, t₂, rfl, hI₂, F₂, c₁.trans ok c₂, ok.trans c₁ ok₂⟩
    · intro σ₂ ow₂ oa₂ h₂ t₂ f F₂ c₂ ok₂
      exact K.next σ₂ ow₂ oa₂ h₂ t₂ f F₂ (c₁.trans ok c₂) (ok.trans c₁ ok₂)
    · intro v d h₂ t₂ f r S c₂
      exact K.ret v d h₂ t₂ f r S (c₁.trans ok c₂)
    · intro _ _ _ _ _ _ f
      exact f.elim

/-- a target takes a datum -/
def Asg (C : Cx) (sc : Scope) (t : Expr) (d : PyData) (σ : Sg) (ow : Ow) (σ' : Sg) : Prop :=
  ∀ (P : Pt) (s : Shared) (v : Value) (Q : Unit → Shared → Prop) (E : Value → Shared → Prop), Room P.A 0 → FS C sc P s.heap σ ow → Rd P.OO s.heap v d →
    (∀ h' tk, FS C sc P h' σ' ow → Chg P s.heap h' → Q () { s with heap := h', toks := tk }) → wpAny (model C.prog C.w) P.A (assign t (P.env sc) v) Q E s
theorem Asg.name {x : Str} {p : Pos} {d : PyData} (hx : ∀ y xs, ow = some (y, xs) → y ≠ x) (hl : sc.names.lookup x = some .local) (hk : sc.kind = .function) : Asg C sc (.Name x p) d σ ow ((x, d) :: σ) := by
  intro P s v Q E R F r k
  exact wpAny_assign_Name (storeName_at F r hx hl hk k)

/-- an iterator, by what it has still to give -/
structure Iter (C : Cx) (it : Value) (sup fp : List Addr) (J : List PyData → Heap → Prop) : Prop where
  item : ∀ (A : Around) (s : Shared) (Q : Option Value → Shared → Prop) (E : Value → Shared → Prop) (d : PyData) (ds : List PyData), Room A 0 → C.base.StaysIn s.heap → J (d :: ds) s.heap →
    (∀ v h' tk, J ds h' → (∀ b o, s.heap.get? b = some o → b ∉ fp → h'.get? b = some o) → (∀ O, Rd O h' v d) → Q (some v) { s with heap := h', toks := tk }) → wpAny (model C.prog C.w) A (pyNext it) Q E s
  stop : ∀ (A : Around) (s : Shared) (Q : Option Value → Shared → Prop) (E : Value → Shared → Prop), Room A 0 → C.base.StaysIn s.heap → J [] s.heap →
    (∀ h' tk, (∀ b o, s.heap.get? b = some o → b ∉ fp → h'.get? b = some o) → Q none { s with heap := h', toks := tk }) → wpAny (model C.prog C.w) A (pyNext it) Q E s
  keep : ∀ ds h h', J ds h → (∀ b ∈ sup, ∀ o, h.get? b = some o → h'.get? b = some o) → J ds h'
  live : ∀ ds h, J ds h → ∀ b ∈ sup, ∃ o, h.get? b = some o ∧ ∀ es n, o.data ≠ .dict es n
  flds : ∀ ds h, J ds h → ∀ b ∈ fp, ∃ o vs, h.get? b = some o ∧ o.data = .fields vs
  sub : ∀ b ∈ fp, b ∈ sup

theorem FS.moved {P : Pt} {h h' : Heap} {fp : List Addr} (F : FS C sc P h σ ow) (k : ∀ b o, h.get? b = some o → b ∉ fp → h'.get? b = some o) (hf : ∀ b ∈ fp, ∃ o vs, h.get? b = some o ∧ o.data = .fields vs) (hb : ∀ b ∈ fp, C.base.get? b = none)
    (hO : ∀ b ∈ P.O, b ∉ fp) : FS C sc P h' σ ow := by
  have off : ∀ b o, h.get? b = some o → (∀ vs, o.data ≠ .fields vs) → h'.get? b = some o := fun b o e n => k b o e fun m => by
    obtain ⟨o', vs, e', q⟩ := hf b m
    rw [e] at e'; cases e'; exact n vs q
  obtain ⟨S, l, ob, m, hn, hv, ho⟩ := F
  refine ⟨⟨S.frames, fun b o e => k b o (S.base b o e) fun q => (by rw [hb b q] at e; cases e), S.fun_.of_keeps fun b o e n => ⟨o, off b o e n, rfl⟩, fun b q => ?_⟩, fun a q => ?_, ob, m, ?_, fun x d e => ?_, ?_⟩
  · obtain ⟨o, es, n, e, hd⟩ := S.dicts b q
    exact ⟨o, es, n, off b o e (fun vs z => by rw [hd] at z; cases z), hd⟩
  · obtain ⟨o, e⟩ := l a q
    exact ⟨o, k a o e (hO a q)⟩
  · exact hn.data fun b o e n => ⟨o, off b o e n, rfl⟩
  · obtain ⟨v, e', r⟩ := hv x d e
    exact ⟨v, e', r.moved off⟩
  · cases ow with
    | none => exact ho
    | some p =>
      obtain ⟨b, vs, n, h1, h2, h3, h4⟩ := ho
      exact ⟨b, vs, n, h1, h2, off b _ h3 (fun _ q => by cases q), h4.moved off⟩

/-- a source of a loop: what it gives, whatever is made first -/
def Src (C : Cx) (lv : Nat) (sc : Scope) (e : Expr) (σ : Sg) (ow : Ow) (ds : List PyData) : Prop :=
  ∀ (P : Pt) (s : Shared) (Q E : Value → Shared → Prop), Room P.A lv → FS C sc P s.heap σ ow →
    (∀ it sup fp J h' tk, Ext P.fs s.heap h' → Iter C it sup fp J → J ds h' → (∀ b ∈ fp, s.heap.get? b = none) → (∀ b ∈ sup, P.oa ≠ some b) → Q it { s with heap := h', toks := tk }) →
    wpAny (model C.prog C.w) P.A (eval e (P.env sc)) (fun x s₁ => wpAny (model C.prog C.w) P.A (pyIter x) Q E s₁) E s

theorem Sp.for {t e : Expr} {body : List Stmt} {pos : Pos} {ds : List PyData} {Φ : Res → Prop} (I : List PyData → Sg → Ow → Prop) (hs : Src C lv sc e σ ow ds) (h0 : I ds σ ow)
    (turn : ∀ d r σ ow, I (d :: r) σ ow → ∃ σ', Asg C sc t d σ ow σ' ∧ WP C lv sc body σ' ow (Loop (I r) Φ)) (done : ∀ σ ow, I [] σ ow → Φ (.next σ ow))
    (hset : ∀ env x, foldedSetIterable e env x = pure x := by intro _ _; with_unfolding_all rfl) (hgo : ∀ it v, letOwnedTupleGo t it v = pure () := by intro _ _; with_unfolding_all rfl) :
    Sp C lv sc (.For t e body [] pos) σ ow Φ := by
  intro P s Q E R F K
  refine wpAny_For (hs P s _ _ R F fun it sup fp J h tk x₀ IT hJ hfp hown => ?_) (hset _)
  have F₀ := F.ext' x₀
  have hbase : ∀ b ∈ fp, C.base.get? b = none := fun b m => by
    cases q : C.base.get? b with
    | none => rfl
    | some o => have := F.stk.base b o q; rw [hfp b m] at this; cases this
  have hOfp : ∀ b ∈ P.O, b ∉ fp := fun b m q => by obtain ⟨o, e⟩ := F.live b m; rw [hfp b q] at e; cases e
  refine codeAny_forLoop (fun n s' => ∃ ds' σ' ow' oa h tk, s' = { s with heap := h, toks := tk } ∧ ds'.length = n ∧ I ds' σ' ow' ∧ J ds' h ∧ FS C sc (P.at oa) h σ' ow' ∧ Chg P s.heap h ∧ OaOk P.oa oa s.heap ∧ ∀ b ∈ sup, oa ≠ some b) ?_ ds.length
    ⟨ds, σ, ow, P.oa, h, tk, rfl, rfl, h0, hJ, F₀, Chg.of_ext x₀, OaOk.refl _ _, hown⟩ (hgo it)
  rintro n _ ⟨ds', σ', ow', oa, h', tk', rfl, hlen, hI, hJ', F', c', ok', hown'⟩
  have move : ∀ h₁, (∀ b o, h'.get? b = some o → b ∉ fp → h₁.get? b = some o) → FS C sc (P.at oa) h₁ σ' ow' ∧ Chg P s.heap h₁ := fun h₁ k => by
    refine ⟨F'.moved k (IT.flds _ _ hJ') hbase hOfp, ?_⟩
    have nfp : ∀ b o, s.heap.get? b = some o → b ∉ fp := fun b o e m => by rw [hfp b m] at e; cases e
    exact ⟨fun b o e m q => k b o (c'.keep b o e m q) (nfp b o e), fun b o e m q => by
      obtain ⟨sl, e'⟩ := c'.slot b o e m q
      exact ⟨sl, k b _ e' (nfp b o e)⟩, fun b o e => by
      obtain ⟨o', e'⟩ := c'.live b o e
      exact ⟨o', k b _ e' (nfp b o e)⟩⟩
  cases ds' with
  | nil =>
    refine IT.stop P.A _ _ _ R.zero F'.stk.base hJ' fun h₁ t₁ k₁ => ?_
    obtain ⟨F₁, c₁⟩ := move h₁ k₁
    exact wpAny_execs_nil (K.next σ' ow' oa h₁ t₁ (done σ' ow' hI) F₁ c₁ ok')
  | cons d r =>
    refine IT.item P.A _ _ _ d r R.zero F'.stk.base hJ' fun v h₁ t₁ hJ₁ k₁ r₁ => ?_
    obtain ⟨F₁, c₁⟩ := move h₁ k₁
    obtain ⟨σ₂, hasg, hb⟩ := turn d r σ' ow' hI
    refine hasg (P.at oa) _ v _ _ R.zero F₁ (r₁ _) fun h₂ t₂ F₂ c₂ => ?_
    have Jk : ∀ {h₂ h₃}, J r h₂ → Stk C P.A (P.l sc) h₂ → Chg (P.at oa) h₂ h₃ → J r h₃ := fun {h₂ h₃} hj S c => by
      refine IT.keep r h₂ h₃ hj fun b m o e => c.keep b o e ?_ (hown' b m)
      obtain ⟨o', e', n⟩ := IT.live r h₂ hj b m
      exact S.off e' n
    have hJ₂ := Jk hJ₁ F₁.stk c₂
    have c₂' : Chg P s.heap h₂ := c₁.trans ok' c₂
    refine hb (P.at oa) _ _ _ R F₂ ⟨?_, ?_, ?_, ?_⟩
    · intro σ₃ ow₃ oa₃ h₃ t₃ hI₃ F₃ c₃ ok₃
      refine ⟨r.length, by simp at hlen; omega, r, σ₃, ow₃, oa₃, h₃, t₃, rfl, rfl, hI₃, Jk hJ₂ F₂.stk c₃, F₃, c₂'.trans ok' c₃, ok'.trans c₂' ok₃, fun b m q => ?_⟩
      rcases ok₃ b q with z | z
      · exact hown' b m z
      · obtain ⟨o, e, _⟩ := IT.live _ _ hJ₂ b m
        rw [e] at z; cases z
    · intro σ₃ ow₃ oa₃ h₃ t₃ f F₃ c₃ ok₃
      exact K.next σ₃ ow₃ oa₃ h₃ t₃ f F₃ (c₂'.trans ok' c₃) (ok'.trans c₂' ok₃)
    · intro v d h₃ t₃ f r S c₃
      exact K.ret v d h₃ t₃ f r S (c₂'.trans ok' c₃)
    · intro _ _ _ _ _ _ f
      exact f.elim
end
end Mine

set_option maxRecDepth 100000
set_option autoImplicit false
set_option linter.unusedVariables false
namespace Mine
open PySem PySem.Calls PyProof.Rows

section
variable {C : Cx} {a b : Int}
theorem stays_refl (h : Heap) : h.StaysIn h := fun _ _ e => e
theorem stays_push (h : Heap) (o : Obj) : h.StaysIn (h.push o) := fun _ _ e => Heap.get?_push_of_some o e

theorem Bin.add : Bin C .Add (.int a) (.int b) (.int (a + b)) := by
  intro A O s v u Q E R _ _ r r' k
  obtain ⟨t, rfl⟩ := r.intInv; obtain ⟨t', rfl⟩ := r'.intInv
  exact PyProof.Rows.add_int (k _ _ _ (stays_refl _) (.int _ _))
theorem Bin.sub : Bin C .Sub (.int a) (.int b) (.int (a - b)) := by
  intro A O s v u Q E R _ _ r r' k
  obtain ⟨t, rfl⟩ := r.intInv; obtain ⟨t', rfl⟩ := r'.intInv
  exact PyProof.Rows.sub_int (k _ _ _ (stays_refl _) (.int _ _))
theorem Bin.mul (hm : IntMulOk a b) : Bin C .Mult (.int a) (.int b) (.int (a * b)) := by
  intro A O s v u Q E R _ _ r r' k
  obtain ⟨t, rfl⟩ := r.intInv; obtain ⟨t', rfl⟩ := r'.intInv
  exact PyProof.Rows.mul_int (k _ _ _ (stays_refl _) (.int _ _)) hm
theorem Bin.fdiv (hb : b ≠ 0) (hp : Builtin.divisionGoesByPylong a b = false) : Bin C .FloorDiv (.int a) (.int b) (.int (a.fdiv b)) := by
  intro A O s v u Q E R _ _ r r' k
  obtain ⟨t, rfl⟩ := r.intInv; obtain ⟨t', rfl⟩ := r'.intInv
  exact PyProof.Rows.floordiv_int hb (k _ _ _ (stays_refl _) (.int _ _)) (.inl hp)
theorem Bin.fmod (hb : b ≠ 0) : Bin C .Mod (.int a) (.int b) (.int (a.fmod b)) := by
  intro A O s v u Q E R _ _ r r' k
  obtain ⟨t, rfl⟩ := r.intInv; obtain ⟨t', rfl⟩ := r'.intInv
  exact PyProof.Rows.mod_int' hb (k _ _ _ (stays_refl _) (.int _ _))
theorem Bin.pow (hn : 0 ≤ b) (hsz : (Builtin.Int.intBits a : Int) * b ≤ 2 ^ 27) : Bin C .Pow (.int a) (.int b) (.int (a ^ b.toNat)) := by
  intro A O s v u Q E R _ _ r r' k
  obtain ⟨t, rfl⟩ := r.intInv; obtain ⟨t', rfl⟩ := r'.intInv
  exact PyProof.Rows.pow_int hn hsz (k _ _ _ (stays_refl _) (.int _ _))
theorem Aug.add : Aug C .Add (.int a) (.int b) (.int (a + b)) := by
  intro A O s v u Q E R _ _ r r' k
  obtain ⟨t, rfl⟩ := r.intInv; obtain ⟨t', rfl⟩ := r'.intInv
  exact PyProof.Rows.iadd_int (k _ _ _ (stays_refl _) (.int _ _))
theorem Aug.sub : Aug C .Sub (.int a) (.int b) (.int (a - b)) := by
  intro A O s v u Q E R _ _ r r' k
  obtain ⟨t, rfl⟩ := r.intInv; obtain ⟨t', rfl⟩ := r'.intInv
  exact PyProof.Rows.isub_int (k _ _ _ (stays_refl _) (.int _ _))
theorem Cmp.lt : Cmp C .Lt (.int a) (.int b) (decide (a < b)) := by
  intro A O s v u Q E R _ _ r r' k
  obtain ⟨t, rfl⟩ := r.intInv; obtain ⟨t', rfl⟩ := r'.intInv
  exact PyProof.Rows.lt_int (k s.heap s.toks (stays_refl _))
theorem Cmp.le : Cmp C .LtE (.int a) (.int b) (decide (a ≤ b)) := by
  intro A O s v u Q E R _ _ r r' k
  obtain ⟨t, rfl⟩ := r.intInv; obtain ⟨t', rfl⟩ := r'.intInv
  exact PyProof.Rows.le_int (k s.heap s.toks (stays_refl _))
theorem Cmp.gt : Cmp C .Gt (.int a) (.int b) (decide (b < a)) := by
  intro A O s v u Q E R _ _ r r' k
  obtain ⟨t, rfl⟩ := r.intInv; obtain ⟨t', rfl⟩ := r'.intInv
  exact PyProof.Rows.gt_int (k s.heap s.toks (stays_refl _))
theorem Cmp.ge : Cmp C .GtE (.int a) (.int b) (decide (b ≤ a)) := by
  intro A O s v u Q E R _ _ r r' k
  obtain ⟨t, rfl⟩ := r.intInv; obtain ⟨t', rfl⟩ := r'.intInv
  exact PyProof.Rows.ge_int (k s.heap s.toks (stays_refl _))
theorem Cmp.eqInt : Cmp C .Eq (.int a) (.int b) (decide (a = b)) := by
  intro A O s v u Q E R _ _ r r' k
  obtain ⟨t, rfl⟩ := r.intInv; obtain ⟨t', rfl⟩ := r'.intInv
  refine PyProof.Rows.eq_int ?_
  rw [show (a == b) = decide (a = b) from by by_cases h : a = b <;> simp [h]]
  exact k s.heap s.toks (stays_refl _)
theorem Cmp.neInt : Cmp C .NotEq (.int a) (.int b) (!decide (a = b)) := by
  intro A O s v u Q E R _ _ r r' k
  obtain ⟨t, rfl⟩ := r.intInv; obtain ⟨t', rfl⟩ := r'.intInv
  refine PyProof.Rows.ne_int ?_
  rw [show (a != b) = !decide (a = b) from by by_cases h : a = b <;> simp [h]]
  exact k s.heap s.toks (stays_refl _)
theorem Cmp.eq {d e : PyData} (hd : SeqAt.shaped d = true) (he : SeqAt.shaped e = true) : Cmp C .Eq d e (PyData.eqv d e) := by
  intro A O s v u Q E R _ _ r r' k
  obtain ⟨_, r, _⟩ := r; obtain ⟨_, r', _⟩ := r'
  exact eq_dataH r r' hd he R.line (k s.heap s.toks (stays_refl _))
theorem Cmp.ne {d e : PyData} (hd : SeqAt.shaped d = true) (he : SeqAt.shaped e = true) : Cmp C .NotEq d e (!PyData.eqv d e) := by
  intro A O s v u Q E R _ _ r r' k
  obtain ⟨_, r, _⟩ := r; obtain ⟨_, r', _⟩ := r'
  exact ne_dataH r r' hd he R.line (k s.heap s.toks (stays_refl _))
theorem Una.neg : Una C .USub (.int a) (.int (-a)) := by
  intro A O s v Q E R _ _ r k
  obtain ⟨t, rfl⟩ := r.intInv
  exact PyProof.Rows.neg_int (k _ _ _ (stays_refl _) (.int _ _))
theorem Tru.bool {c : Bool} : Tru C (.bool c) c := by
  intro A O s v Q E R _ _ r k
  cases r.boolInv
  exact wpAny_truthy_bool (k s.heap s.toks (stays_refl _))
theorem Una.not {d : PyData} {c : Bool} (h : Tru C d c) : Una C .Not d (.bool (!c)) := by
  intro A O s v Q E R l x r k
  exact not_value (h A O s v _ _ R l x r fun h' tk y => k _ h' tk y (.bool _))
theorem Blt.len {ds : List PyData} (hs : ds.length < 2 ^ 60) : Blt C (.builtin "len") [.list ds] (.int ds.length) := by
  intro A O s vs Q E R _ _ r k
  obtain ⟨v, rfl, r₁⟩ := r.one
  obtain ⟨a, o, vs, n, rfl, h1, h2, h3, _, r₂⟩ := r₁.listInv
  have e : vs.size = ds.length := by rw [← r₂.length]; simp
  refine PyProof.Rows.len_list (items := vs) ⟨o, h1, h2, n, h3⟩ (by rw [e]; omega) ?_
  rw [e]
  exact k _ s.heap _ (stays_refl _) (.int _ _)
theorem Blt.lenStr {x : Str} (hs : x.length < 2 ^ 60) : Blt C (.builtin "len") [.str x] (.int x.length) := by
  intro A O s vs Q E R _ _ r k
  obtain ⟨v, rfl, r₁⟩ := r.one
  obtain ⟨t, rfl⟩ := r₁.strInv
  exact P.len_str (by omega) (k _ s.heap _ (stays_refl _) (.int _ _))
theorem Blt.max : Blt C (.builtin "max") [.int a, .int b] (.int (if b > a then b else a)) := by
  intro A O s vs Q E R _ _ r k
  obtain ⟨v, u, rfl, r₁, r'⟩ := r.two
  obtain ⟨t, rfl⟩ := r₁.intInv; obtain ⟨t', rfl⟩ := r'.intInv
  refine max_two_ints R.handled fun h' tk hk => ?_
  by_cases c : b > a
  · rw [if_pos c] at k ⊢; exact k _ _ _ hk (.int _ _)
  · rw [if_neg c] at k ⊢; exact k _ _ _ hk (.int _ _)
theorem Blt.abs : Blt C (.builtin "abs") [.int a] (.int (if a < 0 then -a else a)) := by
  intro A O s vs Q E R _ _ r k
  obtain ⟨v, rfl, r₁⟩ := r.one
  obtain ⟨t, rfl⟩ := r₁.intInv
  exact call_abs_int fun u tk => k _ s.heap _ (stays_refl _) (.int _ _)
end

section
variable {C : Cx} {lv : Nat} {sc : Scope} {σ : Sg} {ow : Ow}
theorem Ev.and {x y : Expr} {pos : Pos} {a b : Bool} (h : Ev C lv sc x σ ow (.bool a)) (h' : a = true → Ev C lv sc y σ ow (.bool b)) (hab : a = false → b = false) : Ev C lv sc (.BoolOp .And [x, y] pos) σ ow (.bool b) := by
  intro P s Q E R F k
  refine wpAny_And2 (h P s _ _ R F fun v h₁ t₁ x₁ r₁ => ?_)
  cases r₁.boolInv
  refine wpAny_truthy_bool ?_
  cases a with
  | false => rw [hab rfl] at k; exact k _ _ _ x₁ r₁
  | true => exact h' rfl P _ _ _ R (F.ext' x₁) fun v h₂ t₂ x₂ r₂ => k v h₂ t₂ (x₁.trans x₂) r₂
theorem Ev.or {x y : Expr} {pos : Pos} {a b : Bool} (h : Ev C lv sc x σ ow (.bool a)) (h' : a = false → Ev C lv sc y σ ow (.bool b)) (hab : a = true → b = true) : Ev C lv sc (.BoolOp .Or [x, y] pos) σ ow (.bool b) := by
  intro P s Q E R F k
  refine wpAny_Or2 (h P s _ _ R F fun v h₁ t₁ x₁ r₁ => ?_)
  cases r₁.boolInv
  refine wpAny_truthy_bool ?_
  cases a with
  | true => rw [hab rfl] at k; exact k _ _ _ x₁ r₁
  | false => exact h' rfl P _ _ _ R (F.ext' x₁) fun v h₂ t₂ x₂ r₂ => k v h₂ t₂ (x₁.trans x₂) r₂

theorem subTail {prog : Program} {w : World} {A : Around} {E : Value → Shared → Prop} {s : Shared} {value slice : Expr} {o i : Value} {T id : String} {ops : List Value} {Q : Value → Shared → Prop} (hT : s.TypeIs o T)
    (hl : typeLookup (.type T) "__getitem__" = pure (some (.builtin id))) (h : wpAny (model prog w) A (getItem o i) Q E s) (hs : subscripted slice false o i = operate ops (getItem o i)) : wpAny (model prog w) A (subscriptTail value slice o i) Q E s := by
  unfold subscriptTail
  refine wpAny_bind ?_
  rw [getitemInPython_of_ne hT.not_modules]
  refine wpAny_bind (wpAny_specialOf hT hl ?_)
  have fin : wpAny (model prog w) A (subscripted slice false o i) (fun r s₃ => wpAny (model prog w) A (letTemporaryGo value o r >>= fun _ => pure r) Q E s₃) E s := by
    rw [hs]
    exact wpAny_operating (wpAny_mono h (fun r s₃ h₃ => wpAny_bind (wpAny_letTemporaryGo (wpAny_pure h₃))) fun _ _ x => x)
  first
    | exact wpAny_pure (wpAny_bind fin)
    | exact wpAny_bind (wpAny_pure (wpAny_bind fin))
    | exact wpAny_bind fin
/-- an item of a list or a tuple -/
def Itm (C : Cx) (d : PyData) (i : Int) (r : PyData) : Prop :=
  ∀ (A : Around) (O : List Addr) (s : Shared) (value slice : Expr) (v : Value) (t : Tok) (Q E : Value → Shared → Prop), Room A 0 → Rd O s.heap v d → (∀ o j, subscripted slice false o j = operate [o, j] (getItem o j)) →
    (∀ x, Rd O s.heap x r → Q x s) → wpAny (model C.prog C.w) A (subscriptTail value slice v (.int i t)) Q E s
theorem Itm.list {ds : List PyData} {i : Int} {r : PyData} (h0 : 0 ≤ i) (h1 : i < 2 ^ 60) (h : ds[i.toNat]? = some r) : Itm C (.list ds) i r := by
  intro A O s value slice v t Q E R rd hs k
  obtain ⟨a, o, vs, n, rfl, e1, e2, e3, _, rs⟩ := rd.listInv
  obtain ⟨x, hx, rx⟩ := rs.get _ _ h
  have hl : s.heap.IsList a vs := ⟨o, e1, e2, n, e3⟩
  exact subTail hl.typeIs slot_list_getitem.lookup (wpAny_getItem_list hl h0 (by omega) (by simpa using hx) (k x rx)) (hs _ _)
theorem Itm.tuple {ds : List PyData} {i : Int} {r : PyData} (h0 : 0 ≤ i) (h1 : i < 2 ^ 60) (h : ds[i.toNat]? = some r) : Itm C (.tuple ds) i r := by
  intro A O s value slice v t Q E R rd hs k
  obtain ⟨a, o, vs, n, rfl, e1, e2, e3, rs⟩ := rd.tupleInv
  obtain ⟨x, hx, rx⟩ := rs.get _ _ h
  have ht : IsTup s.heap a vs := ⟨o, e1, e2, n, e3⟩
  have hlt : i.toNat < vs.size := by
    have := (List.getElem?_eq_some_iff.mp hx).1
    simpa using this
  have hj : seqIndex? i vs.size = some i.toNat := by
    unfold seqIndex?
    simp only [show ¬ i < 0 by omega, if_false]
    rw [if_pos (by simp; omega)]
  exact subTail ht.typeIs slot_tuple_getitem.lookup (getItem_tuple ht (by omega) (by omega) hj (by simpa using hx) (k x rx)) (hs _ _)
theorem Ev.item {value slice : Expr} {pos : Pos} {d r : PyData} {i : Int} (h : Ev C lv sc value σ ow d) (h' : Ev C lv sc slice σ ow (.int i)) (hi : Itm C d i r) (hs : ∀ o j, subscripted slice false o j = operate [o, j] (getItem o j) := by intro _ _; with_unfolding_all rfl) :
    Ev C lv sc (.Subscript value slice pos) σ ow r := by
  intro P s Q E R F k
  refine Subscript_ (h P s _ _ R F fun v h₁ t₁ x₁ r₁ => h' P _ _ _ R (F.ext' x₁) fun j h₂ t₂ x₂ r₂ => ?_)
  obtain ⟨t, rfl⟩ := r₂.intInv
  exact hi P.A P.OO _ value slice v t _ _ R.zero (x₂.rd r₁) hs fun x rx => k x h₂ t₂ (x₁.trans x₂) rx
end
end Mine

set_option maxRecDepth 100000
set_option autoImplicit false
set_option linter.unusedVariables false
namespace Mine
open PySem PySem.Calls PyProof.Rows

def flat : PyData → Bool
  | .none | .bool _ | .int _ | .str _ => true
  | _ => false
theorem Rd.flat {O O' : List Addr} {h h' : Heap} {v : Value} {d : PyData} (hf : flat d = true) (r : Rd O h v d) : Rd O' h' v d := by
  obtain ⟨_, r, _⟩ := r
  cases r with
  | none => exact .none
  | bool b => exact .bool b
  | int i t => exact .int i t
  | str x t => exact .str x t
  | _ => cases hf
theorem extBut_stays {h h' : Heap} (k : Heap.ExtBut h.objs.size h h') : h.StaysIn h' := fun b o e => k b o (Nat.ne_of_lt (Heap.lt_size e)) e

section
variable {C : Cx} {lv : Nat} {sc : Scope} {σ : Sg} {ow : Ow}

theorem Iter.of_walks {I : Addr} {fp wr : List Addr} {ds : List PyData} {V : Nat → Value → Prop} {St : Nat → Heap → Prop} (W : ∀ A : Around, A.handled = none → Walks C.prog C.w A I fp wr ds.length V St)
    (hv : ∀ i v d, V i v → ds[i]? = some d → ∀ O h, Rd O h v d) (hl : ∀ i h, St i h → ∀ b ∈ fp, ∃ o, h.get? b = some o ∧ ∀ es n, o.data ≠ .dict es n) (hf : ∀ i h, St i h → ∀ b ∈ wr, ∃ o vs, h.get? b = some o ∧ o.data = .fields vs) :
    Iter C (.ref I) fp wr (fun r h => ∃ i, i ≤ ds.length ∧ r = ds.drop i ∧ St i h) where
  item := by
    rintro A s Q E d r R hb ⟨i, hi, e, st⟩ k
    have hi' : i < ds.length := by
      by_cases q : i < ds.length
      · exact q
      · rw [List.drop_of_length_le (by omega)] at e; cases e
    rw [List.drop_eq_getElem_cons hi'] at e
    cases e
    exact (W A R.handled).item i s Q E hi' st fun v h' tk hP st' kk => k v h' tk ⟨i + 1, hi', rfl, st'⟩ (fun b o e m => kk b o m e) (fun O => hv i v _ hP (List.getElem?_eq_getElem hi') O h')
  stop := by
    rintro A s Q E R hb ⟨i, hi, e, st⟩ k
    have : i = ds.length := by
      have := congrArg List.length e
      simp at this; omega
    subst this
    exact (W A R.handled).done s Q E st fun h' tk kk => k h' tk fun b o e m => kk b o m e
  keep := by
    rintro r h h' ⟨i, hi, e, st⟩ k
    exact ⟨i, hi, e, (W {} rfl).frame i h h' st k⟩
  live := fun r h ⟨i, _, _, st⟩ => hl i h st
  flds := fun r h ⟨i, _, _, st⟩ => hf i h st
  sub := (W {} rfl).sub

theorem Src.list {e : Expr} {ds : List PyData} (h : Ev C lv sc e σ ow (.list ds)) (hf : ∀ d ∈ ds, flat d = true) : Src C lv sc e σ ow ds := by
  intro P s Q E R F k
  refine h P s _ _ R F fun v h₁ t₁ x₁ r₁ => ?_
  obtain ⟨l, o, vs, n, rfl, h1, h2, h3, hO, r₂⟩ := r₁.listInv
  have hl : h₁.IsList l vs := ⟨o, h1, h2, n, h3⟩
  refine wpAny_pyIter_list (s := { s with heap := h₁, toks := t₁ }) hl ?_
  have hne : l ≠ h₁.objs.size := Nat.ne_of_lt (Heap.lt_size h1)
  have hsz : vs.size = ds.length := by rw [← r₂.length]; simp
  refine k _ [h₁.objs.size, l] [h₁.objs.size] _ _ t₁ (x₁.push _) (Iter.of_walks (ds := ds) (fun A hA => hsz ▸ Walks.list hA h₁.objs.size l hne vs) ?_ ?_ ?_)
    ⟨0, Nat.zero_le _, rfl, ⟨_, Heap.get?_push_size _ rfl, rfl, rfl⟩, hl.push _⟩ ?_ ?_
  · intro i v d hv hd O h'
    obtain ⟨u, hu, ru⟩ := r₂.get i d hd
    have : v = u := by
      have : vs[i]? = some u := by simpa using hu
      rw [hv] at this; exact Option.some.inj this
    subst this
    exact ru.flat (hf d (List.mem_of_getElem? hd))
  · rintro i h' ⟨⟨o1, e1, _, d1⟩, ⟨o2, e2, _, n2, d2⟩⟩ b hb
    simp only [List.mem_cons, List.not_mem_nil, or_false] at hb
    rcases hb with rfl | rfl
    · exact ⟨o1, e1, fun _ _ q => by rw [d1] at q; cases q⟩
    · exact ⟨o2, e2, fun _ _ q => by rw [d2] at q; cases q⟩
  · rintro i h' ⟨⟨o1, e1, _, d1⟩, _⟩ b hb
    simp only [List.mem_cons, List.not_mem_nil, or_false] at hb
    subst hb
    exact ⟨o1, _, e1, d1⟩
  · intro b hb
    simp only [List.mem_cons, List.not_mem_nil, or_false] at hb
    subst hb
    cases q : s.heap.get? h₁.objs.size with
    | none => rfl
    | some o' => obtain ⟨_, e'⟩ := x₁.up _ _ q; exact absurd (Heap.lt_size e') (Nat.lt_irrefl _)
  · intro b hb q
    simp only [List.mem_cons, List.not_mem_nil, or_false] at hb
    rcases hb with rfl | rfl
    · obtain ⟨_, _, _, e⟩ := (F.ext' x₁).own_off _ q
      exact absurd (Heap.lt_size e) (Nat.lt_irrefl _)
    · exact hO (List.mem_append_left _ (by rw [q]; exact .head _))
theorem Src.tuple {e : Expr} {ds : List PyData} (h : Ev C lv sc e σ ow (.tuple ds)) (hf : ∀ d ∈ ds, flat d = true) : Src C lv sc e σ ow ds := by
  intro P s Q E R F k
  refine h P s _ _ R F fun v h₁ t₁ x₁ r₁ => ?_
  obtain ⟨l, o, vs, n, rfl, h1, h2, h3, r₂⟩ := r₁.tupleInv
  have hl : h₁.IsTuple l vs := ⟨o, h1, h2, n, h3⟩
  refine wpAny_pyIter_tuple (s := { s with heap := h₁, toks := t₁ }) hl ?_
  have hne : l ≠ h₁.objs.size := Nat.ne_of_lt (Heap.lt_size h1)
  have hsz : vs.size = ds.length := by rw [← r₂.length]; simp
  refine k _ [h₁.objs.size, l] [h₁.objs.size] _ _ t₁ (x₁.push _) (Iter.of_walks (ds := ds) (fun A hA => hsz ▸ Walks.tuple hA h₁.objs.size l hne vs) ?_ ?_ ?_)
    ⟨0, Nat.zero_le _, rfl, ⟨_, Heap.get?_push_size _ rfl, rfl, rfl⟩, hl.push _⟩ ?_ ?_
  · intro i v d hv hd O h'
    obtain ⟨u, hu, ru⟩ := r₂.get i d hd
    have : v = u := by
      have : vs[i]? = some u := by simpa using hu
      rw [hv] at this; exact Option.some.inj this
    subst this
    exact ru.flat (hf d (List.mem_of_getElem? hd))
  · rintro i h' ⟨⟨o1, e1, _, d1⟩, ⟨o2, e2, _, n2, d2⟩⟩ b hb
    simp only [List.mem_cons, List.not_mem_nil, or_false] at hb
    rcases hb with rfl | rfl
    · exact ⟨o1, e1, fun _ _ q => by rw [d1] at q; cases q⟩
    · exact ⟨o2, e2, fun _ _ q => by rw [d2] at q; cases q⟩
  · rintro i h' ⟨⟨o1, e1, _, d1⟩, _⟩ b hb
    simp only [List.mem_cons, List.not_mem_nil, or_false] at hb
    subst hb
    exact ⟨o1, _, e1, d1⟩
  · intro b hb
    simp only [List.mem_cons, List.not_mem_nil, or_false] at hb
    subst hb
    cases q : s.heap.get? h₁.objs.size with
    | none => rfl
    | some o' => obtain ⟨_, e'⟩ := x₁.up _ _ q; exact absurd (Heap.lt_size e') (Nat.lt_irrefl _)
  · intro b hb q
    simp only [List.mem_cons, List.not_mem_nil, or_false] at hb
    obtain ⟨_, _, _, e⟩ := (F.ext' x₁).own_off _ q
    rcases hb with rfl | rfl
    · exact absurd (Heap.lt_size e) (Nat.lt_irrefl _)
    · rw [h1] at e; cases e; exact absurd (Value.type.inj h2) (by decide)

/-- the ints of a range -/
def rng (a c : Int) (n : Nat) : List PyData := (List.range n).map fun (i : Nat) => .int (a + (i : Int) * c)
theorem Src.rangeAt {P : Pt} {s : Shared} {Q E : Value → Shared → Prop} {r : Addr} {a b c : Int} {t u v : Tok} {n : Nat} (F : FS C sc P s.heap σ ow) (hr : IsRange s.heap r a b c t u v) (hsmall : Builtin.Range.small a b c = true) (hn : Builtin.Range.rangeSize a b c = (n : Int))
    (k : ∀ it sup fp J h' tk, Ext P.fs s.heap h' → Iter C it sup fp J → J (rng a c n) h' → (∀ b ∈ fp, s.heap.get? b = none) → (∀ b ∈ sup, P.oa ≠ some b) → Q it { s with heap := h', toks := tk }) :
    wpAny (model C.prog C.w) P.A (pyIter (.ref r)) Q E s := by
  refine wpAny_pyIter_range hr hsmall ?_
  have hlen : (rng a c n).length = n := by simp [rng]
  refine k _ [s.heap.objs.size] [s.heap.objs.size] _ _ s.toks ((Ext.refl _ _).push _) (Iter.of_walks (ds := rng a c n) (fun A hA => hlen.symm ▸ Walks.range hA s.heap.objs.size a c n) ?_ ?_ ?_)
    ⟨0, Nat.zero_le _, rfl, by
      show IsRangeIter _ _ _ _ _
      rw [hn]
      have := Heap.get?_push_size s.heap (o := { cls := .type "range_iterator", data := .fields #[rawInt a, rawInt (n : Int), rawInt c] }) rfl
      simpa [IsRangeIter, hlen] using this⟩ ?_ ?_
  · rintro i w d ⟨t, rfl⟩ hd O h'
    have : d = .int (a + (i : Int) * c) := by
      simp only [rng, List.getElem?_map] at hd
      obtain ⟨j, hj, rfl⟩ := Option.map_eq_some_iff.mp hd
      rw [List.getElem?_range (by have := (List.getElem?_eq_some_iff.mp hj).1; simpa using this)] at hj
      cases hj; rfl
    subst this
    exact .int _ _
  · intro i h' st b hb
    simp only [List.mem_cons, List.not_mem_nil, or_false] at hb
    subst hb
    exact ⟨_, st, fun _ _ q => by cases q⟩
  · intro i h' st b hb
    simp only [List.mem_cons, List.not_mem_nil, or_false] at hb
    subst hb
    exact ⟨_, _, st, rfl⟩
  · intro b hb
    simp only [List.mem_cons, List.not_mem_nil, or_false] at hb
    subst hb
    exact Heap.get?_none_of_le (Nat.le_refl _)
  · intro b hb q
    simp only [List.mem_cons, List.not_mem_nil, or_false] at hb
    obtain ⟨_, _, _, e⟩ := F.own_off _ q
    subst hb
    exact absurd (Heap.lt_size e) (Nat.lt_irrefl _)
theorem callT {P : Pt} {x : Str} {p pos : Pos} {e : Expr} {es : List Expr} {ds : List PyData} {T : String} {s : Shared} {Q E : Value → Shared → Prop} (ok : C.Ok) (R : Room P.A lv) (F : FS C sc P s.heap σ ow) (hg : C.mg x = none) (hb : C.mb x = some (.type T))
    (ha : EvAll C lv sc (e :: es) σ ow ds) (hl : sc.names.lookup x = some .globalImplicit) (hs : sc.kind = .function) (hd : (x == ("__debug__" : Str)) = false)
    (he : ∀ env, starEach (e :: es) env = (false, eval e env) :: starEach es env) (hp : ∀ env, (backTo pos (starEach (e :: es) env)).any (·.1) = false)
    (k : ∀ vs h' tk, Ext P.fs s.heap h' → RdAll P.OO h' vs ds → wpAny (model C.prog C.w) P.A (call (.type T) vs) Q E { s with heap := h', toks := tk }) :
    wpAny (model C.prog C.w) P.A (eval (.Call (.Name x p) (e :: es) [] pos) (P.env sc)) Q E s := by
  show wpAny _ _ (do callWith pos (← eval (.Name x p) (P.env sc)) [] (backTo pos (starEach (e :: es) (P.env sc))) (backToKw pos (keywordEach [] (P.env sc)))) Q E s
  refine wpAny_bind (built_at ok F hg hb hl hs hd ?_)
  exact PyProof.Rows.callWith_type (hp _) (evalArgs_cons (he _) (ha P s pos _ _ R F fun vs h₁ t₁ x₁ r₁ => k vs h₁ t₁ x₁ r₁))
theorem range_small {a b c : Int} (h : Builtin.Range.small a b c = true) : Builtin.Range.small a b c = true := h
theorem Src.range1 {x : Str} {p pos : Pos} {e : Expr} {b : Int} {n : Nat} (ok : C.Ok) (hg : C.mg x = none) (hb : C.mb x = some (.type "range")) (ha : Ev C lv sc e σ ow (.int b)) (hsmall : Builtin.Range.small 0 b 1 = true) (hn : Builtin.Range.rangeSize 0 b 1 = (n : Int)) (hl : sc.names.lookup x = some .globalImplicit) (hs : sc.kind = .function) (hd : (x == ("__debug__" : Str)) = false)
    (he : ∀ env, starEach [e] env = (false, eval e env) :: starEach [] env := by intro _; with_unfolding_all rfl) (hp : ∀ env, (backTo pos (starEach [e] env)).any (·.1) = false := by intro _; with_unfolding_all rfl) :
    Src C lv sc (.Call (.Name x p) [e] [] pos) σ ow (rng 0 1 n) := by
  intro P s Q E R F k
  refine callT ok R F hg hb (EvAll.cons ha .nil he) hl hs hd he hp fun vs h₁ t₁ x₁ r₁ => ?_
  obtain ⟨v, rfl, r₂⟩ := r₁.one
  obtain ⟨t, rfl⟩ := r₂.intInv
  refine call_range_1 ?_
  exact Src.rangeAt (s := ⟨_, s.gens, _, _, _⟩) ((F.ext' x₁).ext' ((Ext.refl _ _).push _)) (IsRange.new ..) hsmall hn fun it sup fp J h' tk x' I hJ h1 h2 => k it sup fp J h' tk ((x₁.push _).trans x') I hJ (fun b m => by
    cases q : s.heap.get? b with
    | none => rfl
    | some o' => obtain ⟨_, e'⟩ := (x₁.push _).up _ _ q; have := h1 b m; rw [show _ = some _ from e'] at this; cases this) h2
theorem Src.range3 {x : Str} {p pos : Pos} {e1 e2 e3 : Expr} {a b c : Int} {n : Nat} (ok : C.Ok) (hg : C.mg x = none) (hb : C.mb x = some (.type "range")) (ha : EvAll C lv sc [e1, e2, e3] σ ow [.int a, .int b, .int c]) (hc : c ≠ 0) (hsmall : Builtin.Range.small a b c = true) (hn : Builtin.Range.rangeSize a b c = (n : Int))
    (hpl : Builtin.divisionGoesByPylong (b - a) c = false) (hl : sc.names.lookup x = some .globalImplicit) (hs : sc.kind = .function) (hd : (x == ("__debug__" : Str)) = false)
    (he : ∀ env, starEach [e1, e2, e3] env = (false, eval e1 env) :: starEach [e2, e3] env := by intro _; with_unfolding_all rfl) (hp : ∀ env, (backTo pos (starEach [e1, e2, e3] env)).any (·.1) = false := by intro _; with_unfolding_all rfl) :
    Src C lv sc (.Call (.Name x p) [e1, e2, e3] [] pos) σ ow (rng a c n) := by
  intro P s Q E R F k
  refine callT ok R F hg hb ha hl hs hd he hp fun vs h₁ t₁ x₁ r₁ => ?_
  obtain ⟨v, ws, rfl, r₂, r₃⟩ := r₁.inv
  obtain ⟨v2, v3, rfl, r₄, r₅⟩ := r₃.two
  obtain ⟨t, rfl⟩ := r₂.intInv
  obtain ⟨t2, rfl⟩ := r₄.intInv
  obtain ⟨t3, rfl⟩ := r₅.intInv
  refine call_range_3 hc ?_ (.inl hpl)
  exact Src.rangeAt (s := ⟨_, s.gens, _, _, _⟩) ((F.ext' x₁).ext' ((Ext.refl _ _).push _)) (IsRange.new ..) hsmall hn fun it sup fp J h' tk x' I hJ h1 h2 => k it sup fp J h' tk ((x₁.push _).trans x') I hJ (fun b m => by
    cases q : s.heap.get? b with
    | none => rfl
    | some o' => obtain ⟨_, e'⟩ := (x₁.push _).up _ _ q; have := h1 b m; rw [show _ = some _ from e'] at this; cases this) h2
end
end Mine

set_option maxRecDepth 100000
set_option autoImplicit false
set_option linter.unusedVariables false
namespace Mine
open PySem PySem.Calls PyProof.Rows

def del (σ : Sg) (x : Str) : Sg := σ.filter fun p => !(p.1 == x)
theorem del_lookup {x y : Str} {d : PyData} : ∀ {σ : Sg}, (del σ x).lookup y = some d → y ≠ x ∧ σ.lookup y = some d
  | [], e => by cases e
  | (z, c) :: σ, e => by
    unfold del at e
    rw [List.filter_cons] at e
    by_cases q : z = x
    · rw [if_neg (by simp [q])] at e
      obtain ⟨h1, h2⟩ := del_lookup e
      refine ⟨h1, ?_⟩
      rw [List.lookup_cons, beq_eq_false_iff_ne.mpr (by rw [q]; exact h1)]
      exact h2
    · rw [if_pos (by simp [q]), List.lookup_cons] at e
      rw [List.lookup_cons]
      by_cases r : y = z
      · subst r
        rw [beq_self_eq_true] at e ⊢
        exact ⟨q, e⟩
      · rw [beq_eq_false_iff_ne.mpr r] at e ⊢
        exact del_lookup e

section
variable {C : Cx} {lv : Nat} {sc : Scope} {σ : Sg} {ow : Ow}

/-- an expression that makes a new list -/
def EvNew (C : Cx) (lv : Nat) (sc : Scope) (e : Expr) (σ : Sg) (ow : Ow) (ds : List PyData) : Prop :=
  ∀ (P : Pt) (s : Shared) (Q E : Value → Shared → Prop), Room P.A lv → FS C sc P s.heap σ ow →
    (∀ b vs h' tk, Ext P.fs s.heap h' → s.heap.get? b = none → h'.get? b = some { cls := .type "list", data := .seq vs 0 } → RdAll (b :: P.OO) h' vs.toList ds → Q (.ref b) { s with heap := h', toks := tk }) →
    wpAny (model C.prog C.w) P.A (eval e (P.env sc)) Q E s
theorem fresh_at {fs : List Addr} {h h' : Heap} (x : Ext fs h h') : h.get? h'.objs.size = none := by
  cases q : h.get? h'.objs.size with
  | none => rfl
  | some o => obtain ⟨_, e⟩ := x.up _ _ q; exact absurd (Heap.lt_size e) (Nat.lt_irrefl _)
theorem EvNew.list {es : List Expr} {pos : Pos} {ds : List PyData} (h : EvAll C lv sc es σ ow ds) (hs : ds.length ≤ sizeLine := by decide) : EvNew C lv sc (.List es pos) σ ow ds := by
  intro P s Q E R F k
  refine wpAny_List (h P s _ _ _ R F fun vs h₁ t₁ x₁ r₁ => ⟨by rw [r₁.length]; exact hs, ?_⟩)
  refine k _ vs.toArray _ t₁ (x₁.push _) (fresh_at x₁) (Heap.get?_push_size _ rfl) ?_
  exact (Ext.refl P.fs _).push _ |>.rdAll ((by simpa using r₁ : RdAll P.OO h₁ vs.toArray.toList ds).more (Heap.get?_none_of_le (Nat.le_refl _)))
theorem foldl_rep {v : Value} : ∀ (n : Nat) (acc : Array Value), (List.foldl (fun x1 x2 => x1 ++ x2) acc (List.replicate n #[v])).toList = acc.toList ++ List.replicate n v
  | 0, acc => by simp
  | n + 1, acc => by
    rw [List.replicate_succ, List.foldl_cons, foldl_rep n]
    simp [List.replicate_succ]
theorem rdAll_rep {O : List Addr} {h : Heap} {v : Value} {d : PyData} (r : Rd O h v d) : ∀ n : Nat, RdAll O h (List.replicate n v) (List.replicate n d)
  | 0 => .nil
  | n + 1 => .cons r (rdAll_rep r n)
/-- [d] * n -/
theorem EvNew.rep {e r : Expr} {p pos : Pos} {d : PyData} {n : Int} (he : Ev C lv sc e σ ow d) (hr : Ev C lv sc r σ ow (.int n)) (hn : n ≤ 2 ^ 24) (hn' : -(2 ^ 60) ≤ n) (hst : ∀ env, starEach [e] env = (false, eval e env) :: starEach [] env := by intro _; with_unfolding_all rfl) :
    EvNew C lv sc (.BinOp (.List [e] p) .Mult r pos) σ ow (List.replicate n.toNat d) := by
  intro P s Q E R F k
  refine wpAny_BinOp (wpAny_List ((EvAll.cons he .nil hst) P s _ _ _ R F fun vs h₁ t₁ x₁ r₁ => ⟨by rw [r₁.length]; show 1 ≤ sizeLine; decide, ?_⟩))
  obtain ⟨v, rfl, r₂⟩ := r₁.one
  have F₁ := F.ext' (x₁.push { cls := .type "list", data := .seq [v].toArray })
  refine hr P _ _ _ R F₁ fun u h₂ t₂ x₂ r₃ => ?_
  obtain ⟨t, rfl⟩ := r₃.intInv
  have hb : h₂.get? h₁.objs.size = some { cls := .type "list", data := .seq #[v] 0 } := x₂.keep _ _ (Heap.get?_push_size _ rfl) (F₁.stk.off (Heap.get?_push_size _ rfl) fun _ _ q => by cases q)
  have x₃ := (x₁.push { cls := .type "list", data := .seq [v].toArray }).trans x₂
  have F₂ := F₁.ext' x₂
  have hnn : (#[v] : Array Value).size * n.toNat ≤ 2 ^ 24 := by simp; omega
  refine wpAny_binaryOp_repeat_ref (T := "list") (U := "int") (s := { s with heap := h₂, toks := t₂ }) (by decide) ⟨_, hb, rfl⟩ (fun s' => typeIs_int s' n t) noFill_list_mul PySem.F.fills_int_mul PySem.F.slot_int_rmul repeat_list PySem.F.slot_int_index.lookup
    (call_meets PySem.F.slot_int_rmul (typeIs_int _ n t) PySem.F.entry_int_rmul (PySem.F.args_int_rmul_2 _ _) (int___rmul___int_list n t h₁.objs.size #[v] 0)
      ⟨hb, rfl, ⟨_, hb, rfl⟩, call_meets PySem.F.slot_list_mul ⟨_, hb, rfl⟩ PySem.F.entry_list_mul (PySem.F.args_list_mul_2 _ _)
        (AutoListH.list___mul___list_int_3 h₁.objs.size #[v] 0 n t (by simp [Builtin.List.listFitsIndex]; omega) (by omega) (by simp [Builtin.List.listTooLong, sizeLine]; omega)) ⟨hb, ?_⟩⟩)
  refine k h₂.objs.size _ _ _ (x₃.push _) (fresh_at x₃) (Heap.get?_push_size _ rfl) ?_
  rw [foldl_rep]
  simp only [List.nil_append, Array.toList_empty]
  have r₅ : RdAll P.OO h₂ (List.replicate n.toNat v) (List.replicate n.toNat d) := rdAll_rep (x₂.rd (((Ext.refl P.fs _).push _).rd r₂)) _
  exact (Ext.refl P.fs _).push _ |>.rdAll (by simpa using r₅.more (Heap.get?_none_of_le (Nat.le_refl _)))

theorem Rd.upd {O : List Addr} {h h' : Heap} {b : Addr} {o : Obj} {v : Value} {d : PyData} (hb : b ∈ O) (ho : h.get? b = some o) (hc : o.cls = .type "list") (hs : Heap.SameBut b h h') : Rd O h v d → Rd O h' v d
  | ⟨as, r, k⟩ => ⟨as, reads_on r fun a o' e q => ⟨o', (hs.2 a fun z => by
      subst z
      rcases q with q | ⟨q, _⟩
      · exact k _ q hb
      · rw [ho] at e; cases e; rw [hc] at q; exact absurd (Value.type.inj q) (by decide)).trans e, rfl, rfl⟩, k⟩
theorem RdAll.upd {O : List Addr} {h h' : Heap} {b : Addr} {o : Obj} {v : List Value} {d : List PyData} (hb : b ∈ O) (ho : h.get? b = some o) (hc : o.cls = .type "list") (hs : Heap.SameBut b h h') : RdAll O h v d → RdAll O h' v d
  | ⟨as, r, k⟩ => ⟨as, readsAll_on r fun a o' e q => ⟨o', (hs.2 a fun z => by
      subst z
      rcases q with q | ⟨q, _⟩
      · exact k _ q hb
      · rw [ho] at e; cases e; rw [hc] at q; exact absurd (Value.type.inj q) (by decide)).trans e, rfl, rfl⟩, k⟩
/-- the list that the frame owns is changed -/
theorem FS.upd {P : Pt} {h h' : Heap} {x : Str} {xs ys : List PyData} {b : Addr} {vs ws : Array Value} {n n' : Nat} {m : Str → Option Value} (S : Stk C P.A (P.l sc) h) (l : Live P.O h) (ob : ∀ b, P.oa = some b → C.base.get? b = none ∧ b ∉ P.O) (hn : Nv sc h P.L m) (hv : Vars P h σ m) (h1 : P.oa = some b) (h2 : m x = some (.ref b))
    (h3 : h.get? b = some { cls := .type "list", data := .seq vs n }) (hs : Heap.SameBut b h h') (h3' : h'.get? b = some { cls := .type "list", data := .seq ws n' }) (r : RdAll P.OO h ws.toList ys) : FS C sc P h' σ (some (x, ys)) ∧ Chg P h h' := by
  have hbO : b ∈ P.OO := List.mem_append_left _ (by rw [h1]; exact .head _)
  have off := S.off h3 (fun _ _ q => by cases q)
  have hL : P.L ≠ b := fun e => off (e ▸ .head _)
  refine ⟨⟨⟨S.frames, fun a o e => (hs.2 a ?_).trans (S.base a o e), funFrames_to (fun a o e f => ?_) S.fun_, fun a q => ?_⟩, fun a q => ?_, ob, m, hn.other hs h3 rfl, fun y d e => ?_, ?_⟩, ?_, ?_, ?_⟩
  · rintro rfl; rw [(ob _ h1).1] at e; cases e
  · by_cases z : a = b
    · subst z
      exact ⟨_, h3', fun _ q => by cases q⟩
    · exact ⟨o, (hs.2 a z).trans e, f⟩
  · obtain ⟨o, es, k, e, hd⟩ := S.dicts a q
    exact ⟨o, es, k, (hs.2 a fun z => off (z ▸ q)).trans e, hd⟩
  · by_cases z : a = b
    · subst z; exact ⟨_, h3'⟩
    · obtain ⟨o, e⟩ := l a q; exact ⟨o, (hs.2 a z).trans e⟩
  · obtain ⟨v, e', r'⟩ := hv y d e
    exact ⟨v, e', r'.upd hbO h3 rfl hs⟩
  · exact ⟨b, ws, n', h1, h2, h3', r.upd hbO h3 rfl hs⟩
  · intro a o e _ q
    exact (hs.2 a fun z => q (z ▸ h1)).trans e
  · intro a o e _ q
    exact ⟨o.slots, (hs.2 a fun z => q (z ▸ h1)).trans e⟩
  · intro a o e
    by_cases z : a = b
    · subst z; exact ⟨_, h3'⟩
    · exact ⟨o, (hs.2 a z).trans e⟩

/-- x = a new list: the frame owns it -/
theorem Sp.own {x : Str} {p pos : Pos} {e : Expr} {ds : List PyData} {Φ : Res → Prop} (he : EvNew C lv sc e σ none ds) (h : Φ (.next (del σ x) (some (x, ds)))) (hl : sc.names.lookup x = some .local) (hk : sc.kind = .function)
    (hs : ∀ env, swapsWith e (some (.Name x p)) pos.line env = pure false := by intro _; with_unfolding_all rfl) : Sp C lv sc (.Assign [.Name x p] e pos) σ none Φ := by
  intro P s Q E R F K
  have hoa : P.oa = none := by obtain ⟨_, _, _, _, _, _, ho⟩ := F; exact ho
  refine wpAny_Assign_Name (he P s _ _ R F fun b vs h₁ t₁ x₁ hb h₃ r₁ => ?_) (hs _)
  have F' := F
  obtain ⟨S0, l0, ob, m, hn0, hv, ho⟩ := F'
  have S := S0.ext x₁
  have l := l0.ext x₁
  have hn := x₁.nv hn0
  have off := S.off h₃ (fun _ _ q => by cases q)
  have hL : b ≠ P.L := fun z => off (z ▸ .head _)
  refine store_nv (s := { s with heap := h₁, toks := t₁ }) hl hn (fun h' hn' hs' => ?_) (by show (sc.kind == .class || (sc.kind == .module && _)) = false; rw [hk]; rfl)
  have hLO : P.L ∈ P.OO := List.mem_append_right _ (.head _)
  have hOO : (P.at (some b)).OO = b :: P.OO := by simp [Pt.OO, hoa]
  have hbl : ∀ o, C.base.get? b ≠ some o := fun o q => by have := F.stk.base b o q; rw [hb] at this; cases this
  refine K.next _ _ (some b) h' _ h ⟨stk_same S hn hn' hs', fun a k => ?_, fun b' q => ?_, _, hn', fun y d q => ?_, ?_⟩ ((Chg.of_ext x₁).trans (oa := P.oa) (OaOk.refl _ _) (Chg.same hn' hs')) (fun b' q => .inr (by cases q; exact hb))
  · by_cases z : a = P.L
    · obtain ⟨o, _, _, e, _⟩ := hn'; exact ⟨o, z ▸ e⟩
    · obtain ⟨o, e⟩ := l a k; exact ⟨o, (hs'.2 a z).trans e⟩
  · cases q
    refine ⟨?_, fun q => ?_⟩
    · cases z : C.base.get? b with
      | none => rfl
      | some o => exact absurd z (hbl o)
    · obtain ⟨o, e⟩ := F.live b q; rw [hb] at e; cases e
  · obtain ⟨hy, q'⟩ := del_lookup q
    obtain ⟨u, e', r'⟩ := hv y d q'
    refine ⟨u, by simp [hy, e'], ?_⟩
    rw [hOO]
    exact rd_same hn hs' (.tail _ hLO) (x₁.rd (r'.more hb))
  · refine ⟨b, vs, 0, rfl, by simp, (hs'.2 b hL).trans h₃, ?_⟩
    rw [hOO]
    exact rdAll_same hn hs' (.tail _ hLO) r₁

theorem append_at {prog : Program} {w : World} {A : Around} {E : Value → Shared → Prop} {s : Shared} {l : Addr} {its : Array Value} {n : Nat} {x : Value} {Q : Value → Shared → Prop}
    (ho : s.heap.get? l = some { cls := .type "list", data := .seq its n }) (hQ : ∀ h' n', h'.get? l = some { cls := .type "list", data := .seq (its.push x) n' } → Heap.SameBut l s.heap h' → Q .none { s with heap := h' })
    (hsz : its.size ≤ sizeLine) : wpAny (model prog w) A (call (.builtin "list.append") [.ref l, x]) Q E s := by
  have hT : s.TypeIs (.ref l) "list" := ⟨_, ho, rfl⟩
  refine wpAny_call_entry slot_list_append hT entry_list_append ?_ (args_list_append _ _)
  show wpAny _ _ (updateSeq l (·.push x) >>= fun _ => ret .none) _ _ s
  refine wpAny_bind ?_
  refine wpAny_updateSeq ho rfl (wpAny_pure ⟨.none, rfl, hQ _ (n + 1) ?_ (Heap.SameBut.update ..)⟩)
  have := Heap.get?_update_self (Obj.mapSeq (·.push x)) ho rfl
  simpa [Obj.mapSeq] using this
theorem interactive_no {P : Pt} (hk : sc.kind = .function) : interactive (P.env sc) = false := by
  unfold interactive
  simp [Pt.env, envOfC, hk]
theorem Sp.append {x : Str} {p ap cp pos : Pos} {e : Expr} {xs : List PyData} {d : PyData} {Φ : Res → Prop} (he : Ev C lv sc e σ (some (x, xs)) d) (h : Φ (.next σ (some (x, xs ++ [d])))) (hl : sc.names.lookup x = some .local) (hk : sc.kind = .function) (hd : (x == ("__debug__" : Str)) = false)
    (hsz : xs.length ≤ sizeLine) (hline : (ap.endLine == cp.line) = true)
    (hfew : ∀ env, ((backTo cp (starEach [e] env)).all (fun x => !x.1) && (backToKw cp (keywordEach [] env)).all (fun x => x.1.isSome) && decide (([e] : List Expr).length + ([] : List Keyword).length + (if ([] : List Keyword).isEmpty then 0 else 1) < 30)) = true := by intro _; with_unfolding_all rfl)
    (htrees : ∀ env, backTo cp (starEach [e] env) = [(false, eval e env)] := by intro _; with_unfolding_all rfl) :
    Sp C lv sc (.Expr (.Call (.Attribute (.Name x p) "append" ap) [e] [] cp) pos) σ (some (x, xs)) Φ := by
  intro P s Q E R F K
  refine wpAny_Expr_any (wpAny_Call_append rfl (hfew _) hline (htrees _) ?_) (interactive_no hk) rfl
  have F' := F
  obtain ⟨S, l, ob, m, hn, hv, b, vs, n, h1, h2, h3, h4⟩ := F'
  refine wpAny_Name (load_nv hk hl hn h2 ⟨b, vs, rfl, ⟨_, n, h3, rfl, rfl, rfl⟩, ?_⟩) hd
  refine he P s _ _ R F fun y h₁ t₁ x₁ r₁ => ?_
  have off := S.off h3 (fun _ _ q => by cases q)
  have hsz' : vs.size ≤ sizeLine := by rw [← Array.length_toList, h4.length]; exact hsz
  refine append_at (s := { s with heap := h₁, toks := t₁ }) (x₁.keep _ _ h3 off) (fun h₂ n' e₂ hs₂ => ?_) hsz'
  have U := FS.upd (C := C) (sc := sc) (σ := σ) (xs := xs) (ys := xs ++ [d]) (S.ext x₁) (l.ext x₁) ob (x₁.nv hn) (fun y d q => let ⟨v, e, r⟩ := hv y d q; ⟨v, e, x₁.rd r⟩) h1 h2 (x₁.keep _ _ h3 off) hs₂ e₂
    (by rw [Array.toList_push]; exact (x₁.rdAll h4).append (.cons r₁ .nil))
  exact K.next _ _ P.oa h₂ t₁ h U.1 ((Chg.of_ext x₁).trans (oa := P.oa) (OaOk.refl _ _) U.2) (OaOk.refl _ _)
theorem Sp.setItem {x : Str} {p q pos : Pos} {e i : Expr} {xs : List PyData} {d : PyData} {k : Int} {Φ : Res → Prop} (he : Ev C lv sc e σ (some (x, xs)) d) (hi : Ev C lv sc i σ (some (x, xs)) (.int k)) (h0 : 0 ≤ k) (h1 : k < xs.length) (hbig : xs.length < 2 ^ 60)
    (h : Φ (.next σ (some (x, xs.set k.toNat d)))) (hl : sc.names.lookup x = some .local) (hk : sc.kind = .function) (hd : (x == ("__debug__" : Str)) = false)
    (hs : ∀ env, swapsWith e (some (.Subscript (.Name x p) i q)) pos.line env = pure false := by intro _; with_unfolding_all rfl) : Sp C lv sc (.Assign [.Subscript (.Name x p) i q] e pos) σ (some (x, xs)) Φ := by
  intro P s Q E R F K
  refine wpAny_Assign_Subscript (he P s _ _ R F fun y h₁ t₁ x₁ r₁ => ?_) (hs _)
  have F₁ := F.ext' x₁
  have F' := F₁
  obtain ⟨S, l, ob, m, hn, hv, b, vs, n, e1, e2, e3, e4⟩ := F'
  refine wpAny_Name (load_nv hk hl hn e2 ?_) hd
  refine hi P _ _ _ R F₁ fun j h₂ t₂ x₂ r₂ => ?_
  obtain ⟨t, rfl⟩ := r₂.intInv
  have off := S.off e3 (fun _ _ q => by cases q)
  have e3' := x₂.keep _ _ e3 off
  have hvs : vs.size = xs.length := by rw [← Array.length_toList, e4.length]
  refine W.ki_setAt (s := { s with heap := h₂, toks := t₂ }) (n := n) e3' h0 (by omega) (by omega) ?_
  have e5 : (h₂.update b (Obj.mapSeq (·.setIfInBounds k.toNat y))).get? b = some { cls := .type "list", data := .seq (vs.setIfInBounds k.toNat y) n } := by
    have := Heap.get?_update_self (Obj.mapSeq (·.setIfInBounds k.toNat y)) e3' rfl
    simpa [Obj.mapSeq] using this
  have U := FS.upd (C := C) (sc := sc) (σ := σ) (xs := xs) (ys := xs.set k.toNat d) (S.ext x₂) (l.ext x₂) ob (x₂.nv hn) (fun y d q => let ⟨v, e, r⟩ := hv y d q; ⟨v, e, x₂.rd r⟩) e1 e2 e3' (Heap.SameBut.update ..) e5
    (by rw [Array.toList_setIfInBounds]; exact (x₂.rdAll e4).set _ (x₂.rd r₁))
  exact K.next _ _ P.oa _ t₂ h U.1 ((Chg.of_ext (x₁.trans x₂)).trans (oa := P.oa) (OaOk.refl _ _) U.2) (OaOk.refl _ _)
theorem Ev.itemOwn {x : Str} {p pos : Pos} {slice : Expr} {xs : List PyData} {i : Int} {r : PyData} (h : Ev C lv sc slice σ (some (x, xs)) (.int i)) (h0 : 0 ≤ i) (h1 : i < 2 ^ 60) (hi : xs[i.toNat]? = some r) (hl : sc.names.lookup x = some .local) (hk : sc.kind = .function) (hd : (x == ("__debug__" : Str)) = false)
    (hs : ∀ o j, subscripted slice false o j = operate [o, j] (getItem o j) := by intro _ _; with_unfolding_all rfl) : Ev C lv sc (.Subscript (.Name x p) slice pos) σ (some (x, xs)) r := by
  intro P s Q E R F k
  have F' := F
  obtain ⟨S, l, ob, m, hn, hv, b, vs, n, e1, e2, e3, e4⟩ := F'
  refine Subscript_ (wpAny_Name (load_nv hk hl hn e2 ?_) hd)
  refine h P s _ _ R F fun j h₂ t₂ x₂ r₂ => ?_
  obtain ⟨t, rfl⟩ := r₂.intInv
  obtain ⟨v, ev, rv⟩ := e4.get _ _ hi
  have hL : h₂.IsList b vs := ⟨_, x₂.keep _ _ e3 (S.off e3 (fun _ _ q => by cases q)), rfl, n, rfl⟩
  exact subTail (s := { s with heap := h₂, toks := t₂ }) hL.typeIs slot_list_getitem.lookup (wpAny_getItem_list hL h0 (by omega) (by simpa using ev) (k v h₂ t₂ x₂ (x₂.rd rv))) (hs _ _)
/-- the owned list becomes a datum -/
theorem WP.release {ss : List Stmt} {x : Str} {xs : List PyData} {Φ : Res → Prop} (h : WP C lv sc ss ((x, .list xs) :: σ) none Φ) : WP C lv sc ss σ (some (x, xs)) Φ := by
  intro P s Q E R F p
  refine h (P.at none) s Q E R ?_ (p.moved (tk := s.toks) (Chg.refl _ _) fun b e => by cases e)
  obtain ⟨S, l, ob, m, hn, hv, b, vs, n, e1, e2, e3, e4⟩ := F
  have hsub : ∀ a ∈ (P.at none).OO, a ∈ P.OO := fun a q => List.mem_append_right _ (by simpa [Pt.OO] using q)
  refine ⟨S, l, fun b q => (by cases q), m, hn, fun y d q => ?_, rfl⟩
  rw [List.lookup_cons] at q
  by_cases z : y = x
  · subst z
    rw [beq_self_eq_true] at q; cases q
    refine ⟨_, e2, Rd.list e3 rfl rfl ?_ (e4.sub hsub)⟩
    intro z
    rcases List.mem_cons.mp (by simpa [Pt.OO] using z : b ∈ P.L :: P.O) with z | z
    · exact S.off e3 (fun _ _ q => by cases q) (z ▸ .head _)
    · exact (ob b e1).2 z
  · rw [beq_eq_false_iff_ne.mpr z] at q
    obtain ⟨v, e, r⟩ := hv y d q
    exact ⟨v, e, r.sub hsub⟩
end
end Mine

set_option maxRecDepth 100000
set_option autoImplicit false
set_option linter.unusedVariables false
namespace Mine
open PySem PySem.Calls PyProof.Rows

/-- a def of the text -/
structure IsFn (C : Cx) (n : Str) (ps : Arguments) (body : List Stmt) (sc : Scope) : Prop where
  there : ∃ a o pm cd doc, C.mg n = some (.ref a) ∧ C.base.get? a = some o ∧ o.data = .func (docDef n ps body sc pm cd doc) ∧ C.base.CodeRec cd n
/-- its parameters are plain names -/
structure Plain (n : Str) (ps : Arguments) (body : List Stmt) (sc : Scope) (xs : List Str) : Prop where
  bind : ∀ vs : List Value, vs.length = xs.length → ∀ pm cd doc, bindArgs (docDef n ps body sc pm cd doc) ⟨vs, []⟩ = pure (xs.zip vs)
  loc : ∀ x ∈ xs, sc.names.lookup x = some .local
  co : sc.isCoroutine = false
  gen : sc.isGenerator = false
  kind : sc.kind = .function
  cell : ∀ x ∈ sc.names, x.2 ≠ .cell

/-- its parameters are plain names, some in cells -/
structure PlainC (n : Str) (ps : Arguments) (body : List Stmt) (sc : Scope) (xs : List Str) : Prop where
  bind : ∀ vs : List Value, vs.length = xs.length → ∀ pm cd doc, bindArgs (docDef n ps body sc pm cd doc) ⟨vs, []⟩ = pure (xs.zip vs)
  kinds : ∀ x ∈ xs, sc.names.lookup x = some .local ∨ (sc.names.lookup x = some .cell ∧ ∀ n, ((cellsFrom n sc.names []).lookup x).isSome = true)
  co : sc.isCoroutine = false
  gen : sc.isGenerator = false
  kind : sc.kind = .function
theorem Plain.c {n : Str} {ps : Arguments} {body : List Stmt} {sc : Scope} {xs : List Str} (p : Plain n ps body sc xs) : PlainC n ps body sc xs := ⟨p.bind, fun x h => .inl (p.loc x h), p.co, p.gen, p.kind⟩
theorem bind_miss {kd : Str → Option NameKind} {x : Str} : ∀ (bs : List (Str × Value)) (m cm : Str → Option Value), bs.lookup x = none → bindL kd bs m x = m x ∧ bindC kd bs cm x = cm x
  | [], _, _, _ => ⟨rfl, rfl⟩
  | (y, w) :: bs, m, cm, e => by
    rw [List.lookup_cons] at e
    by_cases q : x = y
    · subst q; rw [beq_self_eq_true] at e; cases e
    · rw [beq_eq_false_iff_ne.mpr q] at e
      unfold bindL bindC
      obtain ⟨h1, h2⟩ := bind_miss (kd := kd) bs (if kd y = some .local then fun z => if z = y then some w else m z else m) (if kd y = some .local then cm else fun z => if z = y then some w else cm z) e
      rw [h1, h2]
      constructor <;> split <;> simp [q]
theorem look_rev {x : Str} : ∀ {bs : List (Str × Value)}, bs.reverse.lookup x = none → bs.lookup x = none := fun {bs} e => by
  rw [List.lookup_eq_none_iff] at e ⊢
  exact fun p hp => e p (List.mem_reverse.mpr hp)
theorem bind_look {kd : Str → Option NameKind} {x : Str} {v : Value} : ∀ (bs : List (Str × Value)) (m cm : Str → Option Value), (∀ y ∈ bs, kd y.1 = some .local ∨ kd y.1 = some .cell) → bs.reverse.lookup x = some v →
    (if kd x = some .cell then bindC kd bs cm x else bindL kd bs m x) = some v
  | [], _, _, _, e => by cases e
  | (y, w) :: bs, m, cm, hk, e => by
    rw [List.reverse_cons, List.lookup_append] at e
    unfold bindL bindC
    cases q : bs.reverse.lookup x with
    | some u =>
      rw [q] at e
      obtain rfl : u = v := by simpa using e
      exact bind_look bs _ _ (fun z hz => hk z (.tail _ hz)) q
    | none =>
      rw [q] at e
      obtain ⟨h1, h2⟩ := bind_miss (kd := kd) bs (if kd y = some .local then fun z => if z = y then some w else m z else m) (if kd y = some .local then cm else fun z => if z = y then some w else cm z) (look_rev q)
      rw [h1, h2]
      have e' : List.lookup x [(y, w)] = some v := by simpa using e
      rw [List.lookup_cons] at e'
      by_cases z : x = y
      · subst z
        rw [beq_self_eq_true] at e'; cases e'
        rcases hk _ (.head _) with h | h
        · have h : kd x = some .local := h
          simp [h]
        · have h : kd x = some .cell := h
          simp [h]
      · rw [beq_eq_false_iff_ne.mpr z] at e'; cases e'

theorem zip_lookup {O : List Addr} {h : Heap} {x : Str} {d : PyData} : ∀ {xs : List Str} {vs : List Value} {ds : List PyData}, RdAll O h vs ds → (xs.zip ds).reverse.lookup x = some d → ∃ v, (xs.zip vs).reverse.lookup x = some v ∧ Rd O h v d := by
  intro xs vs ds r
  have key : ∀ (xs : List Str) (vs : List Value) (ds : List PyData), RdAll O h vs ds → ∀ (acc : List (Str × PyData)) (acc' : List (Str × Value)), (∀ d, acc.lookup x = some d → ∃ v, acc'.lookup x = some v ∧ Rd O h v d) → (acc.lookup x = none → acc'.lookup x = none) →
      ∀ d, (List.reverseAux (xs.zip ds) acc).lookup x = some d → ∃ v, (List.reverseAux (xs.zip vs) acc').lookup x = some v ∧ Rd O h v d := by
    intro xs
    induction xs with
    | nil => intro vs ds r acc acc' h1 _ d e; simpa using h1 d (by simpa using e)
    | cons y xs ih =>
      intro vs ds r acc acc' h1 h2 d e
      cases ds with
      | nil => rw [r.invNil]; simpa using h1 d (by simpa using e)
      | cons d' ds =>
        obtain ⟨v, ws, rfl, r1, r2⟩ := r.inv
        refine ih ws ds r2 ((y, d') :: acc) ((y, v) :: acc') ?_ ?_ d (by simpa [List.zip_cons_cons, List.reverseAux] using e)
        · intro d₂ e₂
          rw [List.lookup_cons] at e₂ ⊢
          by_cases q : x = y
          · subst q; rw [beq_self_eq_true] at e₂ ⊢; cases e₂; exact ⟨v, rfl, r1⟩
          · rw [beq_eq_false_iff_ne.mpr q] at e₂ ⊢; exact h1 d₂ e₂
        · intro e₂
          rw [List.lookup_cons] at e₂ ⊢
          by_cases q : x = y
          · subst q; rw [beq_self_eq_true] at e₂; cases e₂
          · rw [beq_eq_false_iff_ne.mpr q] at e₂ ⊢; exact h2 e₂
  intro e
  exact key xs vs ds r [] [] (fun d e => by cases e) (fun _ => rfl) d e

section
variable {C : Cx} {lv : Nat} {sc : Scope} {n : Str} {ps : Arguments} {body : List Stmt} {xs : List Str} {ds : List PyData}

/-- the frame of a call -/
theorem enter {A : Around} {l : List Env} {O : List Addr} {s : Shared} {vs : List Value} {a : Addr} {o : Obj} {pm cd doc : Value} {R : Result → Shared → Prop} (ok : C.Ok) (pl : PlainC n ps body sc xs) (hlen : ds.length = xs.length)
    (ho : C.base.get? a = some o) (hd : o.data = .func (docDef n ps body sc pm cd doc)) (hc : C.base.CodeRec cd n) (Rm : Room A (lv + 1)) (S : Stk C A l s.heap) (hO : Live O s.heap) (r : RdAll O s.heap vs ds)
    (k : ∀ P : Pt, ∀ h₁ tk, P.outer = l → P.O = O → P.oa = none → P.A = A.deeper (P.env sc) → s.heap.get? P.L = none → Room P.A lv → FS C sc P h₁ ((xs.zip ds).reverse) none → s.heap.StaysIn h₁ →
      wpAny (model C.prog C.w) P.A (execs body (P.env sc)) (fun f s' => R (.ok (.ret (match f with | .ret v => v | _ => .none))) s')
        (fun e s' => wpAny (model C.prog C.w) P.A (leaving (P.env sc) e) (fun _ s'' => R (.error e) s'') (fun e' s'' => R (.error e') s'') s') { s with heap := h₁, toks := tk }) :
    codeAny (model C.prog C.w) A (.call (.ref a) ⟨vs, []⟩) R s := by
  have hl : vs.length = xs.length := by rw [r.length, hlen]
  refine call_cells Rm.limit (S.base _ _ ho) hd (ok.nolimit.keeps S.base) (hc.keeps S.base) (pl.bind vs hl pm cd doc) (fun x hx => (pl.kinds x.1 (List.of_mem_zip hx).1).imp id fun q => ⟨q.1, q.2 _⟩) (fun h₁ tk F X => ?_) pl.co pl.gen pl.kind
  have hnone : s.heap.get? s.heap.objs.size = none := Heap.get?_none_of_le (Nat.le_refl _)
  have hns := F.ns
  obtain ⟨oL, esL, epL, eL, hdL, _⟩ := hns
  refine k ⟨n, a, cd, s.heap.objs.size, A.deeper (envOfC n sc s.heap.objs.size a cd), l, O, none⟩ h₁ _ rfl rfl rfl rfl hnone (Rm.deeper _) ⟨⟨?_, fun b o e => F.keep b o (S.base b o e), ?_, ?_⟩, ?_, fun b q => (by cases q), _, ⟨oL, esL, epL, eL, hdL, _, _, F.ns, X, fun _ => rfl⟩, fun x d e => ?_, rfl⟩ F.keep
  · exact Around.frames_deeper S.frames
  · exact ⟨by show sc.kind ≠ _; rw [pl.kind]; decide, ⟨s.heap.objs.size, oL, rfl, S.base.fresh, eL, fun vs q => by rw [hdL] at q; cases q⟩, (Ext.of_stays (fs := []) F.keep).funFrames S.fun_⟩
  · intro b m
    rcases List.mem_cons.mp m with rfl | m
    · exact ⟨oL, esL, epL, eL, hdL⟩
    · obtain ⟨o, es, k, e, hd⟩ := S.dicts b m
      exact ⟨o, es, k, F.keep b o e, hd⟩
  · intro b m
    obtain ⟨o, e⟩ := hO b m
    exact ⟨o, F.keep b o e⟩
  · obtain ⟨v, e', r'⟩ := zip_lookup r e
    have hb := bind_look (kd := (envOfC n sc s.heap.objs.size a cd).kindOf) (xs.zip vs) (fun _ => none) (fun _ => none) (fun y hy => Or.imp id And.left (pl.kinds y.1 (List.of_mem_zip hy).1)) e'
    exact ⟨v, hb, (Ext.of_stays (fs := []) F.keep).rd (r'.more hnone)⟩

theorem ext_of_chg {P : Pt} {h h₁ h' : Heap} (hL : h.get? P.L = none) (ha : P.oa = none) (st : h.StaysIn h₁) (c : Chg P h₁ h') : Ext (frsOf P.outer) h h' := by
  have ne : ∀ b o, h.get? b = some o → b ≠ P.L := fun b o e q => by rw [q, hL] at e; cases e
  exact ⟨fun b o e m => c.keep b o (st b o e) (fun q => (List.mem_cons.mp q).elim (ne b o e) m) (by rw [ha]; intro q; cases q), fun b o e m => c.slot b o (st b o e) (ne b o e) (by rw [ha]; intro q; cases q)⟩

theorem Gives.of_bodyC {d : PyData} (ok : C.Ok) (fn : IsFn C n ps body sc) (pl : PlainC n ps body sc xs) (hlen : ds.length = xs.length) (h : WP C lv sc body ((xs.zip ds).reverse) none (fun r => r = .ret d)) : Gives C (lv + 1) n ds d := by
  obtain ⟨a, o, pm, cd, doc, hg, ho, hd, hc⟩ := fn.there
  refine ⟨a, o, _, hg, ho, hd, fun A l O s vs Q E Rm S hO r k => wpAny_call (enter ok pl hlen ho hd hc Rm S hO r fun P h₁ tk e1 e2 e3 e4 hL Rm' F st => ?_)⟩
  refine h P _ _ _ Rm' F ⟨?_, ?_, ?_, ?_⟩
  · intro σ ow oa h' tk' q; cases q
  · intro σ ow oa h' tk' q; cases q
  · intro v d' h' tk' q r' S' c
    cases q
    have := ext_of_chg hL e3 st c
    rw [e1] at this
    rw [e2] at r'
    exact k v h' tk' this r'
  · intro e cls args h₁ h' tk' q; cases q

theorem Gives.of_body {d : PyData} (ok : C.Ok) (fn : IsFn C n ps body sc) (pl : Plain n ps body sc xs) (hlen : ds.length = xs.length) (h : WP C lv sc body ((xs.zip ds).reverse) none (fun r => r = .ret d)) : Gives C (lv + 1) n ds d := Gives.of_bodyC ok fn pl.c hlen h
/-- an exception that has left the frame that raised it -/
structure Fly (C : Cx) (l : List Env) (h : Heap) (cls : String) (e : Addr) (h' : Heap) : Prop where
  out : ∃ B t, C.base.StaysIn B ∧ (∀ b o, h.get? b = some o → b ∉ frsOf l → B.get? b = some o) ∧ Heap.FlyingW B l e (.type cls) (.ref t) h'
  up : h.UpToSlots h'
def Raises (C : Cx) (lv : Nat) (n : Str) (ds : List PyData) (cls : String) : Prop :=
  ∃ a o fd, C.mg n = some (.ref a) ∧ C.base.get? a = some o ∧ o.data = .func fd ∧
    ∀ (A : Around) (l : List Env) (O : List Addr) (s : Shared) (vs : List Value) (Q E : Value → Shared → Prop), Room A lv → Stk C A l s.heap → Live O s.heap → RdAll O s.heap vs ds →
      (∀ e h' tk, Fly C l s.heap cls e h' → E (.ref e) { s with heap := h', toks := tk }) → wpAny (model C.prog C.w) A (call (.ref a) vs) Q E s
theorem Raises.of_bodyC {cls : String} (ok : C.Ok) (fn : IsFn C n ps body sc) (pl : PlainC n ps body sc xs) (hlen : ds.length = xs.length) (h : WP C lv sc body ((xs.zip ds).reverse) none (fun r => r = .exc cls)) : Raises C (lv + 1) n ds cls := by
  obtain ⟨a, o, pm, cd, doc, hg, ho, hd, hc⟩ := fn.there
  refine ⟨a, o, _, hg, ho, hd, fun A l O s vs Q E Rm S hO r k => wpAny_call (enter ok pl hlen ho hd hc Rm S hO r fun P h₁ tk e1 e2 e3 e4 hL Rm' F st => ?_)⟩
  refine h P _ _ _ Rm' F ⟨?_, ?_, ?_, ?_⟩
  · intro σ ow oa h' tk' q; cases q
  · intro σ ow oa h' tk' q; cases q
  · intro v d' h' tk' q; cases q
  · intro e cls args h₂ h' tk' q S' c mk
    cases q
    have x := ext_of_chg hL e3 st c
    have hin : ∀ env ∈ P.l sc, ∀ b, env.frame = some b → b ∈ frsOf (P.l sc) := fun env he b hb => List.mem_filterMap.mpr ⟨env, he, hb⟩
    have hB : C.base.StaysIn (W.hideAll h₂ (frsOf (P.l sc))) := fun b o q => W.hideAll_get _ (S'.base b o q) fun hm => by
      rw [(S'.fun_.mem hm).1] at q; cases q
    refine wpAny_leaves_madeW (s := { s with heap := h', toks := tk' }) (base := W.hideAll h₂ (frsOf (P.l sc))) S'.frames rfl (fun b o q => W.of_hideAll _ q) (W.funFrames_hide S'.fun_ hin) mk fun h₃ t x1 x2 x3 x4 => ?_
    refine k e h₃ tk' ⟨⟨_, t, hB, fun b o q m => W.hideAll_get _ (x.keep b o q (e1 ▸ m)) ?_, e1 ▸ x1⟩, fun b o q f => ?_⟩
    · intro m'
      rcases List.mem_cons.mp (show b ∈ P.L :: frsOf P.outer from m') with z | z
      · rw [z, hL] at q; cases q
      · exact m (e1 ▸ z)
    · obtain ⟨sl, e5⟩ := x.up b o q
      have := x4 b _ (mk.keeps b _ e5) f
      exact this
theorem Raises.of_body {cls : String} (ok : C.Ok) (fn : IsFn C n ps body sc) (pl : Plain n ps body sc xs) (hlen : ds.length = xs.length) (h : WP C lv sc body ((xs.zip ds).reverse) none (fun r => r = .exc cls)) : Raises C (lv + 1) n ds cls := Raises.of_bodyC ok fn pl.c hlen h
end
end Mine

set_option maxRecDepth 100000
set_option autoImplicit false
set_option linter.unusedVariables false
namespace Mine
open PySem PySem.Calls PyProof.Rows

section
variable {C : Cx} {lv : Nat} {sc : Scope} {σ : Sg} {ow : Ow}

theorem FS.reA {P : Pt} {h : Heap} {A : Around} (F : FS C sc P h σ ow) (hA : A.frames = P.A.frames) : FS C sc { P with A := A } h σ ow := by
  obtain ⟨S, l, ob, m, hn, hv, ho⟩ := F
  refine ⟨⟨hA.trans S.frames, S.base, S.fun_, S.dicts⟩, l, ob, m, hn, hv, ?_⟩
  cases ow with
  | none => exact ho
  | some p => exact ho

theorem Sp.raise {X : Str} {np cpos pos mp : Pos} {mk : Nat} {msg : Str} {cls newId initId : String} {Φ : Res → Prop} (ok : C.Ok) (Fc : ExcCallFacts cls newId initId) (G : ExcRaiseFacts cls) (hg : C.mg X = none) (hb : C.mb X = some (.type cls)) (h : Φ (.exc cls))
    (hl : sc.names.lookup X = some .globalImplicit) (hk : sc.kind = .function) (hd : (X == ("__debug__" : Str)) = false) :
    Sp C lv sc (.Raise (some (.Call (.Name X np) [.Constant (.str msg) mk mp] [] cpos)) none pos) σ ow Φ := by
  intro P s Q E R F K
  refine wpAny_Raise_call Fc G R.handled rfl (built_at ok F hg hb hl hk hd ⟨rfl, ?_⟩)
  refine evalArgs_cons rfl ((EvAll.cons (C := C) (lv := lv) (sc := sc) (σ := σ) (ow := ow) (Ev.str) EvAll.nil) P s cpos _ _ R F fun vs h₁ t₁ x₁ r₁ => ⟨rfl, ?_, fun h' e mk => ?_⟩)
  · rw [r₁.length]; show 1 ≤ sizeLine; decide
  · exact K.exc e cls _ h₁ h' t₁ h (F.stk.ext x₁) (.of_ext x₁) mk.of

def NoExc (Φ : Res → Prop) : Res → Prop
  | .next σ ow => Φ (.next σ ow)
  | .brk σ ow => Φ (.brk σ ow)
  | .ret d => Φ (.ret d)
  | .exc _ => False
theorem Sp.tryOk {body : List Stmt} {h₀ : ExceptHandler} {hs : List ExceptHandler} {pos : Pos} {Φ : Res → Prop} (h : WP C lv sc body σ ow (NoExc Φ)) : Sp C lv sc (.Try body (h₀ :: hs) [] [] pos) σ ow Φ := by
  intro P s Q E R F K
  refine wpAny_Try_except (h P s _ _ R F ⟨?_, ?_, ?_, ?_⟩)
  · intro σ' ow' oa h' tk f F' c o
    exact wpAny_execs_nil (K.next σ' ow' oa h' tk f F' c o)
  · intro σ' ow' oa h' tk f F' c o
    exact K.brk σ' ow' oa h' tk f F' c o
  · intro v d h' tk f r S c
    exact K.ret v d h' tk f r S c
  · intro e cls args h₁ h' tk f
    exact f.elim

theorem ext_of_fly {l : List Env} {A : Around} {h h' B : Heap} (S : Stk C A l h) (k : ∀ b o, h.get? b = some o → b ∉ frsOf l → B.get? b = some o) (st : B.StaysIn h') (u : h.UpToSlots h') : Ext (frsOf l) h h' :=
  ⟨fun b o e m => st b o (k b o e m), fun b o e m => by
    obtain ⟨o', es, n, e', hd⟩ := S.dicts b m
    rw [e] at e'; cases e'
    exact u b o e fun vs q => by rw [hd] at q; cases q⟩

theorem Sp.tryExc {x f T y : Str} {p fp cp ap tp yp kp hp hpos pos : Pos} {k kk : Nat} {e : Expr} {es : List Expr} {ds : List PyData} {cls : String} {Φ : Res → Prop} (ok : C.Ok) (ha : EvAll C lv sc (e :: es) σ ow ds) (hf : Raises C k f ds cls) (hk : k ≤ lv)
    (hexc : isSubtype (.type cls) (.type "BaseException") = pure true) (hnt : isSubtype (.type ((Manifest.find? cls).elim "type" fun x => x.metatype)) (.type "tuple") = pure false) (hself : isSubtype (.type cls) (.type cls) = pure true)
    (hg : C.mg T = none) (hb : C.mb T = some (.type cls)) (h : Φ (.next ((y, .bool true) :: σ) ow)) (hy : ∀ z xs, ow = some (z, xs) → z ≠ y)
    (hlf : sc.names.lookup f = some .globalImplicit) (hlT : sc.names.lookup T = some .globalImplicit) (hly : sc.names.lookup y = some .local) (hs : sc.kind = .function) (hdf : (f == ("__debug__" : Str)) = false) (hdT : (T == ("__debug__" : Str)) = false)
    (he : ∀ env, starEach (e :: es) env = (false, eval e env) :: starEach es env := by intro _; with_unfolding_all rfl)
    (hsw : ∀ env, swapsWith (.Call (.Name f fp) (e :: es) [] cp) (some (.Name x p)) ap.line env = pure false := by intro _; with_unfolding_all rfl) :
    Sp C lv sc (.Try [.Assign [.Name x p] (.Call (.Name f fp) (e :: es) [] cp) ap] [.ExceptHandler (some (.Name T tp)) none [.Assign [.Name y yp] (.Constant (.bool true) kk kp) hp] hpos] [] [] pos) σ ow Φ := by
  intro P s Q E R F K
  obtain ⟨a, o, fd, hg', ho, hdat, hcall⟩ := hf
  refine wpAny_Try_except (wpAny_execs_cons (wpAny_Assign_Name ?_ (hsw _)))
  show wpAny _ _ (do callWith cp (← eval (.Name f fp) (P.env sc)) [] (backTo cp (starEach (e :: es) (P.env sc))) (backToKw cp (keywordEach [] (P.env sc)))) _ _ s
  refine wpAny_bind (glob_at ok F hg' hlf hs hdf ?_)
  refine callWith_function (o := o) (fd := fd) (evalArgs_cons (he _) (ha P s cp _ _ R F fun vs h₁ t₁ x₁ r₁ => ?_))
  have F₁ := F.ext' x₁
  refine ⟨⟨F₁.stk.base _ _ ho, hdat⟩, ?_⟩
  refine hcall P.A (P.l sc) P.OO _ _ _ _ (R.le hk) F₁.stk (liveOO F₁) r₁ fun ex h₂ t₂ fly => ?_
  obtain ⟨⟨B, t, hB, hkeep, hfl⟩, hup⟩ := fly
  refine wpAny_looks_onW (s := { s with heap := h₂, toks := t₂ }) F₁.stk.frames rfl hfl fun h₄ hheld₄ hsm₄ => ?_
  refine wpAny_landsW (s := { s with heap := h₄, toks := t₂ }) hheld₄ fun h₅ hfl₅ hsm₅ => ?_
  have x₅ : Ext P.fs h₁ h₅ := ext_of_fly F₁.stk hkeep hfl₅.1 ((Heap.UpToSlots.trans hup hsm₄).trans hsm₅)
  have F₅ := (F₁.ext' x₅).reA (A := P.A.mark (some (.ref ex))) rfl
  obtain ⟨ob, hob, hobc⟩ := hfl₅.there
  refine wpAny_handleBy_builtin (s := { s with heap := h₅, toks := t₂ }) (X := cls) (T := cls) (b := true) hexc hnt hself (built_at (P := { P with A := P.A.mark (some (.ref ex)) }) ok F₅ hg hb hlT hs hdT ⟨rfl, ⟨ob, hob, hobc⟩, ?_⟩)
  refine lands_againW (s := { s with heap := h₅, toks := t₂ }) hfl₅ fun h₆ hfl₆ hsm₆ => ?_
  have x₆ : Ext P.fs h₁ h₆ := ext_of_fly F₁.stk hkeep hfl₆.1 (((Heap.UpToSlots.trans hup hsm₄).trans hsm₅).trans hsm₆)
  have F₆ := (F₁.ext' x₆).reA (A := P.A.mark (some (.ref ex))) rfl
  refine wpAny_execs_cons (wpAny_Assign_Name (wpAny_Constant_bool (storeName_at (P := { P with A := P.A.mark (some (.ref ex)) }) (s := { s with heap := h₆, toks := t₂ }) (d := .bool true) F₆ (.bool true) hy hly hs fun h₇ t₇ F₇ c₇ => ?_)))
  have F₇' := F₇.reA (A := P.A) rfl
  have c₇' : Chg P h₆ h₇ := ⟨c₇.keep, c₇.slot, c₇.live⟩
  exact wpAny_execs_nil (K.next _ _ P.oa h₇ t₇ h F₇' ((Chg.of_ext (x₁.trans x₆)).trans (oa := P.oa) (OaOk.refl _ _) c₇') (OaOk.refl _ _))
end
end Mine

set_option maxRecDepth 100000
set_option autoImplicit false
set_option linter.unusedVariables false
namespace Mine
open PySem PySem.Calls PyProof.Rows

section
variable {C : Cx} {lv : Nat} {sc : Scope} {σ : Sg} {ow : Ow}

/-- names take values one behind the other -/
theorem stores {P : Pt} {E : Value → Shared → Prop} (act : Str → Value → Sem Unit) (hact : ∀ x v (Q : Unit → Shared → Prop) s, wpAny (model C.prog C.w) P.A (storeName (P.env sc) x v) Q E s → wpAny (model C.prog C.w) P.A (act x v) Q E s) :
    ∀ (xs : List Str) (vs : List Value) (ds : List PyData) (σ : Sg) (s : Shared) (Q : Unit → Shared → Prop), xs.length = ds.length → FS C sc P s.heap σ ow → RdAll P.OO s.heap vs ds →
    (∀ x ∈ xs, (∀ y zs, ow = some (y, zs) → y ≠ x) ∧ sc.names.lookup x = some .local) → sc.kind = .function →
    (∀ h' tk, FS C sc P h' ((xs.zip ds).reverse ++ σ) ow → Chg P s.heap h' → Q () { s with heap := h', toks := tk }) → wpAny (model C.prog C.w) P.A (assignInOrder (xs.map act) vs) Q E s
  | [], vs, ds, σ, s, Q, hl, F, r, hx, hk, k => by
    have : ds = [] := List.eq_nil_of_length_eq_zero hl.symm
    subst this
    exact wpAny_pure (k s.heap s.toks F (Chg.refl _ _))
  | x :: xs, vs, [], σ, s, Q, hl, F, r, hx, hk, k => by cases hl
  | x :: xs, vs, d :: ds, σ, s, Q, hl, F, r, hx, hk, k => by
    obtain ⟨v, ws, rfl, r1, r2⟩ := r.inv
    show wpAny _ _ (do holding ws (act x v); assignInOrder (xs.map act) ws) Q E s
    refine wpAny_bind (wpAny_holding (hact x v _ s ?_))
    obtain ⟨S, l, ob, m, hn, hv, ho⟩ := F
    refine store_nv (hx x (.head _)).2 hn (fun h' hn' hs => ?_) (by show (sc.kind == .class || (sc.kind == .module && _)) = false; rw [hk]; rfl)
    have F' := FS.store (C := C) (sc := sc) (σ := σ) S l ob hn hv ho r1 (hx x (.head _)).1 hn' hs
    have c := Chg.same hn' hs
    refine stores act hact xs ws ds ((x, d) :: σ) { s with heap := h', toks := s.toks + 1 } Q (by simpa using hl) F' (rdAll_same hn hs (List.mem_append_right _ (.head _)) r2) (fun y hy => hx y (.tail _ hy)) hk fun h₂ tk F₂ c₂ => ?_
    exact k h₂ tk (by simpa [List.zip_cons_cons] using F₂) (c.trans (oa := P.oa) (OaOk.refl _ _) c₂)
/-- the position of a target matters not -/
theorem assign_pos {x : Str} {p : Pos} {env : Env} : assign (.Name x p) env = fun v => (do standAt p; bindName env x v) := rfl
theorem Asg.tuple2 {x y : Str} {px py pos : Pos} {kk : Nat} {d e : PyData} (hx : ∀ z zs, ow = some (z, zs) → z ≠ x ∧ z ≠ y) (hlx : sc.names.lookup x = some .local) (hly : sc.names.lookup y = some .local) (hk : sc.kind = .function) :
    Asg C sc (.Tuple [.Name x px, .Name y py] kk pos) (.tuple [d, e]) σ ow ((y, e) :: (x, d) :: σ) := by
  intro P s v Q E R F r k
  obtain ⟨t, o, vs, n, rfl, h1, h2, h3, r₂⟩ := r.tupleInv
  have ht : s.heap.IsTuple t vs := ⟨o, h1, h2, n, h3⟩
  have hsz : vs.size = 2 := by rw [← Array.length_toList, r₂.length]; rfl
  refine wpAny_assign_Tuple R.handled ht (by rw [hsz]; rfl) rfl fun h' he => ?_
  have x₁ : Ext P.fs s.heap h' := .of_stays (extBut_stays he)
  obtain ⟨v1, v2, e1, r3, r4⟩ := r₂.two
  rw [e1]
  show wpAny _ _ (do holding [v2] (assign (.Name x px) (P.env sc) v1); (do holding [] (assign (.Name y py) (P.env sc) v2); pure ())) Q E _
  refine wpAny_bind (wpAny_holding (wpAny_assign_Name (storeName_at (s := { s with heap := h' }) (F.ext' x₁) (x₁.rd r3) (fun z zs q => (hx z zs q).1) hlx hk fun h₂ t₂ F₂ c₂ => ?_)))
  have r4' : Rd P.OO h₂ v2 e := by
    obtain ⟨as, rr, kk⟩ := x₁.rd r4
    refine ⟨as, reads_on rr fun b o e q => ?_, kk⟩
    by_cases z : b = P.L
    · exfalso
      rcases q with q | ⟨_, ws, n, q⟩
      · exact kk _ q (z ▸ List.mem_append_right _ (.head _))
      · obtain ⟨_, _, _, m, ⟨o', es, ep, e', hd, _⟩, _⟩ := F.ext' x₁
        rw [z, e'] at e; cases e; rw [hd] at q; cases q
    · by_cases w : P.oa = some b
      · exfalso
        rcases q with q | ⟨q, _⟩
        · exact kk _ q (List.mem_append_left _ (by rw [w]; exact .head _))
        · obtain ⟨_, _, _, e'⟩ := (F.ext' x₁).own_off b w
          rw [e] at e'; cases e'; exact absurd (Value.type.inj q) (by decide)
      · obtain ⟨sl, e'⟩ := c₂.slot b o e z w
        exact ⟨_, e', rfl, rfl⟩
  refine wpAny_bind (wpAny_holding (wpAny_assign_Name (storeName_at (s := { s with heap := h₂, toks := t₂ }) F₂ r4' (fun z zs q => (hx z zs q).2) hly hk fun h₃ t₃ F₃ c₃ => ?_)))
  exact wpAny_pure (k h₃ t₃ F₃ (((Chg.of_ext x₁).trans (oa := P.oa) (OaOk.refl _ _) c₂).trans (oa := P.oa) (OaOk.refl _ _) c₃))
/-- the data stay under a statement's change -/
theorem Chg.rd {P : Pt} {h h' : Heap} {v : Value} {d : PyData} (F : FS C sc P h σ ow) (c : Chg P h h') : Rd P.OO h v d → Rd P.OO h' v d
  | ⟨as, rr, kk⟩ => by
    refine ⟨as, reads_on rr fun b o e q => ?_, kk⟩
    by_cases z : b = P.L
    · exfalso
      rcases q with q | ⟨_, ws, n, q⟩
      · exact kk _ q (z ▸ List.mem_append_right _ (.head _))
      · obtain ⟨_, _, _, m, ⟨o', es, ep, e', hd, _⟩, _⟩ := F
        rw [z, e'] at e; cases e; rw [hd] at q; cases q
    · by_cases w : P.oa = some b
      · exfalso
        rcases q with q | ⟨q, _⟩
        · exact kk _ q (List.mem_append_left _ (by rw [w]; exact .head _))
        · obtain ⟨_, _, _, e'⟩ := F.own_off b w
          rw [e] at e'; cases e'; exact absurd (Value.type.inj q) (by decide)
      · obtain ⟨sl, e'⟩ := c.slot b o e z w
        exact ⟨_, e', rfl, rfl⟩
theorem Asg.tuple3 {x y z : Str} {px py pz pos : Pos} {kk : Nat} {d e f : PyData} (hx : ∀ u zs, ow = some (u, zs) → u ≠ x ∧ u ≠ y ∧ u ≠ z) (hlx : sc.names.lookup x = some .local) (hly : sc.names.lookup y = some .local) (hlz : sc.names.lookup z = some .local) (hk : sc.kind = .function) :
    Asg C sc (.Tuple [.Name x px, .Name y py, .Name z pz] kk pos) (.tuple [d, e, f]) σ ow ((z, f) :: (y, e) :: (x, d) :: σ) := by
  intro P s v Q E R F r k
  obtain ⟨t, o, vs, n, rfl, h1, h2, h3, r₂⟩ := r.tupleInv
  have ht : s.heap.IsTuple t vs := ⟨o, h1, h2, n, h3⟩
  have hsz : vs.size = 3 := by rw [← Array.length_toList, r₂.length]; rfl
  refine wpAny_assign_Tuple R.handled ht (by rw [hsz]; rfl) rfl fun h' he => ?_
  have x₁ : Ext P.fs s.heap h' := .of_stays (extBut_stays he)
  obtain ⟨v1, ws, e1, r3, r5⟩ := r₂.inv
  obtain ⟨v2, v3, rfl, r4, r6⟩ := r5.two
  rw [e1]
  show wpAny _ _ (do holding [v2, v3] (assign (.Name x px) (P.env sc) v1); (do holding [v3] (assign (.Name y py) (P.env sc) v2); (do holding [] (assign (.Name z pz) (P.env sc) v3); pure ()))) Q E _
  refine wpAny_bind (wpAny_holding (wpAny_assign_Name (storeName_at (s := { s with heap := h' }) (F.ext' x₁) (x₁.rd r3) (fun z zs q => (hx z zs q).1) hlx hk fun h₂ t₂ F₂ c₂ => ?_)))
  have q4 := Chg.rd (F.ext' x₁) c₂ (x₁.rd r4)
  have q6 := Chg.rd (F.ext' x₁) c₂ (x₁.rd r6)
  refine wpAny_bind (wpAny_holding (wpAny_assign_Name (storeName_at (s := { s with heap := h₂, toks := t₂ }) F₂ q4 (fun z zs q => (hx z zs q).2.1) hly hk fun h₃ t₃ F₃ c₃ => ?_)))
  have p6 := Chg.rd F₂ c₃ q6
  refine wpAny_bind (wpAny_holding (wpAny_assign_Name (storeName_at (s := { s with heap := h₃, toks := t₃ }) F₃ p6 (fun z zs q => (hx z zs q).2.2) hlz hk fun h₄ t₄ F₄ c₄ => ?_)))
  exact wpAny_pure (k h₄ t₄ F₄ ((((Chg.of_ext x₁).trans (oa := P.oa) (OaOk.refl _ _) c₂).trans (oa := P.oa) (OaOk.refl _ _) c₃).trans (oa := P.oa) (OaOk.refl _ _) c₄))
theorem Sp.unpack {ts : List Expr} {kk : Nat} {tp pos : Pos} {e : Expr} {d : PyData} {σ' : Sg} {Φ : Res → Prop} (he : Ev C lv sc e σ ow d) (ha : Asg C sc (.Tuple ts kk tp) d σ ow σ') (h : Φ (.next σ' ow))
    (hs : ∀ P : Pt, swapsWithSole [.Tuple ts kk tp] e pos.line (P.env sc) = pure false := by intro _; with_unfolding_all rfl) (hw : ∀ P : Pt, swappedStores [.Tuple ts kk tp] e (P.env sc) = pure none := by intro _; with_unfolding_all rfl) : Sp C lv sc (.Assign [.Tuple ts kk tp] e pos) σ ow Φ := by
  intro P s Q E R F K
  refine Assign_Tuple (he P s _ _ R F fun v h₁ t₁ x₁ r₁ => ?_) (hs P) (hw P)
  exact ha P _ v _ _ R.zero (F.ext' x₁) r₁ fun h₂ t₂ F₂ c₂ => K.next _ _ P.oa h₂ t₂ h F₂ ((Chg.of_ext x₁).trans (oa := P.oa) (OaOk.refl _ _) c₂) (OaOk.refl _ _)
/-- x, y = (a, b): the stores go backwards -/
theorem Sp.swap2 {ts : List Expr} {kk : Nat} {tp pos : Pos} {e : Expr} {x y : Str} {d₁ d₂ : PyData} {Φ : Res → Prop} (he : Ev C lv sc e σ ow (.tuple [d₁, d₂])) (h : Φ (.next ((x, d₁) :: (y, d₂) :: σ) ow)) (hx : ∀ z zs, ow = some (z, zs) → z ≠ x ∧ z ≠ y) (hlx : sc.names.lookup x = some .local) (hly : sc.names.lookup y = some .local) (hk : sc.kind = .function)
    (hs : ∀ P : Pt, swapsWithSole [.Tuple ts kk tp] e pos.line (P.env sc) = pure false := by intro _; with_unfolding_all rfl) (hw : ∀ P : Pt, swappedStores [.Tuple ts kk tp] e (P.env sc) = pure (some [x, y]) := by intro _; with_unfolding_all rfl) : Sp C lv sc (.Assign [.Tuple ts kk tp] e pos) σ ow Φ := by
  intro P s Q E R F K
  refine Assign_Tuple_swapped (he P s _ _ R F fun v h₁ t₁ x₁ r₁ => ?_) (hs P) (hw P)
  obtain ⟨t, o, vs, n, rfl, h1, h2, h3, r₂⟩ := r₁.tupleInv
  have ht : h₁.IsTuple t vs := ⟨o, h1, h2, n, h3⟩
  have hsz : vs.size = 2 := by rw [← Array.length_toList, r₂.length]; rfl
  have hu := wpAny_unpackItems_tuple (prog := C.prog) (w := C.w) (A := P.A) (E := E) (s := { s with heap := h₁, toks := t₁ }) (Q := fun items s₂ => wpAny (model C.prog C.w) P.A (assignInOrder ([x, y].reverse.map fun n => bindName (P.env sc) n) items.reverse) (fun _ => Q .next) E s₂) R.handled ht fun h' he => ?_
  · rw [hsz] at hu; exact hu
  have x₂ : Ext P.fs h₁ h' := .of_stays (extBut_stays he)
  have F₂ := (F.ext' x₁).ext' x₂
  have hr := (x₂.rdAll r₂).reverse
  refine stores (C := C) (sc := sc) (ow := ow) (P := P) (fun n v => bindName (P.env sc) n v) (fun x v Q s h => wpAny_bindName h) [y, x] vs.toList.reverse [d₂, d₁] σ { s with heap := h', toks := t₁ } _ rfl F₂ hr (fun z hz => ?_) hk fun h₃ t₃ F₃ c₃ => ?_
  · simp only [List.mem_cons, List.not_mem_nil, or_false] at hz
    rcases hz with rfl | rfl
    · exact ⟨fun u zs q => (hx u zs q).2, hly⟩
    · exact ⟨fun u zs q => (hx u zs q).1, hlx⟩
  · exact K.next _ _ P.oa h₃ t₃ h F₃ ((Chg.of_ext (x₁.trans x₂)).trans (oa := P.oa) (OaOk.refl _ _) c₃) (OaOk.refl _ _)

/-- a slice -/
def pick (ds : List PyData) (lo hi st : Option Int) : List PyData := (sliceRange (sliceBounds lo hi st ds.length).1 (sliceBounds lo hi st ds.length).2.1 (sliceBounds lo hi st ds.length).2.2).filterMap (ds[·]?)
theorem RdAll.picked {O : List Addr} {h : Heap} {vs : List Value} {ds : List PyData} (r : RdAll O h vs ds) : ∀ is : List Nat, RdAll O h (is.filterMap (vs[·]?)) (is.filterMap (ds[·]?))
  | [] => .nil
  | i :: is => by
    have ih := r.picked is
    cases q : ds[i]? with
    | none =>
      have : vs[i]? = none := by
        rw [List.getElem?_eq_none_iff] at q ⊢
        rw [r.length]; exact q
      simp only [List.filterMap_cons, q, this]
      exact ih
    | some d =>
      obtain ⟨v, e, rv⟩ := r.get i d q
      simp only [List.filterMap_cons, q, e]
      exact .cons rv ih
/-- a part of a slice -/
def Prt (C : Cx) (lv : Nat) (sc : Scope) (e : Option Expr) (σ : Sg) (ow : Ow) (i : Option Int) : Prop :=
  ∀ (P : Pt) (s : Shared) (Q E : Value → Shared → Prop), Room P.A lv → FS C sc P s.heap σ ow → (∀ v h' tk, Ext P.fs s.heap h' → IsPart v i → Q v { s with heap := h', toks := tk }) → wpAny (model C.prog C.w) P.A (evalPart e (P.env sc)) Q E s
theorem Prt.none : Prt C lv sc .none σ ow .none := fun P s Q E R F k => wpAny_pure (k _ s.heap s.toks (Ext.refl _ _) .none)
theorem Prt.some {e : Expr} {i : Int} (h : Ev C lv sc e σ ow (.int i)) : Prt C lv sc (.some e) σ ow (.some i) := fun P s Q E R F k => h P s _ _ R F fun v h₁ t₁ x₁ r₁ => by
  obtain ⟨t, rfl⟩ := r₁.intInv
  exact k _ h₁ t₁ x₁ (.int _ _)
theorem Ev.slice {v : Expr} {lower upper step : Option Expr} {p pos : Pos} {ds : List PyData} {lo hi st : Option Int} (hv : Ev C lv sc v σ ow (.list ds)) (hl : Prt C lv sc lower σ ow lo) (hu : Prt C lv sc upper σ ow hi) (hs : Prt C lv sc step σ ow st) (h0 : st ≠ Option.some 0) (hsz : ds.length ≤ sizeLine)
    (ho : ∀ o j, ∃ ops, subscripted (.Slice lower upper step p) false o j = operate ops (getItem o j) := by intro _ _; with_unfolding_all exact ⟨_, rfl⟩) : Ev C lv sc (.Subscript v (.Slice lower upper step p) pos) σ ow (.list (pick ds lo hi st)) := by
  intro P s Q E R F k
  refine Subscript_ (hv P s _ _ R F fun u h₁ t₁ x₁ r₁ => ?_)
  have F₁ := F.ext' x₁
  refine wpAny_Slice (hl P _ _ _ R F₁ fun a h₂ t₂ x₂ p₂ => ?_)
  have F₂ := F₁.ext' x₂
  refine hu P _ _ _ R F₂ fun b h₃ t₃ x₃ p₃ => ?_
  have F₃ := F₂.ext' x₃
  refine hs P _ _ _ R F₃ fun c h₄ t₄ x₄ p₄ => ?_
  have F₄ := F₃.ext' x₄
  obtain ⟨l, o, vs, n, rfl, e1, e2, e3, hO, r₂⟩ := (((x₂.trans x₃).trans x₄).rd r₁).listInv
  have hL : h₄.IsList l vs := ⟨o, e1, e2, n, e3⟩
  have hsz' : vs.size ≤ sizeLine := by rw [← Array.length_toList, r₂.length]; exact hsz
  obtain ⟨ops, hops⟩ := ho (.ref l) (.ref h₄.objs.size)
  have x₅ := ((x₁.trans x₂).trans x₃).trans x₄
  refine subTail (s := { s with heap := h₄.push _, toks := t₄ }) (Heap.IsList.typeIs (s := { s with heap := h₄.push _, toks := t₄ }) (hL.push _)) slot_list_getitem.lookup (wpAny_getItem_list_slice (s := { s with heap := h₄.push { cls := .type "slice", data := .fields #[a, b, c] }, toks := t₄ }) (hL.push _) (Heap.IsSliceOf.new ..) p₂ p₃ p₄ h0 ?_ hsz') hops
  refine k _ _ t₄ ((x₅.push _).push _) (Rd.list (Heap.get?_push_size _ rfl) rfl rfl (liveOO (F₄.ext' ((Ext.refl _ _).push _))).fresh ?_)
  have e : (slicePick vs lo hi st).toList = (sliceRange (sliceBounds lo hi st ds.length).1 (sliceBounds lo hi st ds.length).2.1 (sliceBounds lo hi st ds.length).2.2).filterMap (vs.toList[·]?) := by
    have : vs.size = ds.length := by rw [← Array.length_toList, r₂.length]
    simp [slicePick, this]
  rw [e]
  exact ((((Ext.refl P.fs h₄).push _).push _).rdAll (r₂.picked _))
theorem Bin.addList {ds es : List PyData} (hsz : ds.length + es.length ≤ sizeLine) : Bin C .Add (.list ds) (.list es) (.list (ds ++ es)) := by
  intro A O s v u Q E R L _ r r' k
  obtain ⟨l, ⟨c1, d1, dt1, s1⟩, vs, n, rfl, e1, e2, e3, _, r₁⟩ := r.listInv
  obtain ⟨l2, ⟨c2, d2, dt2, s2⟩, ws, n2, rfl, f1, f2, f3, _, r₂⟩ := r'.listInv
  simp only at e2 e3 f2 f3
  subst e2 e3 f2 f3
  have h1 : vs.size = ds.length := by rw [← Array.length_toList, r₁.length]
  have h2 : ws.size = es.length := by rw [← Array.length_toList, r₂.length]
  refine concat_meets ⟨_, e1, rfl⟩ ⟨_, f1, rfl⟩ noFill_list_add seq_list_add PySem.F.slot_list_add PySem.F.entry_list_add (PySem.F.args_list_add_2 _ _) (list_addW l l2 vs ws n n2 d1 d2 s1 s2 (by omega)) ⟨e1, f1, ?_⟩
  refine k _ _ _ (stays_push _ _) (Rd.list (Heap.get?_push_size _ rfl) rfl rfl L.fresh ?_)
  rw [Array.toList_append]
  exact ((Ext.refl [] _).push _).rdAll (r₁.append r₂)
end
end Mine

set_option maxRecDepth 100000
set_option autoImplicit false
set_option linter.unusedVariables false
namespace Mine
open PySem PySem.Calls PyProof.Rows

def tyName : PyData → String
  | .none => "NoneType"
  | .bool _ => "bool"
  | .int _ => "int"
  | .str _ => "str"
  | .list _ => "list"
  | .tuple _ => "tuple"
  | .dict _ => "dict"
theorem Rd.typeIs {O : List Addr} {s : Shared} {v : Value} {d : PyData} (r : Rd O s.heap v d) : s.TypeIs v (tyName d) := by
  obtain ⟨_, r, _⟩ := r
  cases r with
  | list h1 h2 _ _ => exact ⟨_, h1, h2⟩
  | tuple h1 h2 _ _ => exact ⟨_, h1, h2⟩
  | dict h1 h2 _ _ _ => exact ⟨_, h1, h2⟩
  | _ => rfl
theorem tyName_ne (d : PyData) : (Value.type (tyName d) == Value.type "builtin_function_or_method") = false := by cases d <;> (show (Value.type _ == Value.type _) = false; simp only [tyName]; decide)

section
variable {C : Cx} {lv : Nat} {sc : Scope} {σ : Sg} {ow : Ow}
theorem typeIs_at {P : Pt} {s : Shared} {x T : Str} {p cp : Pos} {e : Expr} {d : PyData} {Tn : String} {Q E : Value → Shared → Prop} (ok : C.Ok) (R : Room P.A lv) (F : FS C sc P s.heap σ ow) (he : Ev C lv sc e σ ow d) (hg : C.mg x = none) (hb : C.mb x = some (.type "type")) (hgT : C.mg T = none) (hbT : C.mb T = some (.type Tn))
    (hl : sc.names.lookup x = some .globalImplicit) (hlT : sc.names.lookup T = some .globalImplicit) (hs : sc.kind = .function) (hd : (x == ("__debug__" : Str)) = false) (hdT : (T == ("__debug__" : Str)) = false)
    (hst : ∀ env, starEach [e] env = (false, eval e env) :: starEach [] env) (hp : ∀ env, (backTo cp (starEach [e] env)).any (·.1) = false)
    (k : ∀ h' tk, Ext P.fs s.heap h' → Q (.type (tyName d)) { s with heap := h', toks := tk }) :
    wpAny (model C.prog C.w) P.A (eval (.Call (.Name x p) [e] [] cp) (P.env sc)) Q E s := by
  refine callT ok R F hg hb (EvAll.cons he .nil hst) hl hs hd hst hp fun vs h₁ t₁ x₁ r₁ => ?_
  obtain ⟨v, rfl, r₂⟩ := r₁.one
  exact call_type_of (s := { s with heap := h₁, toks := t₁ }) (Rd.typeIs (s := { s with heap := h₁, toks := t₁ }) r₂) (tyName_ne d) (k h₁ t₁ x₁)
theorem Ev.typeIs {x T : Str} {p tp cp pos : Pos} {e : Expr} {d : PyData} {Tn : String} (ok : C.Ok) (he : Ev C lv sc e σ ow d) (hg : C.mg x = .none) (hb : C.mb x = some (.type "type")) (hgT : C.mg T = .none) (hbT : C.mb T = some (.type Tn))
    (hl : sc.names.lookup x = some .globalImplicit) (hlT : sc.names.lookup T = some .globalImplicit) (hs : sc.kind = .function) (hd : (x == ("__debug__" : Str)) = false) (hdT : (T == ("__debug__" : Str)) = false)
    (hst : ∀ env, starEach [e] env = (false, eval e env) :: starEach [] env := by intro _; with_unfolding_all rfl) (hp : ∀ env, (backTo cp (starEach [e] env)).any (·.1) = false := by intro _; with_unfolding_all rfl) :
    Ev C lv sc (.Compare (.Call (.Name x p) [e] [] cp) [.Is] [.Name T tp] pos) σ ow (.bool (decide (tyName d = Tn))) := by
  intro P s Q E R F k
  refine wpAny_Compare1 (typeIs_at ok R F he hg hb hgT hbT hl hlT hs hd hdT hst hp fun h₁ t₁ x₁ => ?_)
  refine built_at (s := { s with heap := h₁, toks := t₁ }) ok (F.ext' x₁) hgT hbT hlT hs hdT ?_
  refine wpAny_is_plain rfl ?_
  rw [show (Value.type (tyName d) == Value.type Tn) = decide (tyName d = Tn) from by by_cases h : tyName d = Tn <;> simp [h]]
  exact k _ h₁ t₁ x₁ (.bool _)
theorem Tst.typeIs {x T : Str} {p tp cp pos : Pos} {e : Expr} {d : PyData} {Tn : String} (ok : C.Ok) (he : Ev C lv sc e σ ow d) (hg : C.mg x = none) (hb : C.mb x = some (.type "type")) (hgT : C.mg T = none) (hbT : C.mb T = some (.type Tn))
    (hl : sc.names.lookup x = some .globalImplicit) (hlT : sc.names.lookup T = some .globalImplicit) (hs : sc.kind = .function) (hd : (x == ("__debug__" : Str)) = false) (hdT : (T == ("__debug__" : Str)) = false)
    (hst : ∀ env, starEach [e] env = (false, eval e env) :: starEach [] env := by intro _; with_unfolding_all rfl) (hp : ∀ env, (backTo cp (starEach [e] env)).any (·.1) = false := by intro _; with_unfolding_all rfl) :
    Tst C lv sc (.Compare (.Call (.Name x p) [e] [] cp) [.Is] [.Name T tp] pos) σ ow (decide (tyName d = Tn)) := by
  intro P s Q E R F k
  refine wpAny_isTrue_Compare1 (typeIs_at ok R F he hg hb hgT hbT hl hlT hs hd hdT hst hp fun h₁ t₁ x₁ => ?_)
  refine built_at (s := { s with heap := h₁, toks := t₁ }) ok (F.ext' x₁) hgT hbT hlT hs hdT ?_
  refine wpAny_is_plain rfl ?_
  rw [show (Value.type (tyName d) == Value.type Tn) = decide (tyName d = Tn) from by by_cases h : tyName d = Tn <;> simp [h]]
  exact wpAny_truthy_bool (k h₁ t₁ x₁)
theorem Tst.typeIsNot {x T : Str} {p tp cp pos : Pos} {e : Expr} {d : PyData} {Tn : String} (ok : C.Ok) (he : Ev C lv sc e σ ow d) (hg : C.mg x = none) (hb : C.mb x = some (.type "type")) (hgT : C.mg T = none) (hbT : C.mb T = some (.type Tn))
    (hl : sc.names.lookup x = some .globalImplicit) (hlT : sc.names.lookup T = some .globalImplicit) (hs : sc.kind = .function) (hd : (x == ("__debug__" : Str)) = false) (hdT : (T == ("__debug__" : Str)) = false)
    (hst : ∀ env, starEach [e] env = (false, eval e env) :: starEach [] env := by intro _; with_unfolding_all rfl) (hp : ∀ env, (backTo cp (starEach [e] env)).any (·.1) = false := by intro _; with_unfolding_all rfl) :
    Tst C lv sc (.Compare (.Call (.Name x p) [e] [] cp) [.IsNot] [.Name T tp] pos) σ ow (!decide (tyName d = Tn)) := by
  intro P s Q E R F k
  refine wpAny_isTrue_Compare1 (typeIs_at ok R F he hg hb hgT hbT hl hlT hs hd hdT hst hp fun h₁ t₁ x₁ => ?_)
  refine built_at (s := { s with heap := h₁, toks := t₁ }) ok (F.ext' x₁) hgT hbT hlT hs hdT ?_
  refine wpAny_isNot_plain rfl ?_
  rw [show (Value.type (tyName d) == Value.type Tn) = decide (tyName d = Tn) from by by_cases h : tyName d = Tn <;> simp [h]]
  exact wpAny_truthy_bool (k h₁ t₁ x₁)
theorem rdAll_ints {O : List Addr} {h : Heap} : ∀ {vs : List Value} {ns : List Int}, RdAll O h vs (ns.map .int) → IntsAre vs ns
  | vs, [], r => by rw [r.invNil]; exact .nil
  | vs, n :: ns, r => by
    obtain ⟨v, ws, rfl, r1, r2⟩ := r.inv
    obtain ⟨t, rfl⟩ := r1.intInv
    exact .cons _ _ (rdAll_ints r2)
theorem Cmp.inInts {x : Int} {ns : List Int} : Cmp C .In (.int x) (.tuple (ns.map .int)) (ns.any (· == x)) := by
  intro A O s v u Q E R _ _ r r' k
  obtain ⟨t, rfl⟩ := r.intInv
  obtain ⟨a, o, vs, n, rfl, h1, h2, h3, r₂⟩ := r'.tupleInv
  exact in_tuple_ints ⟨o, h1, h2, n, h3⟩ (rdAll_ints r₂) (k s.heap s.toks (stays_refl _))
end
end Mine

set_option maxRecDepth 100000
set_option autoImplicit false
set_option linter.unusedVariables false
namespace Mine
open PySem PySem.Calls PyProof.Rows

/-- the text's own, read off its statements -/
def nameAt (p : Program) (i : Nat) : Str := match p.main.body[i]? with | some (.FunctionDef n ..) => n | _ => ""
def bodyAt (p : Program) (i : Nat) : List Stmt := match p.main.body[i]? with | some (.FunctionDef _ _ b ..) => b | _ => []
def paramsAt (p : Program) (i : Nat) : Arguments := match p.main.body[i]? with | some (.FunctionDef _ a ..) => a | _ => default
def scopeAt (p : Program) (i : Nat) : Scope := match p.main.body[i]? with | some (.FunctionDef _ _ _ _ _ _ s _ _ _) => s | _ => default

def Lk (σ : Sg) (x : Str) (d : PyData) : Prop := σ.lookup x = some d
theorem Lk.here {σ : Sg} {x : Str} {d : PyData} : Lk ((x, d) :: σ) x d := by show List.lookup _ _ = _; rw [List.lookup_cons, beq_self_eq_true]
theorem Lk.there {σ : Sg} {x y : Str} {c d : PyData} (h : (x == y) = false) (k : Lk σ x d) : Lk ((y, c) :: σ) x d := by show List.lookup _ _ = _; rw [List.lookup_cons, h]; exact k

/-- the world of a text: its defs, its tables, the built-in names that it reads -/
structure Wd (C : Cx) (p : Program) (glo : List (Str × PyData)) (blt : List (Str × Value)) : Prop where
  ok : C.Ok
  fn : ∀ i, (match p.main.body[i]? with | some (.FunctionDef ..) => true | _ => false) = true → IsFn C (nameAt p i) (paramsAt p i) (bodyAt p i) (scopeAt p i)
  glo : ∀ y ∈ glo, Glo C y.1 y.2
  blt : ∀ y ∈ blt, C.mg y.1 = none ∧ C.mb y.1 = some y.2

/-- how a name is read in a scope -/
structure Gl (sc : Scope) (x : Str) : Prop where
  imp : sc.names.lookup x = some .globalImplicit
  kind : sc.kind = .function
  dbg : (x == ("__debug__" : Str)) = false
structure Lo (sc : Scope) (x : Str) : Prop where
  loc : sc.names.lookup x = some .local
  kind : sc.kind = .function
  dbg : (x == ("__debug__" : Str)) = false

abbrev I (xs : List Int) : List PyData := xs.map PyData.int
abbrev L (xs : List Int) : PyData := .list (I xs)

section
variable {C : Cx} {p : Program} {glo : List (Str × PyData)} {blt : List (Str × Value)} {lv : Nat} {sc : Scope} {σ : Sg} {ow : Ow}

theorem Bin.modP {a b : Int} (h : 0 < b) : Bin C .Mod (.int a) (.int b) (.int (a % b)) := by
  have := Bin.fmod (C := C) (a := a) (b := b) (by omega)
  rwa [Int.fmod_eq_emod_of_nonneg _ (by omega)] at this
theorem Bin.divP {a b : Int} (h : 0 < b) (h' : b < 1073741824) : Bin C .FloorDiv (.int a) (.int b) (.int (a / b)) := by
  have := Bin.fdiv (C := C) (a := a) (b := b) (by omega) (PyProof.noPylong_small (by omega))
  rwa [Int.fdiv_eq_ediv_of_nonneg _ (by omega)] at this
theorem Bin.mulL {a b : Int} (h1 : -(2 ^ 64) < a) (h2 : a < 2 ^ 64) : Bin C .Mult (.int a) (.int b) (.int (a * b)) := Bin.mul (IntMulOk.of_left (intBits_le_64 h1 h2))
theorem Bin.mulR {a b : Int} (h1 : -(2 ^ 64) < b) (h2 : b < 2 ^ 64) : Bin C .Mult (.int a) (.int b) (.int (a * b)) := Bin.mul (IntMulOk.of_right (intBits_le_64 h1 h2))
theorem Bin.addI {xs ys : List Int} (h : xs.length + ys.length ≤ sizeLine) : Bin C .Add (L xs) (L ys) (L (xs ++ ys)) := by
  have := Bin.addList (C := C) (ds := I xs) (es := I ys) (by simpa using h)
  rwa [← List.map_append] at this
theorem Itm.listI {xs : List Int} {i : Int} (h0 : 0 ≤ i) (h1 : i < xs.length) (hb : xs.length < 2 ^ 60) : Itm C (L xs) i (.int (xs.getD i.toNat 0)) :=
  Itm.list h0 (by omega) (by
    have h : i.toNat < xs.length := by omega
    simp [h])
theorem Itm.at0 {a : PyData} {ds : List PyData} : Itm C (.tuple (a :: ds)) 0 a := Itm.tuple (by decide) (by decide) rfl
theorem Itm.at1 {a b : PyData} {ds : List PyData} : Itm C (.tuple (a :: b :: ds)) 1 b := Itm.tuple (by decide) (by decide) rfl
theorem Itm.at2 {a b c : PyData} {ds : List PyData} : Itm C (.tuple (a :: b :: c :: ds)) 2 c := Itm.tuple (by decide) (by decide) rfl

theorem Ev.nm {x : Str} {pos : Pos} {d : PyData} (hσ : Lk σ x d) (l : Lo sc x) : Ev C lv sc (.Name x pos) σ ow d := Ev.name hσ l.loc l.kind l.dbg
theorem Ev.gl {x : Str} {pos : Pos} {d : PyData} (W : Wd C p glo blt) (hm : (x, d) ∈ glo) (g : Gl sc x) : Ev C lv sc (.Name x pos) σ ow d := Ev.glob W.ok (W.glo _ hm) g.imp g.kind g.dbg
theorem Ev.fn {x : Str} {q pos : Pos} {e : Expr} {es : List Expr} {ds : List PyData} {r : PyData} {k : Nat} (W : Wd C p glo blt) (ha : EvAll C lv sc (e :: es) σ ow ds) (hf : Gives C k x ds r) (hk : k ≤ lv) (g : Gl sc x)
    (he : ∀ env, starEach (e :: es) env = (false, eval e env) :: starEach es env := by intro _; with_unfolding_all rfl) : Ev C lv sc (.Call (.Name x q) (e :: es) [] pos) σ ow r := Ev.call W.ok hf ha hk g.imp g.kind g.dbg he
theorem Ev.len {x : Str} {q pos : Pos} {e : Expr} {ds : List PyData} (W : Wd C p glo blt) (hm : (x, Value.builtin "len") ∈ blt) (g : Gl sc x) (h : Ev C lv sc e σ ow (.list ds)) (hs : ds.length < 2 ^ 60)
    (he : ∀ env, starEach [e] env = (false, eval e env) :: starEach [] env := by intro _; with_unfolding_all rfl) (hp : ∀ env, (backTo pos (starEach [e] env)).any (·.1) = false := by intro _; with_unfolding_all rfl) : Ev C lv sc (.Call (.Name x q) [e] [] pos) σ ow (.int ds.length) :=
  Ev.blt W.ok (W.blt _ hm).1 (W.blt _ hm).2 (Blt.len hs) (EvAll.cons h .nil he) g.imp g.kind g.dbg he hp
theorem Ev.lenI {x : Str} {q pos : Pos} {e : Expr} {xs : List Int} (W : Wd C p glo blt) (hm : (x, Value.builtin "len") ∈ blt) (g : Gl sc x) (h : Ev C lv sc e σ ow (L xs)) (hs : xs.length < 2 ^ 60)
    (he : ∀ env, starEach [e] env = (false, eval e env) :: starEach [] env := by intro _; with_unfolding_all rfl) (hp : ∀ env, (backTo pos (starEach [e] env)).any (·.1) = false := by intro _; with_unfolding_all rfl) : Ev C lv sc (.Call (.Name x q) [e] [] pos) σ ow (.int xs.length) := by
  have := Ev.len (lv := lv) (sc := sc) (σ := σ) (ow := ow) (q := q) (pos := pos) W hm g h (by simpa using hs) he hp
  rwa [List.length_map] at this
theorem Ev.maxI {x : Str} {q pos : Pos} {e f : Expr} {a b : Int} (W : Wd C p glo blt) (hm : (x, Value.builtin "max") ∈ blt) (g : Gl sc x) (h : Ev C lv sc e σ ow (.int a)) (h' : Ev C lv sc f σ ow (.int b))
    (he : ∀ env, starEach [e, f] env = (false, eval e env) :: starEach [f] env := by intro _; with_unfolding_all rfl) (hf : ∀ env, starEach [f] env = (false, eval f env) :: starEach [] env := by intro _; with_unfolding_all rfl) (hp : ∀ env, (backTo pos (starEach [e, f] env)).any (·.1) = false := by intro _; with_unfolding_all rfl) :
    Ev C lv sc (.Call (.Name x q) [e, f] [] pos) σ ow (.int (max a b)) := by
  have := Ev.blt (lv := lv) (sc := sc) (σ := σ) (ow := ow) (p := q) (pos := pos) W.ok (W.blt _ hm).1 (W.blt _ hm).2 (Blt.max (a := a) (b := b)) (EvAll.cons h (EvAll.cons h' .nil hf) he) g.imp g.kind g.dbg he hp
  rwa [show (if b > a then b else a) = max a b by omega] at this
theorem Ev.absI {x : Str} {q pos : Pos} {e : Expr} {a : Int} (W : Wd C p glo blt) (hm : (x, Value.builtin "abs") ∈ blt) (g : Gl sc x) (h : Ev C lv sc e σ ow (.int a))
    (he : ∀ env, starEach [e] env = (false, eval e env) :: starEach [] env := by intro _; with_unfolding_all rfl) (hp : ∀ env, (backTo pos (starEach [e] env)).any (·.1) = false := by intro _; with_unfolding_all rfl) : Ev C lv sc (.Call (.Name x q) [e] [] pos) σ ow (.int a.natAbs) := by
  have := Ev.blt (lv := lv) (sc := sc) (σ := σ) (ow := ow) (p := q) (pos := pos) W.ok (W.blt _ hm).1 (W.blt _ hm).2 (Blt.abs (a := a)) (EvAll.cons h .nil he) g.imp g.kind g.dbg he hp
  rwa [show (if a < 0 then -a else a) = (a.natAbs : Int) by omega] at this
/-- a display of ints -/
def EvI (C : Cx) (lv : Nat) (sc : Scope) (es : List Expr) (σ : Sg) (ow : Ow) (xs : List Int) : Prop := EvAll C lv sc es σ ow (I xs)
theorem EvI.nil : EvI C lv sc [] σ ow [] := EvAll.nil
theorem EvI.cons {e : Expr} {es : List Expr} {x : Int} {xs : List Int} (h : Ev C lv sc e σ ow (.int x)) (h' : EvI C lv sc es σ ow xs) (he : ∀ env, starEach (e :: es) env = (false, eval e env) :: starEach es env := by intro _; with_unfolding_all rfl) : EvI C lv sc (e :: es) σ ow (x :: xs) := EvAll.cons h h' he
theorem Ev.listI {es : List Expr} {pos : Pos} {xs : List Int} (h : EvI C lv sc es σ ow xs) (hs : xs.length ≤ sizeLine) : Ev C lv sc (.List es pos) σ ow (L xs) := Ev.list h (by simpa using hs)
theorem EvNew.listI {es : List Expr} {pos : Pos} {xs : List Int} (h : EvI C lv sc es σ ow xs) (hs : xs.length ≤ sizeLine) : EvNew C lv sc (.List es pos) σ ow (I xs) := EvNew.list h (by simpa using hs)
theorem EvNew.repI {e r : Expr} {q pos : Pos} {d : Int} {n : Int} (he : Ev C lv sc e σ ow (.int d)) (hr : Ev C lv sc r σ ow (.int n)) (hn : n ≤ 2 ^ 24) (hn' : 0 ≤ n) (hst : ∀ env, starEach [e] env = (false, eval e env) :: starEach [] env := by intro _; with_unfolding_all rfl) :
    EvNew C lv sc (.BinOp (.List [e] q) .Mult r pos) σ ow (I (List.replicate n.toNat d)) := by
  have := EvNew.rep (C := C) (lv := lv) (sc := sc) (σ := σ) (ow := ow) (p := q) (pos := pos) he hr hn (by omega) hst
  simpa [I, List.map_replicate] using this
theorem pick_take (ds : List PyData) (n : Int) (h0 : 0 ≤ n) : pick ds none (some n) none = ds.take n.toNat := by
  have e : sliceBounds none (some n) none ds.length = (((0 : Nat) : Int), ((min n.toNat ds.length : Nat) : Int), 1) := by
    simp only [sliceBounds, Option.getD_none]
    have h2 : ¬ (n < 0) := by omega
    simp only [h2, if_false, show (1 : Int) > 0 by decide, if_true]
    congr 1
    congr 1; omega
  unfold pick
  rw [e]
  simp only [sliceRange_one]
  have := pick_run ds.toArray 0 (min n.toNat ds.length - 0)
  simp only [List.drop_zero, Nat.sub_zero] at this ⊢
  rw [show (fun x => ds[x]?) = (fun x => ds.toArray[x]?) from by funext x; simp]
  rw [this]
  simp only [Nat.min_def]
  split
  · rfl
  · rw [List.take_of_length_le (Nat.le_refl _), List.take_of_length_le (by omega)]
theorem pick_drop (ds : List PyData) (n : Int) (h0 : 0 ≤ n) : pick ds (some n) none none = ds.drop n.toNat := by
  have e : sliceBounds (some n) none none ds.length = (((min n.toNat ds.length : Nat) : Int), (ds.length : Int), 1) := by
    simp only [sliceBounds, Option.getD_none]
    have h2 : ¬ (n < 0) := by omega
    simp only [h2, if_false, show (1 : Int) > 0 by decide, if_true]
    congr 1
    omega
  unfold pick
  rw [e]
  simp only [sliceRange_one]
  have := pick_run ds.toArray (min n.toNat ds.length) (ds.length - min n.toNat ds.length)
  rw [show (fun x => ds[x]?) = (fun x => ds.toArray[x]?) from by funext x; simp]
  rw [this]
  simp only
  rw [List.take_of_length_le (by simp)]
  simp only [Nat.min_def]
  split
  · rfl
  · rw [List.drop_of_length_le (Nat.le_refl _), List.drop_of_length_le (by omega)]
theorem pick_all (ds : List PyData) : pick ds none none none = ds := by
  have e : sliceBounds none none none ds.length = (((0 : Nat) : Int), (ds.length : Int), 1) := by simp [sliceBounds]
  unfold pick
  rw [e]
  simp only [sliceRange_one]
  have := pick_run ds.toArray 0 (ds.length - 0)
  rw [show (fun x => ds[x]?) = (fun x => ds.toArray[x]?) from by funext x; simp]
  rw [this]
  simp
theorem filterMap_getD (ds : List PyData) : ∀ (l : List Nat), (∀ k ∈ l, k < ds.length) → l.filterMap (fun x => ds[x]?) = l.map (fun k => ds.getD k .none)
  | [], _ => rfl
  | k :: l, h => by
    have hk := h k (.head _)
    rw [List.filterMap_cons, List.map_cons, filterMap_getD ds l fun k m => h k (.tail _ m)]
    simp [hk]
theorem pick_rev (ds : List PyData) : pick ds none none (some (-1)) = ds.reverse := by
  have e : sliceBounds none none (some (-1)) ds.length = ((ds.length : Int) - 1, -1, -1) := by simp [sliceBounds]
  unfold pick
  rw [e]
  simp only [sliceRange, show ¬ ((-1 : Int) > 0) by decide, if_false]
  have hc : (if (ds.length : Int) - 1 > -1 then ((ds.length : Int) - 1 - -1 - -1 - 1) / (- -1) else 0) = (ds.length : Int) := by
    split
    · simp
    · omega
  rw [hc]
  simp only [Int.toNat_natCast]
  rw [filterMap_getD _ _ (fun k hk => by
    obtain ⟨i, hi, rfl⟩ := List.mem_map.mp hk
    simp only [List.mem_range] at hi
    omega)]
  apply List.ext_getElem
  · simp
  · intro i h1 h2
    simp only [List.length_map, List.length_range] at h1
    simp only [List.getElem_map, List.getElem_range, List.getElem_reverse]
    rw [show ((ds.length : Int) - 1 + -1 * (i : Int)).toNat = ds.length - 1 - i by omega]
    have : ds.length - 1 - i < ds.length := by omega
    simp [this]
theorem Ev.sliceI {v : Expr} {lower upper step : Option Expr} {q pos : Pos} {xs ys : List Int} {lo hi st : Option Int} (hv : Ev C lv sc v σ ow (L xs)) (hl : Prt C lv sc lower σ ow lo) (hu : Prt C lv sc upper σ ow hi) (hs : Prt C lv sc step σ ow st) (h0 : st ≠ some 0) (hsz : xs.length ≤ sizeLine)
    (hp : pick (I xs) lo hi st = I ys) (ho : ∀ o j, ∃ ops, subscripted (.Slice lower upper step q) false o j = operate ops (getItem o j) := by intro _ _; with_unfolding_all exact ⟨_, rfl⟩) : Ev C lv sc (.Subscript v (.Slice lower upper step q) pos) σ ow (L ys) := by
  have := Ev.slice (pos := pos) hv hl hu hs h0 (by simpa using hsz) ho
  rwa [hp] at this
theorem Ev.takeI {v u : Expr} {q pos : Pos} {xs : List Int} {n : Int} (hv : Ev C lv sc v σ ow (L xs)) (hu : Ev C lv sc u σ ow (.int n)) (h0 : 0 ≤ n) (hsz : xs.length ≤ sizeLine) : Ev C lv sc (.Subscript v (.Slice none (some u) none q) pos) σ ow (L (xs.take n.toNat)) :=
  Ev.sliceI hv .none (.some hu) .none (by simp) hsz (by rw [pick_take _ _ h0, I, I, List.map_take])
theorem Ev.dropI {v u : Expr} {q pos : Pos} {xs : List Int} {n : Int} (hv : Ev C lv sc v σ ow (L xs)) (hu : Ev C lv sc u σ ow (.int n)) (h0 : 0 ≤ n) (hsz : xs.length ≤ sizeLine) : Ev C lv sc (.Subscript v (.Slice (some u) none none q) pos) σ ow (L (xs.drop n.toNat)) :=
  Ev.sliceI hv (.some hu) .none .none (by simp) hsz (by rw [pick_drop _ _ h0, I, I, List.map_drop])
theorem Ev.copyI {v : Expr} {q pos : Pos} {xs : List Int} (hv : Ev C lv sc v σ ow (L xs)) (hsz : xs.length ≤ sizeLine) : Ev C lv sc (.Subscript v (.Slice none none none q) pos) σ ow (L xs) :=
  Ev.sliceI hv .none .none .none (by simp) hsz (by rw [pick_all])
theorem Ev.revI {v u : Expr} {q pos : Pos} {xs : List Int} (hv : Ev C lv sc v σ ow (L xs)) (hu : Ev C lv sc u σ ow (.int (-1))) (hsz : xs.length ≤ sizeLine) : Ev C lv sc (.Subscript v (.Slice none none (some u) q) pos) σ ow (L xs.reverse) :=
  Ev.sliceI hv .none .none (.some hu) (by simp) hsz (by rw [pick_rev, I, I, List.map_reverse])

theorem flatI {xs : List Int} : ∀ d ∈ I xs, flat d = true := fun d h => by
  obtain ⟨_, _, rfl⟩ := List.mem_map.mp h; rfl
theorem Src.listI {e : Expr} {xs : List Int} (h : Ev C lv sc e σ ow (L xs)) : Src C lv sc e σ ow (I xs) := Src.list h flatI
theorem eqv_ints : ∀ xs ys : List Int, PyData.eqvAll (I xs) (I ys) = decide (xs = ys)
  | [], [] => rfl
  | [], _ :: _ => rfl
  | _ :: _, [] => rfl
  | x :: xs, y :: ys => by
    simp only [I, List.map_cons, PyData.eqvAll, PyData.eqv]
    rw [show PyData.eqvAll (xs.map .int) (ys.map .int) = decide (xs = ys) from eqv_ints xs ys]
    by_cases h1 : x = y <;> by_cases h2 : xs = ys <;> simp [h1, h2]
theorem lay_ints : ∀ xs : List Int, PyData.canLayAll0 (I xs) = true
  | [] => rfl
  | _ :: xs => by simp only [I, List.map_cons, PyData.canLayAll0, PyData.canLay0]; rw [show PyData.canLayAll0 (xs.map .int) = true from lay_ints xs]; rfl
theorem depth_ints : ∀ xs : List Int, PyData.depthAll (I xs) = 0
  | [] => rfl
  | _ :: xs => by simp only [I, List.map_cons, PyData.depthAll, PyData.depth]; rw [show PyData.depthAll (xs.map .int) = 0 from depth_ints xs]; rfl
end
end Mine

set_option autoImplicit false
set_option linter.unusedVariables false
namespace Mine

/-- the value of limbs, the least first -/
def val : List Int → Int
  | [] => 0
  | x :: xs => x + 10000 * val xs
/-- the limbs of a number -/
def dig (n : Nat) : List Int := if n = 0 then [] else ((n % 10000 : Nat) : Int) :: dig (n / 10000)
termination_by n
decreasing_by omega
theorem dig_zero : dig 0 = [] := by rw [dig]; simp
theorem dig_pos {n : Nat} (h : 0 < n) : dig n = ((n % 10000 : Nat) : Int) :: dig (n / 10000) := by
  rw [dig]; rw [if_neg (by omega)]
def Lim (xs : List Int) : Prop := ∀ x ∈ xs, 0 ≤ x ∧ x < 10000
def Nz (xs : List Int) : Prop := xs.getLast? ≠ some 0

theorem val_dig (n : Nat) : val (dig n) = (n : Int) := by
  induction n using Nat.strongRecOn with
  | _ n ih =>
    by_cases h : n = 0
    · subst h; rw [dig_zero]; rfl
    · rw [dig_pos (by omega), val, ih (n / 10000) (by omega)]; omega
theorem lim_dig (n : Nat) : Lim (dig n) := by
  induction n using Nat.strongRecOn with
  | _ n ih =>
    by_cases h : n = 0
    · subst h; rw [dig_zero]; intro x hx; cases hx
    · rw [dig_pos (by omega)]
      intro x hx
      rcases List.mem_cons.mp hx with rfl | hx
      · omega
      · exact ih (n / 10000) (by omega) x hx
theorem dig_nil_iff {n : Nat} : dig n = [] ↔ n = 0 := by
  constructor
  · intro h
    by_cases q : n = 0
    · exact q
    · rw [dig_pos (by omega)] at h; cases h
  · rintro rfl; exact dig_zero
theorem nz_dig (n : Nat) : Nz (dig n) := by
  induction n using Nat.strongRecOn with
  | _ n ih =>
    by_cases h : n = 0
    · subst h; rw [dig_zero]; intro q; cases q
    · rw [dig_pos (by omega)]
      unfold Nz
      by_cases q : n / 10000 = 0
      · rw [q, dig_zero]
        simp only [List.getLast?_singleton]
        intro e
        have := Option.some.inj e
        omega
      · have := ih (n / 10000) (by omega)
        unfold Nz at this
        obtain ⟨y, ys, e⟩ : ∃ y ys, dig (n / 10000) = y :: ys := by
          cases z : dig (n / 10000) with
          | nil => exact absurd (dig_nil_iff.mp z) q
          | cons y ys => exact ⟨y, ys, rfl⟩
        rw [e] at this ⊢
        rwa [List.getLast?_cons_cons]
theorem val_nonneg {xs : List Int} (h : Lim xs) : 0 ≤ val xs := by
  induction xs with
  | nil => exact Int.le_refl _
  | cons x xs ih =>
    have h1 := h x (.head _)
    have h2 := ih fun y hy => h y (.tail _ hy)
    unfold val; omega
theorem Lim.tail {x : Int} {xs : List Int} (h : Lim (x :: xs)) : Lim xs := fun y hy => h y (.tail _ hy)
theorem Lim.head {x : Int} {xs : List Int} (h : Lim (x :: xs)) : 0 ≤ x ∧ x < 10000 := h x (.head _)
theorem Lim.nil : Lim [] := fun _ h => nomatch h
theorem Lim.cons {x : Int} {xs : List Int} (h0 : 0 ≤ x) (h1 : x < 10000) (h : Lim xs) : Lim (x :: xs) := fun y hy => by
  rcases List.mem_cons.mp hy with rfl | hy
  · exact ⟨h0, h1⟩
  · exact h y hy
theorem Lim.append {xs ys : List Int} (h : Lim xs) (h' : Lim ys) : Lim (xs ++ ys) := fun y hy => (List.mem_append.mp hy).elim (h y) (h' y)
theorem Lim.of_append_left {xs ys : List Int} (h : Lim (xs ++ ys)) : Lim xs := fun y hy => h y (List.mem_append_left _ hy)
theorem Lim.snoc {x : Int} {xs : List Int} (h : Lim xs) (h0 : 0 ≤ x) (h1 : x < 10000) : Lim (xs ++ [x]) := h.append (Lim.cons h0 h1 Lim.nil)
theorem Lim.take {xs : List Int} (h : Lim xs) (n : Nat) : Lim (xs.take n) := fun y hy => h y (List.mem_of_mem_take hy)
theorem Lim.drop {xs : List Int} (h : Lim xs) (n : Nat) : Lim (xs.drop n) := fun y hy => h y (List.mem_of_mem_drop hy)
theorem Lim.getD {xs : List Int} (h : Lim xs) (i : Nat) : 0 ≤ xs.getD i 0 ∧ xs.getD i 0 < 10000 := by
  by_cases q : i < xs.length
  · have : xs.getD i 0 = xs[i] := by simp [q]
    rw [this]; exact h _ (List.getElem_mem q)
  · have : xs.getD i 0 = 0 := by simp [Nat.le_of_not_lt q]
    rw [this]; decide
theorem val_pos {xs : List Int} (h : Lim xs) (hz : Nz xs) (hne : xs ≠ []) : 0 < val xs := by
  induction xs with
  | nil => exact absurd rfl hne
  | cons x xs ih =>
    have h1 := h.head
    cases xs with
    | nil =>
      have : x ≠ 0 := fun e => hz (by rw [e]; rfl)
      show 0 < x + 10000 * 0; omega
    | cons y ys =>
      have := ih h.tail (by unfold Nz at hz ⊢; rwa [List.getLast?_cons_cons] at hz) (by simp)
      show 0 < x + 10000 * val (y :: ys); omega
/-- limbs are those of their value -/
theorem dig_val {xs : List Int} (h : Lim xs) (hz : Nz xs) : dig (val xs).toNat = xs := by
  induction xs with
  | nil => exact dig_zero
  | cons x xs ih =>
    have hp := val_pos h hz (by simp)
    have h1 := h.head
    have h2 := val_nonneg h.tail
    have hz' : Nz xs := by
      cases xs with
      | nil => intro e; cases e
      | cons y ys => unfold Nz at hz ⊢; rwa [List.getLast?_cons_cons] at hz
    have ev : val (x :: xs) = x + 10000 * val xs := rfl
    rw [ev] at hp ⊢
    rw [dig_pos (by omega)]
    have e1 : (((x + 10000 * val xs).toNat % 10000 : Nat) : Int) = x := by omega
    have e2 : (x + 10000 * val xs).toNat / 10000 = (val xs).toNat := by omega
    rw [e1, e2, ih h.tail hz']
theorem val_inj {xs ys : List Int} (h : Lim xs) (hz : Nz xs) (h' : Lim ys) (hz' : Nz ys) (e : val xs = val ys) : xs = ys := by
  rw [← dig_val h hz, ← dig_val h' hz', e]
theorem eq_dig {xs : List Int} {n : Nat} (h : Lim xs) (hz : Nz xs) (e : val xs = n) : xs = dig n := by
  rw [← dig_val h hz, e]; simp

def trim : List Int → List Int
  | [] => []
  | x :: xs => match trim xs with
    | [] => if x = 0 then [] else [x]
    | y :: ys => x :: y :: ys
theorem trim_val (xs : List Int) : val (trim xs) = val xs := by
  induction xs with
  | nil => rfl
  | cons x xs ih =>
    unfold trim
    split
    · rename_i e
      rw [e] at ih
      split
      · rename_i z; subst z; show (0 : Int) = 0 + 10000 * val xs; rw [← ih]; rfl
      · show x + 10000 * 0 = x + 10000 * val xs; rw [← ih]; rfl
    · rename_i y ys e
      show x + 10000 * val (y :: ys) = x + 10000 * val xs
      rw [← ih, e]
theorem trim_lim {xs : List Int} (h : Lim xs) : Lim (trim xs) := by
  induction xs with
  | nil => exact h
  | cons x xs ih =>
    have ih := ih h.tail
    unfold trim
    split
    · split
      · exact Lim.nil
      · exact Lim.cons h.head.1 h.head.2 Lim.nil
    · rename_i y ys e
      rw [e] at ih
      exact Lim.cons h.head.1 h.head.2 ih
theorem trim_nz (xs : List Int) : Nz (trim xs) := by
  induction xs with
  | nil => intro e; cases e
  | cons x xs ih =>
    unfold trim
    split
    · split
      · intro e; cases e
      · rename_i z
        intro e
        exact z (Option.some.inj e)
    · rename_i y ys e
      rw [e] at ih
      unfold Nz at ih ⊢
      rwa [List.getLast?_cons_cons]
theorem trim_eq {xs : List Int} {n : Nat} (h : Lim xs) (e : val xs = n) : trim xs = dig n := eq_dig (trim_lim h) (trim_nz xs) (by rw [trim_val, e])
theorem trim_self {xs : List Int} (hz : Nz xs) : trim xs = xs := by
  induction xs with
  | nil => rfl
  | cons x xs ih =>
    have hz' : Nz xs := by
      cases xs with
      | nil => intro e; cases e
      | cons y ys => unfold Nz at hz ⊢; rwa [List.getLast?_cons_cons] at hz
    unfold trim
    rw [ih hz']
    cases xs with
    | nil =>
      have : x ≠ 0 := fun e => hz (by rw [e]; rfl)
      simp [this]
    | cons y ys => rfl
theorem trim_zeros {xs : List Int} (h : ∀ j, xs.getD j 0 = 0) : trim xs = [] := by
  induction xs with
  | nil => rfl
  | cons x xs ih =>
    have h0 := h 0
    have := ih fun j => by simpa using h (j + 1)
    unfold trim
    rw [this]
    simp at h0
    simp [h0]
theorem trim_take : ∀ (xs : List Int) (n : Nat), n ≤ xs.length → (∀ j, n ≤ j → xs.getD j 0 = 0) → (n = 0 ∨ xs.getD (n - 1) 0 ≠ 0) → xs.take n = trim xs
  | [], n, h, _, _ => by simp at h; subst h; rfl
  | x :: xs, 0, _, h, _ => by rw [trim_zeros fun j => h j (Nat.zero_le _)]; rfl
  | x :: xs, n + 1, hl, h, h' => by
    have hl' : n ≤ xs.length := by simpa using hl
    have h1 : ∀ j, n ≤ j → xs.getD j 0 = 0 := fun j hj => by simpa using h (j + 1) (by omega)
    have h2 : x :: xs.take n = x :: xs.take n := rfl
    rw [List.take_succ_cons]
    unfold trim
    by_cases q : n = 0
    · subst q
      rw [trim_zeros fun j => h1 j (Nat.zero_le _)]
      rcases h' with h' | h'
      · cases h'
      · simp at h'
        simp [h']
    · have ih := trim_take xs n hl' h1 (.inr (by
        rcases h' with h' | h'
        · cases h'
        · obtain ⟨m, rfl⟩ : ∃ m, n = m + 1 := ⟨n - 1, by omega⟩
          simpa using h'))
      rw [← ih]
      obtain ⟨m, rfl⟩ : ∃ m, n = m + 1 := ⟨n - 1, by omega⟩
      cases xs with
      | nil => simp at hl'
      | cons y ys => simp
theorem val_append (xs ys : List Int) : val (xs ++ ys) = val xs + 10000 ^ xs.length * val ys := by
  induction xs with
  | nil => simp [val]
  | cons x xs ih =>
    rw [List.cons_append, val, ih, val, List.length_cons, Int.pow_succ, Int.mul_add]
    have : (10000 : Int) ^ xs.length * 10000 * val ys = 10000 * (10000 ^ xs.length * val ys) := by
      rw [Int.mul_comm ((10000 : Int) ^ xs.length) 10000, Int.mul_assoc]
    omega
theorem val_snoc (xs : List Int) (x : Int) : val (xs ++ [x]) = val xs + 10000 ^ xs.length * x := by
  rw [val_append]; simp [val]
theorem val_lt {xs : List Int} (h : Lim xs) : val xs < 10000 ^ xs.length := by
  induction xs with
  | nil => simp [val]
  | cons x xs ih =>
    have := ih h.tail
    have := h.head
    rw [val, List.length_cons, Int.pow_succ]; omega
theorem pow_pos' (n : Nat) : (0 : Int) < 10000 ^ n := Int.pow_pos (by decide)
theorem len_dig {n k : Nat} (h : n < 10000 ^ k) : (dig n).length ≤ k := by
  induction k generalizing n with
  | zero =>
    have : n = 0 := by simpa using h
    subst this; rw [dig_zero]; exact Nat.le_refl _
  | succ k ih =>
    by_cases q : n = 0
    · subst q; rw [dig_zero]; exact Nat.zero_le _
    · rw [dig_pos (by omega), List.length_cons]
      have := ih (n := n / 10000) (by rw [Nat.pow_succ] at h; omega)
      omega
/-- what is small enough -/
def big : Nat := 10000 ^ 25
theorem len_big {n : Nat} (h : n < big) : (dig n).length ≤ 25 := len_dig h
theorem big_is : big = 10000000000000000000000000000000000000000000000000000000000000000000000000000000000000000000000000000 := by decide
theorem take_succ_getD (xs : List Int) (i : Nat) (h : i < xs.length) : xs.take (i + 1) = xs.take i ++ [xs.getD i 0] := by
  rw [List.take_add_one]
  simp [h]
theorem last_zero_val {xs : List Int} (h : Lim xs) (e : xs.getLast? = some 0) : val xs < 10000 ^ (xs.length - 1) := by
  obtain ⟨ys, rfl⟩ := List.getLast?_eq_some_iff.mp e
  rw [val_snoc]
  have := val_lt (h.of_append_left)
  simpa using this
theorem nz_of_ge {xs : List Int} (h : Lim xs) (hv : xs ≠ [] → 10000 ^ (xs.length - 1) ≤ val xs) : Nz xs := fun e => by
  have h1 := last_zero_val h e
  have h2 := hv (by intro q; rw [q] at e; cases e)
  omega
theorem dig_ge {n : Nat} (h : 0 < n) : (10000 : Int) ^ ((dig n).length - 1) ≤ n := by
  induction n using Nat.strongRecOn with
  | _ n ih =>
    rw [dig_pos h, List.length_cons, Nat.add_sub_cancel]
    by_cases q : n / 10000 = 0
    · rw [q, dig_zero]
      show (10000 : Int) ^ 0 ≤ n
      rw [Int.pow_zero]; omega
    · have := ih (n / 10000) (by omega) (by omega)
      have hl : 0 < (dig (n / 10000)).length := List.length_pos_iff.mpr fun e => q (dig_nil_iff.mp e)
      obtain ⟨k, hk⟩ : ∃ k, (dig (n / 10000)).length = k + 1 := ⟨(dig (n / 10000)).length - 1, by omega⟩
      rw [hk] at this ⊢
      rw [Nat.add_sub_cancel] at this
      rw [Int.pow_succ]
      omega
theorem pow_mono {i j : Nat} (h : i ≤ j) : (10000 : Int) ^ i ≤ 10000 ^ j := by
  obtain ⟨k, rfl⟩ := Nat.exists_eq_add_of_le h
  rw [Int.pow_add]
  have h1 := pow_pos' i
  have h2 := pow_pos' k
  have := Int.mul_le_mul_of_nonneg_left (show (1 : Int) ≤ 10000 ^ k by omega) (Int.le_of_lt h1)
  omega
theorem dig_lt (n : Nat) : (n : Int) < 10000 ^ (dig n).length := by
  have := val_lt (lim_dig n)
  rwa [val_dig] at this
theorem len_lt {m n : Nat} (h : (dig m).length < (dig n).length) : m < n := by
  have hn : 0 < n := by
    by_cases q : n = 0
    · subst q; rw [dig_zero] at h; simp at h
    · omega
  have h1 := dig_lt m
  have h2 := dig_ge hn
  have h3 := pow_mono (show (dig m).length ≤ (dig n).length - 1 by omega)
  omega
theorem len_le {m n : Nat} (h : m ≤ n) : (dig m).length ≤ (dig n).length := by
  by_cases q : (dig n).length < (dig m).length
  · have := len_lt q; omega
  · omega
theorem getD_cons_succ' (x : Int) (xs : List Int) (j : Nat) : (x :: xs).getD (j + 1) 0 = xs.getD j 0 := by simp
theorem ext_getD : ∀ {xs ys : List Int}, xs.length = ys.length → (∀ j : Nat, xs.getD j 0 = ys.getD j 0) → xs = ys
  | [], [], _, _ => rfl
  | [], _ :: _, h, _ => by simp at h
  | _ :: _, [], h, _ => by simp at h
  | x :: xs, y :: ys, h, k => by
    have h0 := k 0
    simp at h0
    have e : xs = ys := ext_getD (by simpa using h) fun j => by simpa using k (j + 1)
    rw [h0, e]
/-- the greatest place that differs decides -/
theorem val_lt_of_top : ∀ {xs ys : List Int} {i : Nat}, xs.length = ys.length → Lim xs → Lim ys → (∀ j, i < j → xs.getD j 0 = ys.getD j 0) → xs.getD i 0 < ys.getD i 0 → val xs < val ys
  | [], [], i, _, _, _, _, h => by simp at h
  | [], _ :: _, _, h, _, _, _, _ => by simp at h
  | _ :: _, [], _, h, _, _, _, _ => by simp at h
  | x :: xs, y :: ys, 0, hl, hx, hy, he, h => by
    have e : xs = ys := ext_getD (by simpa using hl) fun j => by simpa using he (j + 1) (by omega)
    subst e
    simp at h
    unfold val; omega
  | x :: xs, y :: ys, i + 1, hl, hx, hy, he, h => by
    have := val_lt_of_top (xs := xs) (ys := ys) (i := i) (by simpa using hl) hx.tail hy.tail (fun j hj => by simpa using he (j + 1) (by omega)) (by simpa using h)
    have h1 := hx.head
    have h2 := hy.head
    unfold val; omega
theorem take_of_ge (xs : List Int) {i : Nat} (h : xs.length ≤ i) : xs.take i = xs := List.take_of_length_le h
/-- one more limb of a number that may be shorter -/
theorem val_take_succ (xs : List Int) (i : Nat) : val (xs.take (i + 1)) = val (xs.take i) + 10000 ^ i * xs.getD i 0 := by
  by_cases h : i < xs.length
  · rw [take_succ_getD xs i h, val_snoc]
    rw [List.length_take, Nat.min_eq_left (Nat.le_of_lt h)]
  · rw [take_of_ge xs (by omega), take_of_ge xs (by omega)]
    have : xs.getD i 0 = 0 := by simp [Nat.le_of_not_lt h]
    rw [this]; omega
theorem getD_ge {xs : List Int} {i : Nat} (h : xs.length ≤ i) : xs.getD i 0 = 0 := by simp [h]
theorem snoc_nz {xs : List Int} {x : Int} (h : x ≠ 0) : Nz (xs ++ [x]) := by unfold Nz; simp [h]
end Mine

set_option maxRecDepth 100000
set_option autoImplicit false
set_option linter.unusedVariables false
namespace Mine
open PySem PySem.Calls PyProof.Rows

section
variable {C : Cx} {p : Program} {glo : List (Str × PyData)} {blt : List (Str × Value)} {lv : Nat} {sc : Scope} {σ : Sg} {ow : Ow} {rest : List Stmt} {Φ : Res → Prop}

/-- the owned list bears another name -/
def Off (ow : Ow) (x : Str) : Prop := ∀ y xs, ow = some (y, xs) → y ≠ x
theorem Off.none {x : Str} : Off none x := fun _ _ e => by cases e
theorem Off.some {x y : Str} {xs : List PyData} (h : (y == x) = false) : Off (some (y, xs)) x := fun _ _ e => by cases e; exact beq_eq_false_iff_ne.mp h

theorem WP.asg {x : Str} {q pos : Pos} {e : Expr} {d : PyData} (he : Ev C lv sc e σ ow d) (l : Lo sc x) (o : Off ow x) (h : WP C lv sc rest ((x, d) :: σ) ow Φ)
    (hs : ∀ env, swapsWith e (some (.Name x q)) pos.line env = pure false := by intro _; with_unfolding_all rfl) : WP C lv sc (.Assign [.Name x q] e pos :: rest) σ ow Φ := WP.cons (Sp.assign he h o l.loc l.kind hs)
theorem WP.aug {x : Str} {q pos : Pos} {op : Operator} {e : Expr} {d₀ d₁ d : PyData} (hσ : Lk σ x d₀) (he : Ev C lv sc e σ ow d₁) (hb : Aug C op d₀ d₁ d) (l : Lo sc x) (o : Off ow x) (h : WP C lv sc rest ((x, d) :: σ) ow Φ) :
    WP C lv sc (.AugAssign (.Name x q) op e pos :: rest) σ ow Φ := WP.cons (Sp.aug hσ he hb h o l.loc l.kind)
theorem WP.ret {e : Expr} {pos : Pos} {d : PyData} (he : Ev C lv sc e σ ow d) (h : Φ (.ret d)) : WP C lv sc (.Return (some e) pos :: rest) σ ow Φ := WP.cons (Sp.ret he h)
theorem WP.brk {pos : Pos} (h : Φ (.brk σ ow)) : WP C lv sc (.Break pos :: rest) σ ow Φ := WP.cons (Sp.brk h)
theorem WP.ite {t : Expr} {b : Bool} {body orelse : List Stmt} {pos : Pos} (ht : Tst C lv sc t σ ow b) (h1 : b = true → WP C lv sc body σ ow (Then C lv sc rest Φ)) (h2 : b = false → WP C lv sc orelse σ ow (Then C lv sc rest Φ)) : WP C lv sc (.If t body orelse pos :: rest) σ ow Φ := WP.cons (Sp.ite ht h1 h2)
theorem WP.ifT {t : Expr} {body orelse : List Stmt} {pos : Pos} (ht : Tst C lv sc t σ ow true) (h1 : WP C lv sc body σ ow (Then C lv sc rest Φ)) : WP C lv sc (.If t body orelse pos :: rest) σ ow Φ := WP.cons (Sp.ite ht (fun _ => h1) (fun e => by cases e))
theorem WP.ifF {t : Expr} {body orelse : List Stmt} {pos : Pos} (ht : Tst C lv sc t σ ow false) (h2 : WP C lv sc orelse σ ow (Then C lv sc rest Φ)) : WP C lv sc (.If t body orelse pos :: rest) σ ow Φ := WP.cons (Sp.ite ht (fun e => by cases e) (fun _ => h2))
theorem WP.skip {t : Expr} {body : List Stmt} {pos : Pos} (ht : Tst C lv sc t σ ow false) (h2 : WP C lv sc rest σ ow Φ) : WP C lv sc (.If t body [] pos :: rest) σ ow Φ := WP.ifF ht (WP.nil h2)
theorem WP.while {t : Expr} {body : List Stmt} {pos : Pos} (J : Nat → Sg → Ow → Prop) (n : Nat) (h0 : J n σ ow)
    (turn : ∀ n σ ow, J n σ ow → ∃ b, Tst C lv sc t σ ow b ∧ (b = false → WP C lv sc rest σ ow Φ) ∧ (b = true → WP C lv sc body σ ow (Loop (fun σ' ow' => ∃ m, m < n ∧ J m σ' ow') (Then C lv sc rest Φ)))) :
    WP C lv sc (.While t body [] pos :: rest) σ ow Φ := WP.cons (Sp.while J n h0 turn)
theorem WP.for {t e : Expr} {body : List Stmt} {pos : Pos} {ds : List PyData} (J : List PyData → Sg → Ow → Prop) (hs : Src C lv sc e σ ow ds) (h0 : J ds σ ow)
    (turn : ∀ d r σ ow, J (d :: r) σ ow → ∃ σ', Asg C sc t d σ ow σ' ∧ WP C lv sc body σ' ow (Loop (J r) (Then C lv sc rest Φ))) (done : ∀ σ ow, J [] σ ow → WP C lv sc rest σ ow Φ)
    (hset : ∀ env x, foldedSetIterable e env x = pure x := by intro _ _; with_unfolding_all rfl) (hgo : ∀ it v, letOwnedTupleGo t it v = pure () := by intro _ _; with_unfolding_all rfl) : WP C lv sc (.For t e body [] pos :: rest) σ ow Φ := WP.cons (Sp.for J hs h0 turn done hset hgo)
theorem Asg.nm {x : Str} {q : Pos} {d : PyData} (l : Lo sc x) (o : Off ow x) : Asg C sc (.Name x q) d σ ow ((x, d) :: σ) := Asg.name o l.loc l.kind
theorem WP.own {x : Str} {q pos : Pos} {e : Expr} {ds : List PyData} (he : EvNew C lv sc e σ none ds) (l : Lo sc x) (h : WP C lv sc rest (del σ x) (some (x, ds)) Φ)
    (hs : ∀ env, swapsWith e (some (.Name x q)) pos.line env = pure false := by intro _; with_unfolding_all rfl) : WP C lv sc (.Assign [.Name x q] e pos :: rest) σ none Φ := WP.cons (Sp.own he h l.loc l.kind hs)
theorem WP.append {x : Str} {q ap cp pos : Pos} {e : Expr} {xs : List Int} {d : Int} (he : Ev C lv sc e σ (some (x, I xs)) (.int d)) (l : Lo sc x) (hsz : xs.length ≤ sizeLine) (hline : (ap.endLine == cp.line) = true) (h : WP C lv sc rest σ (some (x, I (xs ++ [d]))) Φ)
    (hfew : ∀ env, ((backTo cp (starEach [e] env)).all (fun x => !x.1) && (backToKw cp (keywordEach [] env)).all (fun x => x.1.isSome) && decide (([e] : List Expr).length + ([] : List Keyword).length + (if ([] : List Keyword).isEmpty then 0 else 1) < 30)) = true := by intro _; with_unfolding_all rfl)
    (htrees : ∀ env, backTo cp (starEach [e] env) = [(false, eval e env)] := by intro _; with_unfolding_all rfl) :
    WP C lv sc (.Expr (.Call (.Attribute (.Name x q) "append" ap) [e] [] cp) pos :: rest) σ (some (x, I xs)) Φ :=
  WP.cons (Sp.append he (by rw [I, List.map_append] at h; exact h) l.loc l.kind l.dbg (by simpa using hsz) hline hfew htrees)
theorem WP.setItem {x : Str} {q q' pos : Pos} {e i : Expr} {xs : List Int} {d : Int} {k : Int} (he : Ev C lv sc e σ (some (x, I xs)) (.int d)) (hi : Ev C lv sc i σ (some (x, I xs)) (.int k)) (h0 : 0 ≤ k) (h1 : k < xs.length) (hbig : xs.length < 2 ^ 60) (l : Lo sc x)
    (h : WP C lv sc rest σ (some (x, I (xs.set k.toNat d))) Φ) (hs : ∀ env, swapsWith e (some (.Subscript (.Name x q) i q')) pos.line env = pure false := by intro _; with_unfolding_all rfl) : WP C lv sc (.Assign [.Subscript (.Name x q) i q'] e pos :: rest) σ (some (x, I xs)) Φ :=
  WP.cons (Sp.setItem he hi h0 (by simpa using h1) (by simpa using hbig) (by rw [I, List.map_set] at h; exact h) l.loc l.kind l.dbg hs)
theorem Ev.itemOwnI {x : Str} {q pos : Pos} {slice : Expr} {xs : List Int} {i : Int} (h : Ev C lv sc slice σ (some (x, I xs)) (.int i)) (h0 : 0 ≤ i) (h1 : i < xs.length) (hb : xs.length < 2 ^ 60) (l : Lo sc x)
    (hs : ∀ o j, subscripted slice false o j = operate [o, j] (getItem o j) := by intro _ _; with_unfolding_all rfl) : Ev C lv sc (.Subscript (.Name x q) slice pos) σ (some (x, I xs)) (.int (xs.getD i.toNat 0)) :=
  Ev.itemOwn h h0 (by omega) (by
    have h : i.toNat < xs.length := by omega
    simp [h]) l.loc l.kind l.dbg hs
theorem WP.unpack2 {x y : Str} {px py tp pos : Pos} {kk : Nat} {e : Expr} {d₁ d₂ : PyData} (he : Ev C lv sc e σ ow (.tuple [d₁, d₂])) (lx : Lo sc x) (ly : Lo sc y) (ox : Off ow x) (oy : Off ow y) (h : WP C lv sc rest ((y, d₂) :: (x, d₁) :: σ) ow Φ)
    (hs : ∀ P : Pt, swapsWithSole [.Tuple [.Name x px, .Name y py] kk tp] e pos.line (P.env sc) = pure false := by intro _; with_unfolding_all rfl) (hw : ∀ P : Pt, swappedStores [.Tuple [.Name x px, .Name y py] kk tp] e (P.env sc) = pure none := by intro _; with_unfolding_all rfl) :
    WP C lv sc (.Assign [.Tuple [.Name x px, .Name y py] kk tp] e pos :: rest) σ ow Φ := WP.cons (Sp.unpack he (Asg.tuple2 (fun z zs q => ⟨ox z zs q, oy z zs q⟩) lx.loc ly.loc lx.kind) h hs hw)
theorem WP.unpack3 {x y z : Str} {px py pz tp pos : Pos} {kk : Nat} {e : Expr} {d₁ d₂ d₃ : PyData} (he : Ev C lv sc e σ ow (.tuple [d₁, d₂, d₃])) (lx : Lo sc x) (ly : Lo sc y) (lz : Lo sc z) (ox : Off ow x) (oy : Off ow y) (oz : Off ow z) (h : WP C lv sc rest ((z, d₃) :: (y, d₂) :: (x, d₁) :: σ) ow Φ)
    (hs : ∀ P : Pt, swapsWithSole [.Tuple [.Name x px, .Name y py, .Name z pz] kk tp] e pos.line (P.env sc) = pure false := by intro _; with_unfolding_all rfl) (hw : ∀ P : Pt, swappedStores [.Tuple [.Name x px, .Name y py, .Name z pz] kk tp] e (P.env sc) = pure none := by intro _; with_unfolding_all rfl) :
    WP C lv sc (.Assign [.Tuple [.Name x px, .Name y py, .Name z pz] kk tp] e pos :: rest) σ ow Φ := WP.cons (Sp.unpack he (Asg.tuple3 (fun u zs q => ⟨ox u zs q, oy u zs q, oz u zs q⟩) lx.loc ly.loc lz.loc lx.kind) h hs hw)
theorem WP.swap2 {ts : List Expr} {kk : Nat} {tp pos : Pos} {e : Expr} {x y : Str} {d₁ d₂ : PyData} (he : Ev C lv sc e σ ow (.tuple [d₁, d₂])) (lx : Lo sc x) (ly : Lo sc y) (ox : Off ow x) (oy : Off ow y) (hw : ∀ P : Pt, swappedStores [.Tuple ts kk tp] e (P.env sc) = pure (some [x, y])) (h : WP C lv sc rest ((x, d₁) :: (y, d₂) :: σ) ow Φ)
    (hs : ∀ P : Pt, swapsWithSole [.Tuple ts kk tp] e pos.line (P.env sc) = pure false := by intro _; with_unfolding_all rfl) :
    WP C lv sc (.Assign [.Tuple ts kk tp] e pos :: rest) σ ow Φ := WP.cons (Sp.swap2 he h (fun z zs q => ⟨ox z zs q, oy z zs q⟩) lx.loc ly.loc lx.kind hs hw)
theorem WP.raiseV {X : Str} {np cpos pos mp : Pos} {mk : Nat} {msg : Str} (W : Wd C p glo blt) (hm : (X, Value.type "ValueError") ∈ blt) (g : Gl sc X) (h : Φ (.exc "ValueError")) :
    WP C lv sc (.Raise (some (.Call (.Name X np) [.Constant (.str msg) mk mp] [] cpos)) none pos :: rest) σ ow Φ := WP.cons (Sp.raise W.ok PySem.F.excCall_ValueError PySem.F.excRaise_ValueError (W.blt _ hm).1 (W.blt _ hm).2 h g.imp g.kind g.dbg)
theorem WP.raiseZ {X : Str} {np cpos pos mp : Pos} {mk : Nat} {msg : Str} (W : Wd C p glo blt) (hm : (X, Value.type "ZeroDivisionError") ∈ blt) (g : Gl sc X) (h : Φ (.exc "ZeroDivisionError")) :
    WP C lv sc (.Raise (some (.Call (.Name X np) [.Constant (.str msg) mk mp] [] cpos)) none pos :: rest) σ ow Φ := WP.cons (Sp.raise W.ok PySem.F.excCall_ZeroDivisionError PySem.F.excRaise_ZeroDivisionError (W.blt _ hm).1 (W.blt _ hm).2 h g.imp g.kind g.dbg)
theorem WP.tryOk {body : List Stmt} {h₀ : ExceptHandler} {hs : List ExceptHandler} {pos : Pos} (h : WP C lv sc body σ ow (NoExc (Then C lv sc rest Φ))) : WP C lv sc (.Try body (h₀ :: hs) [] [] pos :: rest) σ ow Φ := WP.cons (Sp.tryOk h)
theorem nt_V : isSubtype (.type ((Manifest.find? "ValueError").elim "type" fun x => x.metatype)) (.type "tuple") = pure false := by
  rw [isSubtype_type]; kernel_rfl
theorem nt_Z : isSubtype (.type ((Manifest.find? "ZeroDivisionError").elim "type" fun x => x.metatype)) (.type "tuple") = pure false := by
  rw [isSubtype_type]; kernel_rfl
theorem WP.tryV {x f T y : Str} {q fp cp ap tp yp kp hp hpos pos : Pos} {k kk : Nat} {e : Expr} {es : List Expr} {ds : List PyData} (W : Wd C p glo blt) (ha : EvAll C lv sc (e :: es) σ ow ds) (hf : Raises C k f ds "ValueError") (hk : k ≤ lv) (hm : (T, Value.type "ValueError") ∈ blt) (gf : Gl sc f) (gT : Gl sc T) (ly : Lo sc y) (oy : Off ow y)
    (h : WP C lv sc rest ((y, .bool true) :: σ) ow Φ) (he : ∀ env, starEach (e :: es) env = (false, eval e env) :: starEach es env := by intro _; with_unfolding_all rfl) (hsw : ∀ env, swapsWith (.Call (.Name f fp) (e :: es) [] cp) (some (.Name x q)) ap.line env = pure false := by intro _; with_unfolding_all rfl) :
    WP C lv sc (.Try [.Assign [.Name x q] (.Call (.Name f fp) (e :: es) [] cp) ap] [.ExceptHandler (some (.Name T tp)) none [.Assign [.Name y yp] (.Constant (.bool true) kk kp) hp] hpos] [] [] pos :: rest) σ ow Φ :=
  WP.cons (Sp.tryExc W.ok ha hf hk PySem.F.isExc_ValueError nt_V PySem.F.self_ValueError (W.blt _ hm).1 (W.blt _ hm).2 h oy gf.imp gT.imp ly.loc ly.kind gf.dbg gT.dbg he hsw)
theorem WP.tryZ {x f T y : Str} {q fp cp ap tp yp kp hp hpos pos : Pos} {k kk : Nat} {e : Expr} {es : List Expr} {ds : List PyData} (W : Wd C p glo blt) (ha : EvAll C lv sc (e :: es) σ ow ds) (hf : Raises C k f ds "ZeroDivisionError") (hk : k ≤ lv) (hm : (T, Value.type "ZeroDivisionError") ∈ blt) (gf : Gl sc f) (gT : Gl sc T) (ly : Lo sc y) (oy : Off ow y)
    (h : WP C lv sc rest ((y, .bool true) :: σ) ow Φ) (he : ∀ env, starEach (e :: es) env = (false, eval e env) :: starEach es env := by intro _; with_unfolding_all rfl) (hsw : ∀ env, swapsWith (.Call (.Name f fp) (e :: es) [] cp) (some (.Name x q)) ap.line env = pure false := by intro _; with_unfolding_all rfl) :
    WP C lv sc (.Try [.Assign [.Name x q] (.Call (.Name f fp) (e :: es) [] cp) ap] [.ExceptHandler (some (.Name T tp)) none [.Assign [.Name y yp] (.Constant (.bool true) kk kp) hp] hpos] [] [] pos :: rest) σ ow Φ :=
  WP.cons (Sp.tryExc W.ok ha hf hk PySem.F.isExc_ZeroDivisionError nt_Z PySem.F.self_ZeroDivisionError (W.blt _ hm).1 (W.blt _ hm).2 h oy gf.imp gT.imp ly.loc ly.kind gf.dbg gT.dbg he hsw)
theorem Ev.ty {x T : Str} {q tp cp pos : Pos} {e : Expr} {d : PyData} {Tn : String} (W : Wd C p glo blt) (hm : (x, Value.type "type") ∈ blt) (hT : (T, Value.type Tn) ∈ blt) (g : Gl sc x) (gT : Gl sc T) (he : Ev C lv sc e σ ow d)
    (hst : ∀ env, starEach [e] env = (false, eval e env) :: starEach [] env := by intro _; with_unfolding_all rfl) (hp : ∀ env, (backTo cp (starEach [e] env)).any (·.1) = false := by intro _; with_unfolding_all rfl) : Ev C lv sc (.Compare (.Call (.Name x q) [e] [] cp) [.Is] [.Name T tp] pos) σ ow (.bool (decide (tyName d = Tn))) :=
  Ev.typeIs W.ok he (W.blt _ hm).1 (W.blt _ hm).2 (W.blt _ hT).1 (W.blt _ hT).2 g.imp gT.imp g.kind g.dbg gT.dbg hst hp
theorem Tst.ty {x T : Str} {q tp cp pos : Pos} {e : Expr} {d : PyData} {Tn : String} (W : Wd C p glo blt) (hm : (x, Value.type "type") ∈ blt) (hT : (T, Value.type Tn) ∈ blt) (g : Gl sc x) (gT : Gl sc T) (he : Ev C lv sc e σ ow d)
    (hst : ∀ env, starEach [e] env = (false, eval e env) :: starEach [] env := by intro _; with_unfolding_all rfl) (hp : ∀ env, (backTo cp (starEach [e] env)).any (·.1) = false := by intro _; with_unfolding_all rfl) : Tst C lv sc (.Compare (.Call (.Name x q) [e] [] cp) [.Is] [.Name T tp] pos) σ ow (decide (tyName d = Tn)) :=
  Tst.typeIs W.ok he (W.blt _ hm).1 (W.blt _ hm).2 (W.blt _ hT).1 (W.blt _ hT).2 g.imp gT.imp g.kind g.dbg gT.dbg hst hp
theorem Src.rng1 {x : Str} {q pos : Pos} {e : Expr} {n : Nat} (W : Wd C p glo blt) (hm : (x, Value.type "range") ∈ blt) (g : Gl sc x) (ha : Ev C lv sc e σ ow (.int n)) (hn : n < 2 ^ 60)
    (he : ∀ env, starEach [e] env = (false, eval e env) :: starEach [] env := by intro _; with_unfolding_all rfl) (hp : ∀ env, (backTo pos (starEach [e] env)).any (·.1) = false := by intro _; with_unfolding_all rfl) :
    Src C lv sc (.Call (.Name x q) [e] [] pos) σ ow (I ((List.range n).map Int.ofNat)) := by
  have := Src.range1 (C := C) (lv := lv) (sc := sc) (σ := σ) (ow := ow) (p := q) (pos := pos) (n := n) W.ok (W.blt _ hm).1 (W.blt _ hm).2 ha (small_one (by decide) (by decide) (by omega) (by omega)) (by rw [rangeSize_one]; split <;> omega) g.imp g.kind g.dbg he hp
  have e : rng 0 1 n = I ((List.range n).map Int.ofNat) := by simp [rng, I]
  rwa [e] at this
theorem small_down {n : Nat} (hn : n < 2 ^ 60) : Builtin.Range.small ((n : Int) - 1) (-1) (-1) = true := by
  have e : Builtin.Range.rangeSize ((n : Int) - 1) (-1) (-1) = (n : Int) := by
    unfold Builtin.Range.rangeSize
    rw [if_neg (by decide)]
    split
    · simp
    · omega
  unfold Builtin.Range.small
  rw [e]
  simp only [Builtin.Range.rangeFitsLong, Bool.and_eq_true, Bool.or_eq_true, decide_eq_true_eq, beq_iff_eq, show ¬ ((-1 : Int) > 0) by decide, if_false]
  omega
/-- range(n - 1, -1, -1) -/
theorem Src.rngDown {x : Str} {q pos : Pos} {e1 e2 e3 : Expr} {n : Nat} (W : Wd C p glo blt) (hm : (x, Value.type "range") ∈ blt) (g : Gl sc x) (h1 : Ev C lv sc e1 σ ow (.int ((n : Int) - 1))) (h2 : Ev C lv sc e2 σ ow (.int (-1))) (h3 : Ev C lv sc e3 σ ow (.int (-1))) (hn : n < 2 ^ 60)
    (he : ∀ env, starEach [e1, e2, e3] env = (false, eval e1 env) :: starEach [e2, e3] env := by intro _; with_unfolding_all rfl) (he2 : ∀ env, starEach [e2, e3] env = (false, eval e2 env) :: starEach [e3] env := by intro _; with_unfolding_all rfl) (he3 : ∀ env, starEach [e3] env = (false, eval e3 env) :: starEach [] env := by intro _; with_unfolding_all rfl)
    (hp : ∀ env, (backTo pos (starEach [e1, e2, e3] env)).any (·.1) = false := by intro _; with_unfolding_all rfl) :
    Src C lv sc (.Call (.Name x q) [e1, e2, e3] [] pos) σ ow (I ((List.range n).reverse.map Int.ofNat)) := by
  have := Src.range3 (C := C) (lv := lv) (sc := sc) (σ := σ) (ow := ow) (p := q) (pos := pos) (n := n) W.ok (W.blt _ hm).1 (W.blt _ hm).2 (EvAll.cons h1 (EvAll.cons h2 (EvAll.cons h3 .nil he3) he2) he) (by decide)
    (small_down (by omega)) (by
      unfold Builtin.Range.rangeSize
      rw [if_neg (by decide)]
      split
      · simp
      · omega) (PyProof.noPylong_small (by decide)) g.imp g.kind g.dbg he hp
  have e : rng ((n : Int) - 1) (-1) n = I ((List.range n).reverse.map Int.ofNat) := by
    apply List.ext_getElem
    · simp [rng]
    · intro i h1 h2
      simp only [rng, List.length_map, List.length_range] at h1
      simp [rng]; omega
  rwa [e] at this
end
end Mine

set_option maxRecDepth 100000
set_option autoImplicit false
set_option linter.unusedVariables false
namespace Mine
open PySem PySem.W PySem.Calls PyProof.Rows
theorem ints_of {R : WRecords} : ∀ {xs : List WData}, WShape.hasItems R xs .int = true → ∃ is : List Int, xs = is.map WData.int
  | [], _ => ⟨[], rfl⟩
  | x :: xs, h => by
    simp only [WShape.hasItems, Bool.and_eq_true] at h
    obtain ⟨i, rfl⟩ := hasW_int h.1
    obtain ⟨is, rfl⟩ := ints_of h.2
    exact ⟨i :: is, rfl⟩
theorem reads_ints {R : WRecords} {cl : Str → Option Addr} {h : Heap} : ∀ {is : List Int} {vs : List Value} {as : List Addr}, ReadsAllW R cl h vs (is.map WData.int) as → ReadsAll h vs (I is) []
  | [], _, _, .nil => .nil
  | i :: is, _, _, .cons (.int _ t) r => ReadsAll.cons (.int i t) (reads_ints r)
theorem close {l : OpenLaw} {C : Cx} {k n : Nat} {s₁ : Shared} {fa : Addr} {args : List WData} {vals : List Value} {as : List Addr} {cl : Str → Option Addr} {mean : ExcName → Option Value} (hC : C.prog = l.prog) (hb : C.base = s₁.heap) (hmost : l.most = some n)
    (hmg : C.mg l.name = some (.ref fa)) (hg : s₁.gens = #[]) (hpre : l.row.claim.pre args = true) (hrd : ReadsAllW l.row.records cl s₁.heap vals args as) (hk : k ≤ 100) (H : ∀ xs : List Int, xs.length ≤ n → Gives C k l.name [L xs] (.bool true)) :
    wpAny (model l.row.prog C.w) callerA (call (.ref fa) vals) (fun v s' => GoodWG l.row.claim cl mean args s₁ (.ok (.ret v)) s') (fun e s' => GoodWG l.row.claim cl mean args s₁ (.error e) s') s₁ := by
  have hsh := (pre_splitW hpre).1
  have hcond := (pre_splitW hpre).2
  obtain ⟨d, r, rfl, h1, h2⟩ := hasAllW_cons hsh
  have := hasAllW_nil h2
  subst this
  obtain ⟨ws, rfl, h3⟩ := hasW_list h1
  obtain ⟨xs, rfl⟩ := ints_of h3
  have hlen : xs.length ≤ n := by
    have hc : l.pre.holds [] { args := [WData.list (xs.map WData.int)] } = true := hcond
    unfold OpenLaw.pre at hc
    rw [hmost] at hc
    have h1 := (holds_andW hc).1
    by_cases q : xs.length ≤ n
    · exact q
    · exfalso
      have q' : n < xs.length := by omega
      simp [WTm.holds, WTm.value, less?, Num.less?, q'] at h1
  obtain ⟨a, o, fd, e1, e2, e3, hcall⟩ := H xs hlen
  rw [hmg] at e1
  cases e1
  rw [hC] at hcall
  cases hrd with
  | cons rv rn =>
  cases rn
  cases rv with
  | list g1 g2 g3 g4 =>
  refine hcall callerA [] [] s₁ _ _ _ ⟨rfl, by show 1 + 300 + k < 1000; omega, by show 4 + 20 * k + 200 < 9900; omega⟩ ⟨rfl, by rw [hb]; exact fun _ _ e => e, trivial, fun _ m => nomatch m⟩ (fun _ m => nomatch m)
    (RdAll.cons (Rd.list g1 g2 g3 (fun m => nomatch m) ⟨_, reads_ints g4, fun _ m => nomatch m⟩) RdAll.nil) ?_
  intro x h' tk X r
  have := r.boolInv
  subst this
  refine GoodW.toG ⟨.inl ⟨_, _, _, rfl, fun _ => rfl, .bool true, ?_, fun _ => ⟨List.nodup_nil, fun _ m => nomatch m⟩⟩, fun b o e => X.keep b o e (fun m => nomatch m), rfl, hg⟩
  refine postW_of (X := true) ?_ ?_ rfl
  · show WShape.has _ (.bool true) .bool = true
    simp [WShape.has, WShape.arms]
  · show WTm.value _ (.eq .res (.lit (.bool true))) _ = _
    simp [WTm.value, same]
def fnsOf (p : Program) : List (Str × Arguments × List Stmt × Scope) := p.main.body.filterMap fun st => match st with | .FunctionDef n a b _ _ _ s _ _ _ => some (n, a, b, s) | _ => none
theorem fn_mem {p : Program} {i : Nat} (h : (match p.main.body[i]? with | some (.FunctionDef ..) => true | _ => false) = true) : (nameAt p i, paramsAt p i, bodyAt p i, scopeAt p i) ∈ fnsOf p := by
  cases q : p.main.body[i]? with
  | none => rw [q] at h; cases h
  | some st =>
    cases st <;> rw [q] at h <;> first | (cases h; done) | skip
    refine List.mem_filterMap.mpr ⟨_, List.mem_of_getElem? q, ?_⟩
    simp only [nameAt, paramsAt, bodyAt, scopeAt, q]
/-- a name of the module that holds an int, or a tuple of ints -/
def gloOk (p : Program) (y : Str × PyData) : Prop := match y.2 with
  | .int i => valOf p y.1 = some (.int i)
  | .tuple ds => ∃ ns : List Int, ds = I ns ∧ tupIntsOf p y.1 = some ns
  | _ => False
theorem glo_int {p : Program} {x : Str} {i : Int} (e : valOf p x = some (.int i)) : gloOk p (x, .int i) := e
theorem glo_tup {p : Program} {x : Str} {ns : List Int} (e : tupIntsOf p x = some ns) : gloOk p (x, .tuple (I ns)) := ⟨ns, rfl, e⟩
theorem ints_read {h : Heap} : ∀ {vs : List Value} {ns : List Int}, IntsAre vs ns → ReadsAll h vs (I ns) [] := fun {vs ns} e => IntsAre.reads _ e
theorem glo_ok {view : Program} {y : Str × PyData} {p : Program} {w : World} {h : Heap} {loose : List Str} {mean : ExcName → Option Value} {mg mb : Str → Option Value} (T : Top view loose mean mg mb h) (B : Tables view w mg h) (e : gloOk view y) : Glo ⟨p, w, h, mg, mb⟩ y.1 y.2 := by
  obtain ⟨x, d⟩ := y
  unfold gloOk at e
  split at e
  · rename_i i hi
    obtain rfl : d = .int i := hi
    obtain ⟨v, hv, hr⟩ := T.const x _ e
    exact ⟨v, hv, fun h' O _ => ⟨[], hr h', fun _ m => nomatch m⟩⟩
  · rename_i ds hi
    obtain rfl : d = .tuple ds := hi
    obtain ⟨ns, rfl, e⟩ := e
    obtain ⟨a, vs, hv, ⟨o, g1, g2, n, g3⟩, hi⟩ := B.tupI x ns e
    exact ⟨_, hv, fun h' O st => ⟨[], .tuple (st _ _ g1) g2 g3 (by simpa using ints_read hi), fun _ m => nomatch m⟩⟩
  · exact e.elim
def bltOk (view : Program) (loose : List Str) (y : Str × Value) : Bool := !(startupNames.contains y.1) && !(loose.contains y.1) && !(((recsOf view).map (·.name)).contains y.1) && !(((litsOf view).map (·.1)).contains y.1) && !(((clssOf view loose).map (·.name)).contains y.1) && !(y.1 == ("__name__" : Str)) && (match bootBuiltins y.1, y.2 with | some (.builtin a), .builtin b => a == b | some (.type a), .type b => a == b | _, _ => false)
theorem blt_ok {y : Str × Value} {view : Program} {loose : List Str} {mean : ExcName → Option Value} {h : Heap} {mg mb : Str → Option Value} (T : Top view loose mean mg mb h) (e : bltOk view loose y = true) : mg y.1 = none ∧ mb y.1 = some y.2 := by
  obtain ⟨x, v⟩ := y
  unfold bltOk at e
  simp only [Bool.and_eq_true, Bool.not_eq_true', beq_eq_false_iff_ne, List.contains_eq_mem, decide_eq_false_iff_not] at e
  obtain ⟨⟨⟨⟨⟨⟨a1, a2⟩, a3⟩, a4⟩, a5⟩, e2⟩, e3⟩ := e
  refine ⟨T.free x a1 a2 a3 a4 a5, (T.builtins x e2).trans ?_⟩
  split at e3
  · rename_i a b q1 q2
    simp only [beq_iff_eq] at e3
    subst e3
    exact q2
  · rename_i a b q1 q2
    simp only [beq_iff_eq] at e3
    subst e3
    exact q2
  · cases e3
/-- the world as the given top leaves it -/
theorem world {p view : Program} {loose : List Str} {mean : ExcName → Option Value} {w : World} {mg mb : Str → Option Value} {h : Heap} {glo : List (Str × PyData)} {blt : List (Str × Value)} (T : Top view loose mean mg mb h) (B : Tables view w mg h)
    (hfn : (recsOf view).map (fun d => (d.name, d.params, d.body, d.scope)) = fnsOf p)
    (hglo : ∀ y ∈ glo, gloOk view y) (hblt : blt.all (bltOk view loose) = true) : Wd ⟨p, w, h, mg, mb⟩ p glo blt where
  ok := ⟨T.g, T.b, T.nolimit, T.nodigits⟩
  fn := fun i hi => by
    have hm := fn_mem hi
    rw [← hfn] at hm
    obtain ⟨d, hd, e⟩ := List.mem_map.mp hm
    simp only [Prod.mk.injEq] at e
    obtain ⟨h1, h2, h3, h4⟩ := e
    have := T.fn d hd
    rw [h1, h2, h3, h4] at this
    exact ⟨this⟩
  glo := fun y hy => glo_ok T B (hglo y hy)
  blt := fun y hy => blt_ok T (List.all_eq_true.mp hblt y hy)
end Mine

set_option maxRecDepth 100000
set_option autoImplicit false
set_option linter.unusedVariables false
set_option Elab.async false
set_option maxHeartbeats 4000000
namespace Mine
open PySem PySem.Calls PyProof.Rows
local macro_rules | `(tactic| walk_at "zlk") => `(tactic| first | (with_reducible assumption) | (with_reducible exact Lk.here) | (with_reducible refine' Lk.there ?zn ?zz; (case zn => decide +kernel); (case zz => walk_at "zlk")))
local macro_rules | `(tactic| walk_at "zgl") => `(tactic| ((with_reducible refine ⟨?_, ?_, ?_⟩) <;> decide +kernel))
local macro_rules | `(tactic| walk_at "zoff") => `(tactic| first | exact Off.none | (refine Off.some ?_; decide +kernel))
local macro_rules | `(tactic| walk_at "zfn") => `(tactic| fail "zfn: no function")
-- a name of the module, a built-in name: its value is found by the list
local macro_rules | `(tactic| walk_at "zglo") => `(tactic| first | (with_reducible exact List.mem_cons_self) | ((with_reducible refine List.mem_cons_of_mem _ ?_); walk_at "zglo"))
local macro_rules | `(tactic| walk_at "zblt") => `(tactic| first | (with_reducible exact List.mem_cons_self) | ((with_reducible refine List.mem_cons_of_mem _ ?_); walk_at "zblt"))
-- one step at an expression
local macro_rules | `(tactic| walk_at "zEname") => `(tactic| first
  | (with_reducible refine' Ev.nm ?zh ?zg; (case zg => walk_at "zgl"); (case zh => walk_at "zlk"))
  | (with_reducible refine' Ev.gl ?zW ?zm ?zg; (case zW => assumption); (case zg => walk_at "zgl"); (case zm => walk_at "zglo")))
local macro_rules | `(tactic| walk_at "zEcall") => `(tactic| first
  | (with_reducible refine' Ev.lenI ?zW ?zm ?zg ?ze ?zs; (case zW => assumption); (case zm => decide +kernel); (case zg => walk_at "zgl"))
  | (with_reducible refine' Ev.fn ?zW ?ze ?zf ?zk ?zg; (case zW => assumption); (case zg => walk_at "zgl"); (case ze => walk_at "zev"); (case zf => (walk_at "zfn" <;> walk_at "zar")); (case zk => decide))
  | (with_reducible refine' Ev.maxI ?zW ?zm ?zg ?ze ?zf; (case zW => assumption); (case zm => decide +kernel); (case zg => walk_at "zgl"))
  | (with_reducible refine' Ev.absI ?zW ?zm ?zg ?ze; (case zW => assumption); (case zm => decide +kernel); (case zg => walk_at "zgl")))
local macro_rules | `(tactic| walk_at "zE") => `(tactic| first
  | ((with_reducible show Ev _ _ _ (Expr.Name _ _) _ _ _); walk_at "zEname")
  | ((with_reducible show Ev _ _ _ (Expr.Constant _ _ _) _ _ _); first | with_reducible exact Ev.int | with_reducible exact Ev.bool | with_reducible exact Ev.str | with_reducible exact Ev.non)
  | (with_reducible refine' Ev.bin ?_ ?_ ?_)
  | ((with_reducible show Ev _ _ _ (Expr.Call _ _ _ _) _ _ _); walk_at "zEcall")
  | ((with_reducible show Ev _ _ _ (Expr.Subscript _ _ _) _ _ _); first
    | (with_reducible refine' Ev.takeI ?_ ?_ ?_ ?_)
    | (with_reducible refine' Ev.dropI ?_ ?_ ?_ ?_)
    | (with_reducible refine' Ev.copyI ?_ ?_)
    | (with_reducible refine' Ev.revI ?_ ?_ ?_)
    | (with_reducible refine' Ev.itemOwnI ?ze ?z0 ?z1 ?z2 ?zg; (case zg => walk_at "zgl"))
    | (with_reducible refine' Ev.item ?_ ?_ ?_))
  | ((with_reducible show Ev _ _ _ (Expr.Compare _ _ _ _) _ _ _); first
    | (with_reducible refine' Ev.ty ?zW ?zm ?zT ?zg ?zh ?ze; (case zW => assumption); (case zm => decide +kernel); (case zT => walk_at "zblt"); (case zg => walk_at "zgl"); (case zh => walk_at "zgl"))
    | (with_reducible refine' Ev.cmp ?_ ?_ ?_))
  | (with_reducible refine' Ev.una ?_ ?_)
  | (with_reducible refine' Ev.tuple ?_ ?zs)
  | (with_reducible refine' Ev.listI ?_ ?_))
local macro_rules | `(tactic| walk_at "z1") => `(tactic| first
  | ((with_reducible show Ev _ _ _ _ _ _ _); walk_at "zE")
  | ((with_reducible show Lk _ _ _); walk_at "zlk")
  | ((with_reducible show Bin _ _ _ _ _); first
    | with_reducible exact Bin.add
    | with_reducible exact Bin.sub
    | (with_reducible refine' Bin.modP ?_)
    | (with_reducible refine' Bin.divP ?_ ?_)
    | with_reducible exact Bin.mulR (by decide) (by decide)
    | (with_reducible refine' Bin.mulL ?_ ?_)
    | (with_reducible refine' Bin.addI ?_))
  | ((with_reducible show Cmp _ _ _ _ _); first
    | with_reducible exact Cmp.lt
    | with_reducible exact Cmp.eqInt
    | with_reducible exact Cmp.neInt
    | with_reducible exact Cmp.gt
    | with_reducible exact Cmp.le
    | with_reducible exact Cmp.ge
    | walk_at "zcmp")
  | ((with_reducible show Itm _ _ _ _); first
    | (with_reducible refine' Itm.listI ?_ ?_ ?_)
    | with_reducible exact Itm.at0
    | with_reducible exact Itm.at1
    | with_reducible exact Itm.at2
    | walk_at "zitm")
  | ((with_reducible show EvAll _ _ _ _ _ _ _); first | with_reducible exact EvAll.nil | (with_reducible refine' EvAll.cons ?_ ?_))
  | ((with_reducible show EvI _ _ _ _ _ _ _); first | with_reducible exact EvI.nil | (with_reducible refine' EvI.cons ?_ ?_))
  | ((with_reducible show Tst _ _ _ _ _ _ _); first
    | (with_reducible refine' Tst.ty ?zW ?zm ?zT ?zg ?zh ?ze; (case zW => assumption); (case zm => decide +kernel); (case zT => walk_at "zblt"); (case zg => walk_at "zgl"); (case zh => walk_at "zgl"))
    | (with_reducible refine' Tst.cmp ?_ ?_ ?_)
    | (with_reducible refine' Tst.not ?_)
    | (with_reducible refine' Tst.val ?_ ?_))
  | ((with_reducible show Tru _ _ _); with_reducible exact Tru.bool)
  | ((with_reducible show Aug _ _ _ _ _); first | with_reducible exact Aug.add | with_reducible exact Aug.sub)
  | ((with_reducible show Una _ _ _ _); first | with_reducible exact Una.neg | with_reducible exact Una.not Tru.bool)
  | ((with_reducible show Gl _ _); walk_at "zgl")
  | ((with_reducible show Lo _ _); walk_at "zgl")
  | ((with_reducible show Off _ _); walk_at "zoff"))
local macro_rules | `(tactic| walk_at "zcmp") => `(tactic| fail "zcmp")
local macro_rules | `(tactic| walk_at "zitm") => `(tactic| fail "zitm")
local macro_rules | `(tactic| walk_at "zz") => `(tactic| repeat' (walk_at "z1"))
-- a def's frame
local macro_rules | `(tactic| walk_at "zpl1") => `(tactic| exact ⟨fun vs hv pm cd doc => by (match vs, hv with | [_], _ => rfl), by decide +kernel, rfl, rfl, rfl, by decide +kernel⟩)
local macro_rules | `(tactic| walk_at "zpl2") => `(tactic| exact ⟨fun vs hv pm cd doc => by (match vs, hv with | [_, _], _ => rfl), by decide +kernel, rfl, rfl, rfl, by decide +kernel⟩)
local macro_rules | `(tactic| walk_at "zpl3") => `(tactic| exact ⟨fun vs hv pm cd doc => by (match vs, hv with | [_, _, _], _ => rfl), by decide +kernel, rfl, rfl, rfl, by decide +kernel⟩)
local macro_rules | `(tactic| walk_at "zar") => `(tactic| first | omega | (simp only [sizeLine_eq, List.length_append, List.length_cons, List.length_nil, List.length_map, List.length_replicate, List.length_set, List.length_take, List.length_drop, List.length_reverse]; omega) | decide | assumption)
local macro_rules | `(tactic| walk_at "zev") => `(tactic| (walk_at "zz"; all_goals walk_at "zar"))
-- statements
local macro_rules | `(tactic| walk_at "zasg") => `(tactic| (with_reducible refine' WP.asg ?za ?zl ?zo ?zk; (case zl => walk_at "zgl"); (case zo => walk_at "zoff"); (case za => walk_at "zev")))
local macro_rules | `(tactic| walk_at "zaug") => `(tactic| (with_reducible refine' WP.aug ?za ?zb ?zc ?zl ?zo ?zk; (case zl => walk_at "zgl"); (case zo => walk_at "zoff"); (case za => walk_at "zlk"); (case zb => walk_at "zev"); (case zc => walk_at "zev")))
local macro_rules | `(tactic| walk_at "zopen") => `(tactic| conv in (bodyAt _ _) => whnf)
abbrev pP := PySem.Challenge.pw_sx_zlimbs_4
abbrev tbLimb : List Int := [0, 1, 2, 3, 4, 6, 9999, 9998, 10000, -1, 1]
abbrev tbSize : List Int := [0, 1, 2, 3, 7, 9999, 10000, 10001, 19999, 99999999, 20000]
abbrev tbScale : List Int := [1, 2, 3, 100]
abbrev gloP : List (Str × PyData) := [("BASE", .int 10000), ("_law_limb_table", .tuple (I tbLimb)), ("_law_size_table", .tuple (I tbSize)), ("_law_scale_table", .tuple (I tbScale))]
abbrev bltP : List (Str × Value) := [("len", .builtin "len"), ("max", .builtin "max"), ("abs", .builtin "abs"), ("range", .type "range"), ("ValueError", .type "ValueError"), ("ZeroDivisionError", .type "ZeroDivisionError"), ("type", .type "type"), ("bool", .type "bool"), ("int", .type "int")]
abbrev ix_trimmed := 3
abbrev ix_from_int := 4
abbrev ix_compare := 5
abbrev ix_add := 6
abbrev ix_sub := 7
abbrev ix_mul_small := 8
abbrev ix_trial_digit := 9
abbrev ix_divmod_long := 10
abbrev ix_gcd_nat := 11
abbrev ix_with_sign := 12
abbrev ix_signed_from_int := 14
abbrev ix_signed_divmod := 15

abbrev D (n : Nat) : PyData := L (dig n)
theorem Lk.del {σ : Sg} {x y : Str} {d : PyData} (h : (x == y) = false) (k : Lk σ x d) : Lk (Mine.del σ y) x d := by
  induction σ with
  | nil => exact k
  | cons z σ ih =>
    obtain ⟨z, c⟩ := z
    unfold Lk at k
    rw [List.lookup_cons] at k
    show List.lookup x (Mine.del ((z, c) :: σ) y) = some d
    unfold Mine.del
    rw [List.filter_cons]
    by_cases q : z = y
    · subst q
      rw [h] at k
      rw [if_neg (by simp)]
      exact ih k
    · rw [if_pos (by simp [q]), List.lookup_cons]
      by_cases r : x = z
      · subst r; rw [beq_self_eq_true] at k ⊢; exact k
      · rw [beq_eq_false_iff_ne.mpr r] at k ⊢; exact ih k
theorem Ev.iteT {C : Cx} {lv : Nat} {sc : Scope} {σ : Sg} {ow : Ow} {t x y : Expr} {pos : Pos} {d : PyData} (h : Tst C lv sc t σ ow true) (hx : Ev C lv sc x σ ow d) : Ev C lv sc (.IfExp t x y pos) σ ow d := Ev.ite h (fun _ => hx) fun e => by cases e
theorem Ev.iteF {C : Cx} {lv : Nat} {sc : Scope} {σ : Sg} {ow : Ow} {t x y : Expr} {pos : Pos} {d : PyData} (h : Tst C lv sc t σ ow false) (hy : Ev C lv sc y σ ow d) : Ev C lv sc (.IfExp t x y pos) σ ow d := Ev.ite h (fun e => by cases e) fun _ => hy
theorem Tst.to {C : Cx} {lv : Nat} {sc : Scope} {σ : Sg} {ow : Ow} {t : Expr} {b c : Bool} (h : Tst C lv sc t σ ow b) (e : b = c) : Tst C lv sc t σ ow c := e ▸ h
theorem Ev.to {C : Cx} {lv : Nat} {sc : Scope} {σ : Sg} {ow : Ow} {t : Expr} {b c : PyData} (h : Ev C lv sc t σ ow b) (e : b = c) : Ev C lv sc t σ ow c := e ▸ h
local macro_rules | `(tactic| walk_at "zlk") => `(tactic| first | (with_reducible assumption) | (with_reducible exact Lk.here) | (with_reducible refine' Lk.there ?zn ?zz; (case zn => decide +kernel); (case zz => walk_at "zlk")) | (with_reducible refine' Lk.del ?zn ?zz; (case zn => decide +kernel); (case zz => walk_at "zlk")))
-- an expression, its value turned
local macro_rules | `(tactic| walk_at "zto") => `(tactic| (with_reducible refine' Ev.to ?zu ?zb; (case zu => walk_at "zev")))
-- a test: its truth is left to arithmetic
local macro_rules | `(tactic| walk_at "ztst") => `(tactic| (with_reducible refine' Tst.to ?zt ?zb; (case zt => walk_at "zev")))
local macro_rules | `(tactic| walk_at "zret") => `(tactic| ((with_reducible refine' WP.ret ?za ?zk); (case za => walk_at "zev"); (try (show Res.ret _ = Res.ret _))))
local macro_rules | `(tactic| walk_at "zskip") => `(tactic| (with_reducible refine' WP.skip ?zt ?zk; (case zt => (with_reducible refine' Tst.to ?zu ?zb; (case zu => walk_at "zev"); (case zb => walk_at "zdec")))))
local macro_rules | `(tactic| walk_at "zifT") => `(tactic| (with_reducible refine' WP.ifT ?zt ?zk; (case zt => (with_reducible refine' Tst.to ?zu ?zb; (case zu => walk_at "zev"); (case zb => walk_at "zdec")))))
local macro_rules | `(tactic| walk_at "zdec") => `(tactic| first | rfl | (simp only [Int.toNat_natCast, decide_eq_true_eq, decide_eq_false_iff_not, Bool.not_eq_true', Bool.not_eq_false', Bool.not_eq_true, Bool.not_eq_false]; first | done | assumption | omega) | (simp; first | done | omega))
local macro_rules | `(tactic| walk_at "zown") => `(tactic| (with_reducible refine' WP.own ?ze ?zl ?zk; (case ze => exact EvNew.listI EvI.nil (by decide)); (case zl => walk_at "zgl")))
local macro_rules | `(tactic| walk_at "zapp") => `(tactic| (with_reducible refine' WP.append ?za ?zl ?zs ?zn ?zk; (case zl => walk_at "zgl"); (case zn => decide +kernel); (case za => walk_at "zev"); (case zs => walk_at "zar")))

theorem trimmed_gives {C : Cx} (W : Wd C pP gloP bltP) (xs : List Int) (hs : xs.length ≤ 1000) : Gives C 1 "trimmed" [L xs] (L (trim xs)) := by
  refine Gives.of_body (lv := 0) (xs := ["a"]) W.ok (W.fn ix_trimmed rfl) (by walk_at "zpl1") rfl ?_
  show WP C 0 (scopeAt pP ix_trimmed) _ [("a", L xs)] none _
  walk_at "zopen"
  walk_at "zasg"
  refine WP.while (fun k σ ow => ∃ n : Nat, k = n ∧ ow = none ∧ Lk σ "n" (.int n) ∧ Lk σ "a" (L xs) ∧ n ≤ xs.length ∧ ∀ j, n ≤ j → xs.getD j 0 = 0) xs.length
    ⟨xs.length, rfl, rfl, by walk_at "zlk", by walk_at "zlk", Nat.le_refl _, fun j hj => by simp [hj]⟩ ?_
  rintro k σ ow ⟨n, rfl, rfl, h1, h2, h3, h4⟩
  refine ⟨decide ((0:Int) < k) && decide (xs.getD ((k : Int) - 1).toNat 0 = 0), Tst.and (a := decide ((0 : Int) < k)) ?_ ?_ ?_, ?_, ?_⟩
  · walk_at "zz"
  · intro hk
    simp only [hk, Bool.true_and]
    simp only [decide_eq_true_eq] at hk
    walk_at "zev"
  · intro hk; rw [hk]; rfl
  · intro hb
    walk_at "zret"
    rw [show (k : Int).toNat = k by omega, trim_take xs k h3 h4]
    simp only [Bool.and_eq_false_iff, decide_eq_false_iff_not] at hb
    rcases hb with hb | hb
    · left; omega
    · right
      rwa [show ((k : Int) - 1).toNat = k - 1 by omega] at hb
  · intro hb
    simp only [Bool.and_eq_true, decide_eq_true_eq] at hb
    walk_at "zaug"
    refine WP.nil ⟨k - 1, by omega, k - 1, rfl, rfl, ?_, by walk_at "zlk", by omega, fun j hj => ?_⟩
    · rw [show ((k - 1 : Nat) : Int) = (k : Int) - 1 by omega]
      walk_at "zlk"
    · by_cases q : j = k - 1
      · subst q
        have := hb.2
        rwa [show ((k : Int) - 1).toNat = k - 1 by omega] at this
      · exact h4 j (by omega)

theorem from_int_gives {C : Cx} (W : Wd C pP gloP bltP) (n : Int) (hn : n.toNat < big) : Gives C 1 "from_int" [.int n] (D n.toNat) := by
  refine Gives.of_body (lv := 0) (xs := ["n"]) W.ok (W.fn ix_from_int rfl) (by walk_at "zpl1") rfl ?_
  show WP C 0 (scopeAt pP ix_from_int) _ [("n", .int n)] none _
  walk_at "zopen"
  walk_at "zown"
  have hlen := len_big hn
  refine WP.while (fun k σ ow => ∃ (v : Int) (xs : List Int), k = v.toNat ∧ ow = some (("limbs" : Str), I xs) ∧ Lk σ "n" (.int v) ∧ xs ++ dig v.toNat = dig n.toNat) n.toNat
    ⟨n, [], rfl, rfl, by walk_at "zlk", rfl⟩ ?_
  rintro k σ ow ⟨v, xs, rfl, rfl, h1, h2⟩
  have hl : xs.length ≤ 25 := by
    have := congrArg List.length h2
    rw [List.length_append] at this
    omega
  refine ⟨decide (0 < v), by walk_at "zz", fun hb => ?_, fun hb => ?_⟩
  · simp only [decide_eq_false_iff_not] at hb
    refine WP.release ?_
    walk_at "zret"
    rw [show v.toNat = 0 by omega, dig_zero, List.append_nil] at h2
    rw [h2]
  · simp only [decide_eq_true_eq] at hb
    walk_at "zapp"
    walk_at "zasg"
    refine WP.nil ⟨(v / 10000).toNat, by omega, v / 10000, xs ++ [v % 10000], rfl, rfl, by walk_at "zlk", ?_⟩
    rw [← h2, dig_pos (by omega : 0 < v.toNat), List.append_assoc, List.singleton_append]
    rw [show (v / 10000).toNat = v.toNat / 10000 by omega, show ((v.toNat % 10000 : Nat) : Int) = v % 10000 by omega]
local macro_rules | `(tactic| walk_at "zfn") => `(tactic| (with_reducible refine' trimmed_gives (by assumption) _ ?_))
local macro_rules | `(tactic| walk_at "zfn") => `(tactic| (with_reducible refine' from_int_gives (by assumption) _ ?_))

/-- how two numbers lie -/
def sg (m n : Nat) : Int := if m < n then -1 else if n < m then 1 else 0
theorem down_cons (k : Nat) : I ((List.range (k + 1)).reverse.map Int.ofNat) = .int k :: I ((List.range k).reverse.map Int.ofNat) := by
  simp [List.range_succ]
theorem compare_gives {C : Cx} (W : Wd C pP gloP bltP) (m n : Nat) (hm : m < big) (hn : n < big) : Gives C 1 "compare" [D m, D n] (.int (sg m n)) := by
  refine Gives.of_body (lv := 0) (xs := ["a", "b"]) W.ok (W.fn ix_compare rfl) (by walk_at "zpl2") rfl ?_
  show WP C 0 (scopeAt pP ix_compare) _ [("b", D n), ("a", D m)] none _
  walk_at "zopen"
  have l1 := len_big hm
  have l2 := len_big hn
  by_cases hl : (dig m).length = (dig n).length
  · walk_at "zskip"
    refine WP.for (ds := I ((List.range (dig m).length).reverse.map Int.ofNat)) (fun r σ ow => ∃ k : Nat, r = I ((List.range k).reverse.map Int.ofNat) ∧ ow = none ∧ k ≤ (dig m).length ∧ Lk σ "a" (D m) ∧ Lk σ "b" (D n) ∧ ∀ j, k ≤ j → (dig m).getD j 0 = (dig n).getD j 0)
      (Src.rngDown W (by decide +kernel) (by walk_at "zgl") (by walk_at "zev") (by walk_at "zev") (by walk_at "zev") (by omega))
      ⟨_, rfl, rfl, Nat.le_refl _, by walk_at "zlk", by walk_at "zlk", fun j hj => by simp [hj, hl ▸ hj]⟩ ?_ ?_
    · rintro d r σ ow ⟨k, e, rfl, hk, h1, h2, h3⟩
      obtain ⟨k, rfl⟩ : ∃ j, k = j + 1 := ⟨k - 1, by
        cases k with
        | zero => simp at e
        | succ k => rfl⟩
      rw [down_cons] at e
      cases e
      refine ⟨_, Asg.nm (by walk_at "zgl") (by walk_at "zoff"), ?_⟩
      by_cases hq : (dig m).getD k 0 = (dig n).getD k 0
      · walk_at "zskip"
        refine WP.nil ⟨k, rfl, rfl, by omega, by walk_at "zlk", by walk_at "zlk", fun j hj => ?_⟩
        by_cases z : j = k
        · rw [z]; exact hq
        · exact h3 j (by omega)
      · walk_at "zifT"
        have lm := lim_dig m
        have ln := lim_dig n
        by_cases hlt : (dig m).getD k 0 < (dig n).getD k 0
        · have hv := val_lt_of_top hl lm ln (fun j hj => h3 j (by omega)) hlt
          rw [val_dig, val_dig] at hv
          refine WP.ret (Ev.iteT (d := .int (-1)) ?_ ?_) ?_
          · walk_at "ztst"
            walk_at "zdec"
          · walk_at "zev"
          · show Res.ret _ = Res.ret _
            unfold sg; rw [if_pos (by omega)]
        · have hv := val_lt_of_top (i := k) hl.symm ln lm (fun j hj => (h3 j (by omega)).symm) (by omega)
          rw [val_dig, val_dig] at hv
          refine WP.ret (Ev.iteF (d := .int 1) ?_ ?_) ?_
          · walk_at "ztst"
            walk_at "zdec"
          · walk_at "zev"
          · show Res.ret _ = Res.ret _
            unfold sg; rw [if_neg (by omega), if_pos (by omega)]
    · rintro σ ow ⟨k, e, rfl, hk, h1, h2, h3⟩
      have : k = 0 := by
        cases k with
        | zero => rfl
        | succ k => rw [down_cons] at e; cases e
      subst this
      have e : dig m = dig n := ext_getD hl fun j => h3 j (Nat.zero_le _)
      have : m = n := by
        have := congrArg val e
        rw [val_dig, val_dig] at this
        omega
      walk_at "zret"
      subst this
      unfold sg; simp
  · walk_at "zifT"
    by_cases hlt : (dig m).length < (dig n).length
    · have := len_lt hlt
      refine WP.ret (Ev.iteT (d := .int (-1)) ?_ ?_) ?_
      · walk_at "ztst"
        walk_at "zdec"
      · walk_at "zev"
      · show Res.ret _ = Res.ret _
        unfold sg; rw [if_pos (by omega)]
    · have := len_lt (show (dig n).length < (dig m).length by omega)
      refine WP.ret (Ev.iteF (d := .int 1) ?_ ?_) ?_
      · walk_at "ztst"
        walk_at "zdec"
      · walk_at "zev"
      · show Res.ret _ = Res.ret _
        unfold sg; rw [if_neg (by omega), if_pos (by omega)]
local macro_rules | `(tactic| walk_at "zfn") => `(tactic| (with_reducible refine' compare_gives (by assumption) _ _ ?_ ?_))

/-- an if without an else, its two ways joined -/
def JoinAt (Ψ : Sg → Ow → Prop) : Res → Prop
  | .next σ ow => Ψ σ ow
  | _ => False
theorem WP.join {C : Cx} {lv : Nat} {sc : Scope} {σ : Sg} {ow : Ow} {rest : List Stmt} {Φ : Res → Prop} {t : Expr} {b : Bool} {body : List Stmt} {pos : Pos} (Ψ : Sg → Ow → Prop) (ht : Tst C lv sc t σ ow b) (h1 : b = true → WP C lv sc body σ ow (JoinAt Ψ)) (h2 : b = false → Ψ σ ow) (h3 : ∀ σ' ow', Ψ σ' ow' → WP C lv sc rest σ' ow' Φ) :
    WP C lv sc (.If t body [] pos :: rest) σ ow Φ :=
  WP.ite ht (fun e => (h1 e).mono fun r hr => by
    cases r with
    | next σ' ow' => exact h3 σ' ow' hr
    | _ => exact hr.elim) fun e => WP.nil (h3 σ ow (h2 e))
theorem up_cons {i N : Nat} (h : i < N) : I (((List.range N).drop i).map Int.ofNat) = .int i :: I (((List.range N).drop (i + 1)).map Int.ofNat) := by
  rw [List.drop_eq_getElem_cons (by simpa using h)]
  simp
theorem up_nil {i N : Nat} (h : N ≤ i) : I (((List.range N).drop i).map Int.ofNat) = [] := by
  rw [List.drop_of_length_le (by simpa using h)]; rfl

theorem add_arith {i : Nat} {v c x y t P X Y : Int} (hP : P = 10000 ^ i) (h : v + P * c = X + Y) (ht : t = c + x + y) : v + P * (t % 10000) + (P * 10000) * (t / 10000) = X + P * x + (Y + P * y) := by
  have e : P * 10000 * (t / 10000) = P * (10000 * (t / 10000)) := by rw [Int.mul_assoc]
  have e2 : P * (t % 10000) + P * (10000 * (t / 10000)) = P * t := by rw [← Int.mul_add]; congr 1; omega
  have e3 : P * t = P * c + P * x + P * y := by rw [ht, Int.mul_add, Int.mul_add]
  omega
theorem add_gives {C : Cx} (W : Wd C pP gloP bltP) (m n : Nat) (hmn : m + n < big) : Gives C 1 "add" [D m, D n] (D (m + n)) := by
  refine Gives.of_body (lv := 0) (xs := ["a", "b"]) W.ok (W.fn ix_add rfl) (by walk_at "zpl2") rfl ?_
  show WP C 0 (scopeAt pP ix_add) _ [("b", D n), ("a", D m)] none _
  walk_at "zopen"
  have l1 := len_big (show m < big by omega)
  have l2 := len_big (show n < big by omega)
  walk_at "zown"
  walk_at "zasg"
  have hN : (max (dig m).length (dig n).length : Nat) = max (dig m).length (dig n).length := rfl
  generalize hNN : max (dig m).length (dig n).length = N at hN
  refine WP.for (ds := I ((List.range N).map Int.ofNat)) (fun r σ ow => ∃ (i : Nat) (xs : List Int) (c : Int), r = I (((List.range N).drop i).map Int.ofNat) ∧ i ≤ N ∧ ow = some (("total" : Str), I xs) ∧ Lk σ "a" (D m) ∧ Lk σ "b" (D n) ∧ Lk σ "carry" (.int c) ∧
      xs.length = i ∧ Lim xs ∧ 0 ≤ c ∧ c ≤ 1 ∧ val xs + 10000 ^ i * c = val ((dig m).take i) + val ((dig n).take i))
    (Src.rng1 W (by decide +kernel) (by walk_at "zgl") (Ev.to (by walk_at "zev") (by rw [← hNN]; congr 1; omega)) (by omega)) ?_ ?_ ?_
  · exact ⟨0, [], 0, rfl, Nat.zero_le _, rfl, by walk_at "zlk", by walk_at "zlk", by walk_at "zlk", rfl, Lim.nil, by decide, by decide, by simp [val]⟩
  · rintro d r σ ow ⟨i, xs, c, e, hi, rfl, h1, h2, h3, h4, h5, h6, h7, h8⟩
    have hiN : i < N := by
      by_cases q : i < N
      · exact q
      · rw [up_nil (by omega)] at e; cases e
    rw [up_cons hiN] at e
    cases e
    refine ⟨_, Asg.nm (by walk_at "zgl") (by walk_at "zoff"), ?_⟩
    have b1 := (lim_dig m).getD i
    have b2 := (lim_dig n).getD i
    walk_at "zasg"
    refine WP.join (b := decide ((i : Int) < (dig m).length)) (fun σ' ow' => ow' = some (("total" : Str), I xs) ∧ Lk σ' "b" (D n) ∧ Lk σ' "a" (D m) ∧ Lk σ' "i" (.int i) ∧ Lk σ' "t" (.int (c + (dig m).getD i 0))) (by walk_at "zev") (fun hb => ?_) (fun hb => ?_) ?_
    · simp only [decide_eq_true_eq] at hb
      walk_at "zaug"
      exact WP.nil ⟨rfl, by walk_at "zlk", by walk_at "zlk", by walk_at "zlk", by rw [Int.toNat_natCast]; walk_at "zlk"⟩
    · simp only [decide_eq_false_iff_not] at hb
      refine ⟨rfl, by walk_at "zlk", by walk_at "zlk", by walk_at "zlk", ?_⟩
      rw [getD_ge (xs := dig m) (by omega), Int.add_zero]
      walk_at "zlk"
    rintro σ₁ _ ⟨rfl, k1, k2, k3, k4⟩
    refine WP.join (b := decide ((i : Int) < (dig n).length)) (fun σ' ow' => ow' = some (("total" : Str), I xs) ∧ Lk σ' "b" (D n) ∧ Lk σ' "a" (D m) ∧ Lk σ' "t" (.int (c + (dig m).getD i 0 + (dig n).getD i 0))) (by walk_at "zev") (fun hb => ?_) (fun hb => ?_) ?_
    · simp only [decide_eq_true_eq] at hb
      walk_at "zaug"
      exact WP.nil ⟨rfl, by walk_at "zlk", by walk_at "zlk", by rw [Int.toNat_natCast]; walk_at "zlk"⟩
    · simp only [decide_eq_false_iff_not] at hb
      refine ⟨rfl, by walk_at "zlk", by walk_at "zlk", ?_⟩
      rw [getD_ge (xs := dig n) (by omega), Int.add_zero]
      walk_at "zlk"
    rintro σ₂ _ ⟨rfl, q1, q2, q3⟩
    generalize ht : c + (dig m).getD i 0 + (dig n).getD i 0 = t at q3
    walk_at "zapp"
    walk_at "zasg"
    refine WP.nil ⟨i + 1, xs ++ [t % 10000], t / 10000, rfl, hiN, rfl, by walk_at "zlk", by walk_at "zlk", by walk_at "zlk", by simp [h4], h5.snoc (by omega) (by omega), by omega, by omega, ?_⟩
    rw [val_snoc, h4, val_take_succ, val_take_succ, Int.pow_succ]
    exact add_arith rfl h8 ht.symm
  · rintro σ ow ⟨i, xs, c, e, hi, rfl, h1, h2, h3, h4, h5, h6, h7, h8⟩
    have hiN : i = N := by
      by_cases q : i < N
      · rw [up_cons q] at e; cases e
      · omega
    subst hiN
    rw [take_of_ge _ (by omega), take_of_ge _ (by omega), val_dig, val_dig] at h8
    refine WP.join (b := decide (0 < c)) (fun σ' ow' => ow' = some (("total" : Str), I (dig (m + n)))) (by walk_at "zev") (fun hb => ?_) (fun hb => ?_) ?_
    · simp only [decide_eq_true_eq] at hb
      walk_at "zapp"
      refine WP.nil ?_
      show some (("total" : Str), I (xs ++ [c])) = _
      rw [eq_dig (xs := xs ++ [c]) (n := m + n) (h5.snoc h6 (by omega)) (snoc_nz (by omega)) (by rw [val_snoc, h4]; omega)]
    · simp only [decide_eq_false_iff_not] at hb
      have hc : c = 0 := by omega
      subst hc
      show some (("total" : Str), I xs) = _
      rw [eq_dig (xs := xs) (n := m + n) h5 (nz_of_ge h5 fun hne => ?_) (by omega)]
      have hpos : 0 < i := by rw [← h4]; exact List.length_pos_iff.mpr hne
      rw [h4]
      by_cases q : (dig m).length = i
      · have hm0 : 0 < m := by
          by_cases z : m = 0
          · subst z; rw [dig_zero] at q; simp at q; omega
          · omega
        have := dig_ge hm0
        rw [q] at this
        omega
      · have q' : (dig n).length = i := by omega
        have hm0 : 0 < n := by
          by_cases z : n = 0
          · subst z; rw [dig_zero] at q'; simp at q'; omega
          · omega
        have := dig_ge hm0
        rw [q'] at this
        omega
    rintro σ' _ rfl
    refine WP.release ?_
    walk_at "zret"
    rfl
local macro_rules | `(tactic| walk_at "zfn") => `(tactic| (with_reducible refine' add_gives (by assumption) _ _ ?_))

theorem sub_arith {i : Nat} {v b x y t b' t' P X Y : Int} (hP : P = 10000 ^ i) (h : v = X - Y + P * b) (ht : t = x - b - y) (ht' : t' = t + 10000 * b') : v + P * t' = X + P * x - (Y + P * y) + P * 10000 * b' := by
  have e : P * 10000 * b' = P * (10000 * b') := by rw [Int.mul_assoc]
  have e3 : P * t' = P * x - P * b - P * y + P * (10000 * b') := by rw [ht', ht, Int.mul_add, Int.mul_sub, Int.mul_sub]
  omega
theorem sub_gives {C : Cx} (W : Wd C pP gloP bltP) (m n : Nat) (hm : m < big) (hn : n ≤ m) : Gives C 2 "sub" [D m, D n] (D (m - n)) := by
  refine Gives.of_body (lv := 1) (xs := ["a", "b"]) W.ok (W.fn ix_sub rfl) (by walk_at "zpl2") rfl ?_
  show WP C 1 (scopeAt pP ix_sub) _ [("b", D n), ("a", D m)] none _
  walk_at "zopen"
  have l1 := len_big hm
  have l2 := len_big (show n < big by omega)
  have l3 := len_le hn
  have hs : ¬ (sg m n < 0) := by unfold sg; split <;> (try split) <;> omega
  walk_at "zskip"
  walk_at "zown"
  walk_at "zasg"
  generalize hNN : (dig m).length = N
  refine WP.for (ds := I ((List.range N).map Int.ofNat)) (fun r σ ow => ∃ (i : Nat) (xs : List Int) (c : Int), r = I (((List.range N).drop i).map Int.ofNat) ∧ i ≤ N ∧ ow = some (("rest" : Str), I xs) ∧ Lk σ "a" (D m) ∧ Lk σ "b" (D n) ∧ Lk σ "borrow" (.int c) ∧
      xs.length = i ∧ Lim xs ∧ 0 ≤ c ∧ c ≤ 1 ∧ val xs = val ((dig m).take i) - val ((dig n).take i) + 10000 ^ i * c)
    (Src.rng1 W (by decide +kernel) (by walk_at "zgl") (Ev.to (by walk_at "zev") (by rw [← hNN])) (by omega)) ?_ ?_ ?_
  · exact ⟨0, [], 0, rfl, Nat.zero_le _, rfl, by walk_at "zlk", by walk_at "zlk", by walk_at "zlk", rfl, Lim.nil, by decide, by decide, by simp [val]⟩
  · rintro d r σ ow ⟨i, xs, c, e, hi, rfl, h1, h2, h3, h4, h5, h6, h7, h8⟩
    have hiN : i < N := by
      by_cases q : i < N
      · exact q
      · rw [up_nil (by omega)] at e; cases e
    rw [up_cons hiN] at e
    cases e
    refine ⟨_, Asg.nm (by walk_at "zgl") (by walk_at "zoff"), ?_⟩
    have b1 := (lim_dig m).getD i
    have b2 := (lim_dig n).getD i
    walk_at "zasg"
    refine WP.join (b := decide ((i : Int) < (dig n).length)) (fun σ' ow' => ow' = some (("rest" : Str), I xs) ∧ Lk σ' "b" (D n) ∧ Lk σ' "a" (D m) ∧ Lk σ' "t" (.int ((dig m).getD i 0 - c - (dig n).getD i 0))) (by walk_at "zev") (fun hb => ?_) (fun hb => ?_) ?_
    · simp only [decide_eq_true_eq] at hb
      walk_at "zaug"
      exact WP.nil ⟨rfl, by walk_at "zlk", by walk_at "zlk", by simp only [Int.toNat_natCast]; walk_at "zlk"⟩
    · simp only [decide_eq_false_iff_not] at hb
      refine ⟨rfl, by walk_at "zlk", by walk_at "zlk", ?_⟩
      rw [getD_ge (xs := dig n) (by omega), Int.sub_zero]
      simp only [Int.toNat_natCast]
      walk_at "zlk"
    rintro σ₁ _ ⟨rfl, k1, k2, k4⟩
    generalize ht : (dig m).getD i 0 - c - (dig n).getD i 0 = t at k4
    walk_at "zasg"
    refine WP.join (b := decide (t < 0)) (fun σ' ow' => ∃ t' b' : Int, ow' = some (("rest" : Str), I xs) ∧ Lk σ' "b" (D n) ∧ Lk σ' "a" (D m) ∧ Lk σ' "t" (.int t') ∧ Lk σ' "borrow" (.int b') ∧ t' = t + 10000 * b' ∧ 0 ≤ b' ∧ b' ≤ 1 ∧ 0 ≤ t' ∧ t' < 10000) (by walk_at "zev") (fun hb => ?_) (fun hb => ?_) ?_
    · simp only [decide_eq_true_eq] at hb
      walk_at "zaug"
      walk_at "zasg"
      exact WP.nil ⟨t + 10000, 1, rfl, by walk_at "zlk", by walk_at "zlk", by walk_at "zlk", by walk_at "zlk", by omega, by omega, by omega, by omega, by omega⟩
    · simp only [decide_eq_false_iff_not] at hb
      exact ⟨t, 0, rfl, by walk_at "zlk", by walk_at "zlk", by walk_at "zlk", by walk_at "zlk", by omega, by omega, by omega, by omega, by omega⟩
    rintro σ₂ _ ⟨t', b', rfl, q1, q2, q3, q4, q5, q6, q7, q8, q9⟩
    walk_at "zapp"
    refine WP.nil ⟨i + 1, xs ++ [t'], b', rfl, hiN, rfl, by walk_at "zlk", by walk_at "zlk", by walk_at "zlk", by simp [h4], h5.snoc q8 q9, q6, q7, ?_⟩
    rw [val_snoc, h4, val_take_succ, val_take_succ, Int.pow_succ]
    exact sub_arith rfl h8 ht.symm q5
  · rintro σ ow ⟨i, xs, c, e, hi, rfl, h1, h2, h3, h4, h5, h6, h7, h8⟩
    have hiN : i = N := by
      by_cases q : i < N
      · rw [up_cons q] at e; cases e
      · omega
    subst hiN
    rw [take_of_ge _ (by omega), take_of_ge _ (by omega), val_dig, val_dig] at h8
    have hlt := val_lt h5
    rw [h4] at hlt
    have hc : c = 0 := by
      by_cases q : c = 0
      · exact q
      · have : c = 1 := by omega
        subst this
        rw [Int.mul_one] at h8
        omega
    subst hc
    refine WP.release ?_
    walk_at "zret"
    rw [trim_eq (n := m - n) h5 (by omega)]
theorem sub_raises {C : Cx} (W : Wd C pP gloP bltP) (m n : Nat) (hn : n < big) (hm : m < n) : Raises C 2 "sub" [D m, D n] "ValueError" := by
  refine Raises.of_body (lv := 1) (xs := ["a", "b"]) W.ok (W.fn ix_sub rfl) (by walk_at "zpl2") rfl ?_
  show WP C 1 (scopeAt pP ix_sub) _ [("b", D n), ("a", D m)] none _
  walk_at "zopen"
  have hs : sg m n < 0 := by unfold sg; rw [if_pos hm]; decide
  walk_at "zifT"
  exact WP.raiseV W (by decide +kernel) (by walk_at "zgl") rfl
local macro_rules | `(tactic| walk_at "zfn") => `(tactic| (with_reducible refine' sub_gives (by assumption) _ _ ?_ ?_))

theorem mul_arith {i : Nat} {v c x d t P X : Int} (hP : P = 10000 ^ i) (h : v + P * c = X * d) (ht : t = x * d + c) : v + P * (t % 10000) + (P * 10000) * (t / 10000) = (X + P * x) * d := by
  have e : P * 10000 * (t / 10000) = P * (10000 * (t / 10000)) := by rw [Int.mul_assoc]
  have e2 : P * (t % 10000) + P * (10000 * (t / 10000)) = P * t := by rw [← Int.mul_add]; congr 1; omega
  have e3 : P * t = P * (x * d) + P * c := by rw [ht, Int.mul_add]
  have e4 : (X + P * x) * d = X * d + P * (x * d) := by rw [Int.add_mul, Int.mul_assoc]
  omega
theorem mul_small_gives {C : Cx} (W : Wd C pP gloP bltP) (m d : Nat) (hmd : m * d < big) (hm : m < big) (hd : d ≤ 10000) : Gives C 1 "mul_small" [D m, .int d] (D (m * d)) := by
  refine Gives.of_body (lv := 0) (xs := ["a", "d"]) W.ok (W.fn ix_mul_small rfl) (by walk_at "zpl2") rfl ?_
  show WP C 0 (scopeAt pP ix_mul_small) _ [("d", .int d), ("a", D m)] none _
  walk_at "zopen"
  have l1 := len_big hm
  by_cases h0 : d = 0
  · subst h0
    walk_at "zifT"
    refine WP.ret (d := L []) (Ev.listI EvI.nil (by decide)) ?_
    show Res.ret _ = Res.ret (L (dig (m * 0)))
    rw [Nat.mul_zero, dig_zero]
  walk_at "zskip"
  walk_at "zown"
  walk_at "zasg"
  refine WP.for (ds := I (dig m)) (fun r σ ow => ∃ (pre post xs : List Int) (c : Int), r = I post ∧ pre ++ post = dig m ∧ ow = some (("product" : Str), I xs) ∧ Lk σ "d" (.int d) ∧ Lk σ "carry" (.int c) ∧
      xs.length = pre.length ∧ Lim xs ∧ 0 ≤ c ∧ c < d ∧ val xs + 10000 ^ pre.length * c = val pre * d)
    (Src.listI (by walk_at "zev")) ?_ ?_ ?_
  · exact ⟨[], dig m, [], 0, rfl, rfl, rfl, by walk_at "zlk", by walk_at "zlk", rfl, Lim.nil, by decide, by omega, by simp [val]⟩
  · rintro y r σ ow ⟨pre, post, xs, c, e, hp, rfl, h1, h2, h4, h5, h6, h7, h8⟩
    cases post with
    | nil => cases e
    | cons x post =>
    cases e
    have hx : 0 ≤ x ∧ x < 10000 := by
      refine lim_dig m x ?_
      rw [← hp]; simp
    have hlen : pre.length + (post.length + 1) ≤ 25 := by
      have := congrArg List.length hp
      simp at this; omega
    have hxd : 0 ≤ x * d ∧ x * d ≤ 9999 * d := by
      refine ⟨Int.mul_nonneg hx.1 (by omega), Int.mul_le_mul_of_nonneg_right (by omega) (by omega)⟩
    refine ⟨_, Asg.nm (by walk_at "zgl") (by walk_at "zoff"), ?_⟩
    refine WP.asg (d := .int (x * d + c)) (Ev.bin (Ev.bin (by walk_at "zev") (by walk_at "zev") (Bin.mulL (by omega) (by omega))) (by walk_at "zev") Bin.add) (by walk_at "zgl") (by walk_at "zoff") ?_
    generalize ht : x * (d : Int) + c = t
    walk_at "zapp"
    walk_at "zasg"
    refine WP.nil ⟨pre ++ [x], post, xs ++ [t % 10000], t / 10000, rfl, by rw [List.append_assoc]; exact hp, rfl, by walk_at "zlk", by walk_at "zlk", by simp [h4], h5.snoc (by omega) (by omega), by omega, ?_, ?_⟩
    · have : t < 10000 * d := by omega
      omega
    · rw [val_snoc, val_snoc, List.length_append, List.length_singleton, Int.pow_succ, h4]
      exact mul_arith rfl h8 ht.symm
  · rintro σ ow ⟨pre, post, xs, c, e, hp, rfl, h1, h2, h4, h5, h6, h7, h8⟩
    have : post = [] := by
      cases post with
      | nil => rfl
      | cons x post => cases e
    subst this
    rw [List.append_nil] at hp
    subst hp
    rw [val_dig] at h8
    have hcast : ((m * d : Nat) : Int) = (m : Int) * d := by simp
    refine WP.join (b := decide (0 < c)) (fun σ' ow' => ow' = some (("product" : Str), I (dig (m * d)))) (by walk_at "zev") (fun hb => ?_) (fun hb => ?_) ?_
    · simp only [decide_eq_true_eq] at hb
      walk_at "zapp"
      refine WP.nil ?_
      show some (("product" : Str), I (xs ++ [c])) = _
      rw [eq_dig (xs := xs ++ [c]) (n := m * d) (h5.snoc h6 (by omega)) (snoc_nz (by omega)) (by rw [val_snoc, h4, hcast]; omega)]
    · simp only [decide_eq_false_iff_not] at hb
      have hc : c = 0 := by omega
      subst hc
      show some (("product" : Str), I xs) = _
      rw [eq_dig (xs := xs) (n := m * d) h5 (nz_of_ge h5 fun hne => ?_) (by rw [hcast]; omega)]
      have hm0 : 0 < m := by
        by_cases z : m = 0
        · subst z; rw [dig_zero] at h4; exact absurd (List.length_eq_zero_iff.mp h4) hne
        · omega
      have h9 := dig_ge hm0
      rw [h4]
      have : (m : Int) * 1 ≤ m * d := Int.mul_le_mul_of_nonneg_left (by omega) (by omega)
      omega
    rintro σ' _ rfl
    refine WP.release ?_
    walk_at "zret"
    rfl
local macro_rules | `(tactic| walk_at "zfn") => `(tactic| (with_reducible refine' mul_small_gives (by assumption) _ _ ?_ ?_ ?_))

theorem Bin.divP' {C : Cx} {a b : Int} (h : 0 < b) (h' : b < 1073741824) : Bin C .FloorDiv (.int a) (.int b) (.int (a / b)) := Bin.divP h h'
theorem sg_le {m n : Nat} : sg m n ≤ 0 ↔ m ≤ n := by unfold sg; split <;> (try split) <;> omega
theorem trial_digit_gives {C : Cx} (W : Wd C pP gloP bltP) (r b : Nat) (hb : 0 < b) (hr : r < 10000 * b) (hbig : 10000 * b < big) : Gives C 2 "trial_digit" [D r, D b] (.int (r / b : Nat)) := by
  refine Gives.of_body (lv := 1) (xs := ["rem", "b"]) W.ok (W.fn ix_trial_digit rfl) (by walk_at "zpl2") rfl ?_
  show WP C 1 (scopeAt pP ix_trial_digit) _ [("b", D b), ("rem", D r)] none _
  walk_at "zopen"
  walk_at "zasg"
  refine WP.asg (d := .int (9999 : Nat)) (by walk_at "zto"; rfl) (by walk_at "zgl") (by walk_at "zoff") ?_
  refine WP.while (fun k σ ow => ∃ lo hi : Nat, k = hi - lo ∧ ow = none ∧ Lk σ "low" (.int lo) ∧ Lk σ "high" (.int hi) ∧ Lk σ "b" (D b) ∧ Lk σ "rem" (D r) ∧ lo ≤ hi ∧ hi ≤ 9999 ∧ b * lo ≤ r ∧ r < b * (hi + 1)) 9999
    ⟨0, 9999, rfl, rfl, by show Lk _ _ (.int 0); walk_at "zlk", by walk_at "zlk", by walk_at "zlk", by walk_at "zlk", by decide, by decide, by omega, by omega⟩ ?_
  rintro k σ ow ⟨lo, hi, rfl, rfl, h1, h2, h3, h4, h5, h6, h7, h8⟩
  refine ⟨decide ((lo : Int) < hi), by walk_at "zev", fun hq => ?_, fun hq => ?_⟩
  · simp only [decide_eq_false_iff_not] at hq
    have e : lo = hi := by omega
    subst e
    walk_at "zret"
    have : r / b = lo := Nat.div_eq_of_lt_le (by rw [Nat.mul_comm]; exact h7) (by rw [Nat.mul_comm]; exact h8)
    rw [this]
  · simp only [decide_eq_true_eq] at hq
    generalize hmid : (lo + hi + 1) / 2 = mid
    refine WP.asg (d := .int mid) (by walk_at "zto"; congr 1; omega) (by walk_at "zgl") (by walk_at "zoff") ?_
    have hmb : b * mid < big := Nat.lt_of_le_of_lt (Nat.mul_le_mul_left b (show mid ≤ 10000 by omega)) (by omega)
    have hbb : b < big := by omega
    have hrb : r < big := by omega
    by_cases hc : b * mid ≤ r
    · have := sg_le.mpr hc
      walk_at "zifT"
      walk_at "zasg"
      exact WP.nil (WP.nil ⟨hi - mid, by omega, mid, hi, rfl, rfl, by walk_at "zlk", by walk_at "zlk", by walk_at "zlk", by walk_at "zlk", by omega, by omega, hc, h8⟩)
    · have := fun q => hc (sg_le.mp q)
      refine WP.ifF (Tst.to (by walk_at "zev") (by simp only [decide_eq_false_iff_not]; exact this)) ?_
      refine WP.asg (d := .int (mid - 1 : Nat)) (by walk_at "zto"; congr 1; omega) (by walk_at "zgl") (by walk_at "zoff") ?_
      exact WP.nil (WP.nil ⟨mid - 1 - lo, by omega, lo, mid - 1, rfl, rfl, by walk_at "zlk", by walk_at "zlk", by walk_at "zlk", by walk_at "zlk", by omega, by omega, h7, by rw [show mid - 1 + 1 = mid by omega]; omega⟩)
local macro_rules | `(tactic| walk_at "zfn") => `(tactic| (with_reducible refine' trial_digit_gives (by assumption) _ _ ?_ ?_ ?_))

theorem EvNew.repN {C : Cx} {lv : Nat} {sc : Scope} {σ : Sg} {ow : Ow} {e r : Expr} {q pos : Pos} {d : Int} {n : Nat} (he : Ev C lv sc e σ ow (.int d)) (hr : Ev C lv sc r σ ow (.int n)) (hn : n ≤ 1000) (hst : ∀ env, starEach [e] env = (false, eval e env) :: starEach [] env := by intro _; with_unfolding_all rfl) :
    EvNew C lv sc (.BinOp (.List [e] q) .Mult r pos) σ ow (I (List.replicate n d)) := by
  have := EvNew.repI (C := C) (lv := lv) (sc := sc) (σ := σ) (ow := ow) (q := q) (pos := pos) he hr (by omega) (by omega) hst
  rwa [Int.toNat_natCast] at this
theorem val_drop_pred {xs : List Int} {k : Nat} (h : k < xs.length) : val (xs.drop k) = xs.getD k 0 + 10000 * val (xs.drop (k + 1)) := by
  rw [List.drop_eq_getElem_cons h, val]
  simp [h]
theorem lim_set {xs : List Int} (h : Lim xs) (i : Nat) {x : Int} (h0 : 0 ≤ x) (h1 : x < 10000) : Lim (xs.set i x) := fun y hy => by
  rcases List.mem_or_eq_of_mem_set hy with q | q
  · exact h y q
  · rw [q]; exact ⟨h0, h1⟩
theorem divmod_long_gives {C : Cx} (W : Wd C pP gloP bltP) (m n : Nat) (hn : 0 < n) (hm : m < big) (hb : 10000 * n < big) : Gives C 3 "divmod_long" [D m, D n] (.tuple [D (m / n), D (m % n)]) := by
  refine Gives.of_body (lv := 2) (xs := ["a", "b"]) W.ok (W.fn ix_divmod_long rfl) (by walk_at "zpl2") rfl ?_
  show WP C 2 (scopeAt pP ix_divmod_long) _ [("b", D n), ("a", D m)] none _
  walk_at "zopen"
  have l1 := len_big hm
  have l2 := len_big (show n < big by omega)
  have hne : (dig n).length ≠ 0 := fun e => by
    have := dig_nil_iff.mp (List.length_eq_zero_iff.mp e); omega
  walk_at "zskip"
  refine WP.own (ds := I (List.replicate (dig m).length 0)) ?_ (by walk_at "zgl") ?_
  · refine EvNew.repN (by walk_at "zev") (by walk_at "zev") (by omega)
  refine WP.asg (d := D 0) (Ev.to (Ev.listI EvI.nil (by decide)) (by show L [] = L (dig 0); rw [dig_zero])) (by walk_at "zgl") (by walk_at "zoff") ?_
  generalize hN : (dig m).length = N
  refine WP.for (ds := I ((List.range N).reverse.map Int.ofNat)) (fun r σ ow => ∃ (k : Nat) (q : List Int) (ρ : Nat), r = I ((List.range k).reverse.map Int.ofNat) ∧ k ≤ N ∧ ow = some (("q" : Str), I q) ∧ Lk σ "a" (D m) ∧ Lk σ "b" (D n) ∧ Lk σ "r" (D ρ) ∧
      q.length = N ∧ Lim q ∧ ρ < n ∧ val (q.drop k) * n + ρ = val ((dig m).drop k))
    (Src.rngDown W (by decide +kernel) (by walk_at "zgl") (by walk_at "zto"; rw [← hN]) (by walk_at "zev") (by walk_at "zev") (by omega)) ?_ ?_ ?_
  · refine ⟨N, List.replicate N 0, 0, rfl, Nat.le_refl _, rfl, by walk_at "zlk", by walk_at "zlk", by walk_at "zlk", by simp, ?_, hn, ?_⟩
    · intro x hx
      rw [(List.mem_replicate.mp hx).2]; decide
    · rw [List.drop_of_length_le (by simp), List.drop_of_length_le (by omega)]
      simp [val]
  · rintro d r σ ow ⟨k, q, ρ, e, hk, rfl, h1, h2, h3, h4, h5, h6, h7⟩
    obtain ⟨k, rfl⟩ : ∃ j, k = j + 1 := ⟨k - 1, by
      cases k with
      | zero => simp at e
      | succ k => rfl⟩
    rw [down_cons] at e
    cases e
    refine ⟨_, Asg.nm (by walk_at "zgl") (by walk_at "zoff"), ?_⟩
    have b1 := (lim_dig m).getD k
    have l3 := len_big (show ρ < big by omega)
    obtain ⟨x, hx⟩ : ∃ x : Nat, (dig m).getD k 0 = x := ⟨((dig m).getD k 0).toNat, by omega⟩
    refine WP.asg (d := D (x + 10000 * ρ)) ?_ (by walk_at "zgl") (by walk_at "zoff") ?_
    · walk_at "zto"
      rw [Int.toNat_natCast, hx, List.singleton_append, trim_eq (n := x + 10000 * ρ) (Lim.cons (by omega) (by omega) (lim_dig ρ)) (by show (x : Int) + 10000 * val (dig ρ) = _; rw [val_dig]; omega)]
    generalize hy : x + 10000 * ρ = y
    have hyn : y < 10000 * n := by omega
    walk_at "zasg"
    have hd : y / n < 10000 := Nat.div_lt_of_lt_mul (by rw [Nat.mul_comm]; exact hyn)
    refine WP.setItem (k := k) (d := (y / n : Nat)) (by walk_at "zev") (by walk_at "zev") (by omega) (by omega) (by omega) (by walk_at "zgl") ?_
    have hmul : n * (y / n) ≤ y := Nat.mul_div_le y n
    refine WP.asg (d := D (y % n)) ?_ (by walk_at "zgl") (by walk_at "zoff") ?_
    · walk_at "zto"
      show L (dig (y - n * (y / n))) = L (dig (y % n))
      have := Nat.mod_add_div y n
      rw [show y - n * (y / n) = y % n by omega]
    refine WP.nil ⟨k, q.set k (y / n : Nat), y % n, rfl, by omega, by rw [Int.toNat_natCast], by walk_at "zlk", by walk_at "zlk", by walk_at "zlk", by simpa using h4, lim_set h5 k (Int.natCast_nonneg _) (by exact_mod_cast hd), Nat.mod_lt _ hn, ?_⟩
    rw [val_drop_pred (xs := dig m) (by omega), hx, ← h7, val_drop_pred (xs := q.set k (y / n : Nat)) (by simp; omega)]
    have e1 : (q.set k ((y / n : Nat) : Int)).getD k 0 = (y / n : Nat) := by
      have : k < q.length := by omega
      simp [this]
    have e2 : (q.set k ((y / n : Nat) : Int)).drop (k + 1) = q.drop (k + 1) := by
      rw [List.drop_set_of_lt (by omega)]
    rw [e1, e2, Int.add_mul]
    have hq := Nat.mod_add_div y n
    have hc : ((n * (y / n) : Nat) : Int) = (n : Int) * (y / n : Nat) := by simp
    have hc2 : (n : Int) * ((y / n : Nat) : Int) = ((y / n : Nat) : Int) * n := Int.mul_comm _ _
    have hc3 : 10000 * val (q.drop (k + 1)) * (n : Int) = 10000 * (val (q.drop (k + 1)) * n) := Int.mul_assoc _ _ _
    omega
  · rintro σ ow ⟨k, q, ρ, e, hk, rfl, h1, h2, h3, h4, h5, h6, h7⟩
    have : k = 0 := by
      cases k with
      | zero => rfl
      | succ k => rw [down_cons] at e; cases e
    subst this
    rw [List.drop_zero, List.drop_zero, val_dig] at h7
    refine WP.release ?_
    walk_at "zret"
    have hv := val_nonneg h5
    obtain ⟨Q, hQ⟩ : ∃ Q : Nat, val q = Q := ⟨(val q).toNat, by omega⟩
    rw [hQ] at h7
    have h8 : Q * n + ρ = m := by
      have : ((Q * n + ρ : Nat) : Int) = m := by push_cast; exact h7
      omega
    have e1 : m / n = Q := by
      rw [← h8, Nat.add_comm, Nat.add_mul_div_right _ _ hn, Nat.div_eq_of_lt h6, Nat.zero_add]
    have e2 : m % n = ρ := by
      rw [← h8, Nat.add_comm, Nat.add_mul_mod_self_right, Nat.mod_eq_of_lt h6]
    rw [trim_eq h5 hQ, e1, e2]
theorem divmod_long_raises {C : Cx} (W : Wd C pP gloP bltP) (m : Nat) : Raises C 3 "divmod_long" [D m, D 0] "ZeroDivisionError" := by
  refine Raises.of_body (lv := 2) (xs := ["a", "b"]) W.ok (W.fn ix_divmod_long rfl) (by walk_at "zpl2") rfl ?_
  show WP C 2 (scopeAt pP ix_divmod_long) _ [("b", L (dig 0)), ("a", D m)] none _
  rw [dig_zero]
  walk_at "zopen"
  walk_at "zifT"
  exact WP.raiseZ W (by decide +kernel) (by walk_at "zgl") rfl
local macro_rules | `(tactic| walk_at "zfn") => `(tactic| (with_reducible refine' divmod_long_gives (by assumption) _ _ ?_ ?_ ?_))

theorem gcd_nat_gives {C : Cx} (W : Wd C pP gloP bltP) (m n : Nat) (hm : 10000 * m < big) (hn : 10000 * n < big) : Gives C 4 "gcd_nat" [D m, D n] (D (Nat.gcd m n)) := by
  refine Gives.of_body (lv := 3) (xs := ["a", "b"]) W.ok (W.fn ix_gcd_nat rfl) (by walk_at "zpl2") rfl ?_
  show WP C 3 (scopeAt pP ix_gcd_nat) _ [("b", D n), ("a", D m)] none _
  walk_at "zopen"
  have l1 := len_big (show m < big by omega)
  have l2 := len_big (show n < big by omega)
  walk_at "zasg"
  walk_at "zasg"
  refine WP.while (fun k σ ow => ∃ u v : Nat, k = v ∧ ow = none ∧ Lk σ "x" (D u) ∧ Lk σ "y" (D v) ∧ 10000 * u < big ∧ 10000 * v < big ∧ Nat.gcd u v = Nat.gcd m n) n
    ⟨m, n, rfl, rfl, by walk_at "zlk", by walk_at "zlk", hm, hn, rfl⟩ ?_
  rintro k σ ow ⟨u, v, rfl, rfl, h1, h2, h3, h4, h5⟩
  have l3 := len_big (show k < big by omega)
  refine ⟨decide ((0 : Int) < (dig k).length), by walk_at "zev", fun hq => ?_, fun hq => ?_⟩
  · simp only [decide_eq_false_iff_not] at hq
    have e : k = 0 := dig_nil_iff.mp (List.length_eq_zero_iff.mp (by omega))
    subst e
    walk_at "zret"
    rw [← h5, Nat.gcd_zero_right]
  · simp only [decide_eq_true_eq] at hq
    have hk : 0 < k := by
      by_cases z : k = 0
      · subst z; rw [dig_zero] at hq; simp at hq
      · omega
    have hlt := Nat.mod_lt u hk
    walk_at "zasg"
    walk_at "zasg"
    walk_at "zasg"
    refine WP.nil ⟨u % k, hlt, k, u % k, rfl, rfl, by walk_at "zlk", by walk_at "zlk", h4, by omega, ?_⟩
    rw [← h5, Nat.gcd_comm u k, Nat.gcd_rec k u, Nat.gcd_comm]
local macro_rules | `(tactic| walk_at "zfn") => `(tactic| (with_reducible refine' gcd_nat_gives (by assumption) _ _ ?_ ?_))

/-- data that may be compared -/
structure Sh (d : PyData) (k : Nat) : Prop where
  lay : d.canLay0 = true
  dep : d.depth ≤ k
theorem Sh.int {i : Int} {k : Nat} : Sh (.int i) k := ⟨rfl, Nat.zero_le _⟩
theorem Sh.bool {b : Bool} {k : Nat} : Sh (.bool b) k := ⟨rfl, Nat.zero_le _⟩
theorem Sh.none {k : Nat} : Sh .none k := ⟨rfl, Nat.zero_le _⟩
theorem Sh.ints {xs : List Int} {k : Nat} : Sh (L xs) (k + 1) := ⟨by simp only [PyData.canLay0]; exact lay_ints xs, by simp only [PyData.depth]; rw [depth_ints]; omega⟩
theorem Sh.tup2 {a b : PyData} {k : Nat} (h : Sh a k) (h' : Sh b k) : Sh (.tuple [a, b]) (k + 1) := ⟨by simp [PyData.canLay0, PyData.canLayAll0, h.lay, h'.lay], by have := h.dep; have := h'.dep; simp only [PyData.depth, PyData.depthAll]; omega⟩
theorem Sh.tup3 {a b c : PyData} {k : Nat} (h : Sh a k) (h' : Sh b k) (h'' : Sh c k) : Sh (.tuple [a, b, c]) (k + 1) := ⟨by simp [PyData.canLay0, PyData.canLayAll0, h.lay, h'.lay, h''.lay], by have := h.dep; have := h'.dep; have := h''.dep; simp only [PyData.depth, PyData.depthAll]; omega⟩
theorem Sh.tup4 {a b c d : PyData} {k : Nat} (h : Sh a k) (h' : Sh b k) (h'' : Sh c k) (h3 : Sh d k) : Sh (.tuple [a, b, c, d]) (k + 1) := ⟨by simp [PyData.canLay0, PyData.canLayAll0, h.lay, h'.lay, h''.lay, h3.lay], by have := h.dep; have := h'.dep; have := h''.dep; have := h3.dep; simp only [PyData.depth, PyData.depthAll]; omega⟩
theorem Sh.shaped {d : PyData} {k : Nat} (h : Sh d k) (hk : k ≤ 64) : SeqAt.shaped d = true := by
  unfold SeqAt.shaped
  rw [h.lay, Bool.true_and]
  exact decide_eq_true (Nat.le_trans h.dep hk)
mutual
theorem eqv_refl : ∀ d : PyData, d.canLay0 = true → PyData.eqv d d = true
  | .none, _ => rfl
  | .bool b, _ => by simp [PyData.eqv]
  | .int i, _ => by simp [PyData.eqv]
  | .str x, _ => by simp [PyData.eqv]
  | .list xs, h => by simp only [PyData.eqv]; exact eqvAll_refl xs (by simpa [PyData.canLay0] using h)
  | .tuple xs, h => by simp only [PyData.eqv]; exact eqvAll_refl xs (by simpa [PyData.canLay0] using h)
  | .dict _, h => by simp [PyData.canLay0] at h
theorem eqvAll_refl : ∀ ds : List PyData, PyData.canLayAll0 ds = true → PyData.eqvAll ds ds = true
  | [], _ => rfl
  | d :: ds, h => by
    simp only [PyData.canLayAll0, Bool.and_eq_true] at h
    simp only [PyData.eqvAll, eqv_refl d h.1, eqvAll_refl ds h.2, Bool.and_self]
end
section
variable {C : Cx} {lv : Nat} {sc : Scope} {σ : Sg} {ow : Ow}
theorem Cmp.neSame {d : PyData} {k : Nat} (h : Sh d k) (hk : k ≤ 64) : Cmp C .NotEq d d false := by
  have := Cmp.ne (C := C) (h.shaped hk) (h.shaped hk)
  rwa [eqv_refl d h.lay] at this
theorem Cmp.eqSame {d : PyData} {k : Nat} (h : Sh d k) (hk : k ≤ 64) : Cmp C .Eq d d true := by
  have := Cmp.eq (C := C) (h.shaped hk) (h.shaped hk)
  rwa [eqv_refl d h.lay] at this
theorem Cmp.neTo {d e : PyData} {k : Nat} (he : d = e) (h : Sh d k) (hk : k ≤ 64) : Cmp C .NotEq d e false := he ▸ Cmp.neSame h hk
theorem Cmp.eqBool {a b : Bool} : Cmp C .Eq (.bool a) (.bool b) (a == b) := Cmp.eq (Sh.bool (k := 0).shaped (by decide)) (Sh.bool (k := 0).shaped (by decide))
theorem Cmp.neBool {a b : Bool} : Cmp C .NotEq (.bool a) (.bool b) (!(a == b)) := Cmp.ne (Sh.bool (k := 0).shaped (by decide)) (Sh.bool (k := 0).shaped (by decide))
theorem Cmp.eqInts {xs ys : List Int} : Cmp C .Eq (L xs) (L ys) (decide (xs = ys)) := by
  have := Cmp.eq (C := C) (Sh.ints (xs := xs) (k := 0).shaped (by decide)) (Sh.ints (xs := ys) (k := 0).shaped (by decide))
  simp only [PyData.eqv] at this
  rwa [eqv_ints] at this
theorem Cmp.neInts {xs ys : List Int} : Cmp C .NotEq (L xs) (L ys) (!decide (xs = ys)) := by
  have := Cmp.ne (C := C) (Sh.ints (xs := xs) (k := 0).shaped (by decide)) (Sh.ints (xs := ys) (k := 0).shaped (by decide))
  simp only [PyData.eqv] at this
  rwa [eqv_ints] at this
theorem Tst.or3 {x y z : Expr} {pos : Pos} {a b c : Bool} (h : Tst C lv sc x σ ow a) (h' : a = false → Tst C lv sc y σ ow b) (h'' : a = false → b = false → Tst C lv sc z σ ow c) : Tst C lv sc (.BoolOp .Or [x, y, z] pos) σ ow (a || b || c) := by
  intro P s Q E R F k
  refine wpAny_isTrue_BoolOp (wpAny_allTrue_Or_cons (h P s _ _ R F fun h₁ t₁ x₁ => ?_))
  cases a with
  | true => exact k _ _ x₁
  | false =>
    refine wpAny_allTrue_Or_cons (h' rfl P _ _ _ R (F.ext' x₁) fun h₂ t₂ x₂ => ?_)
    cases b with
    | true => exact k _ _ (x₁.trans x₂)
    | false =>
      refine wpAny_allTrue_Or_cons (h'' rfl rfl P _ _ _ R ((F.ext' x₁).ext' x₂) fun h₃ t₃ x₃ => ?_)
      cases c with
      | true => exact k _ _ ((x₁.trans x₂).trans x₃)
      | false => exact wpAny_allTrue_Or_nil (k _ _ ((x₁.trans x₂).trans x₃))
theorem Tst.or' {x y : Expr} {pos : Pos} {a b : Bool} (h : Tst C lv sc x σ ow a) (h' : Tst C lv sc y σ ow b) : Tst C lv sc (.BoolOp .Or [x, y] pos) σ ow (a || b) :=
  Tst.or h (fun e => by rw [e]; exact h') fun e => by rw [e]; rfl
theorem Tst.and' {x y : Expr} {pos : Pos} {a b : Bool} (h : Tst C lv sc x σ ow a) (h' : Tst C lv sc y σ ow b) : Tst C lv sc (.BoolOp .And [x, y] pos) σ ow (a && b) :=
  Tst.and h (fun e => by rw [e]; exact h') fun e => by rw [e]; rfl
theorem Ev.and' {x y : Expr} {pos : Pos} {a b : Bool} (h : Ev C lv sc x σ ow (.bool a)) (h' : Ev C lv sc y σ ow (.bool b)) : Ev C lv sc (.BoolOp .And [x, y] pos) σ ow (.bool (a && b)) :=
  Ev.and h (fun e => by rw [e]; exact h') fun e => by rw [e]; rfl
theorem Ev.or' {x y : Expr} {pos : Pos} {a b : Bool} (h : Ev C lv sc x σ ow (.bool a)) (h' : Ev C lv sc y σ ow (.bool b)) : Ev C lv sc (.BoolOp .Or [x, y] pos) σ ow (.bool (a || b)) :=
  Ev.or h (fun e => by rw [e]; exact h') fun e => by rw [e]; rfl
end
local macro_rules | `(tactic| walk_at "zsh") => `(tactic| repeat' (first | with_reducible exact Sh.int | with_reducible exact Sh.bool | with_reducible exact Sh.ints | with_reducible exact Sh.none | with_reducible refine Sh.tup2 ?_ ?_ | with_reducible refine Sh.tup3 ?_ ?_ ?_ | with_reducible refine Sh.tup4 ?_ ?_ ?_ ?_))
local macro_rules | `(tactic| walk_at "zcmp") => `(tactic| first
  | with_reducible exact Cmp.eqBool
  | with_reducible exact Cmp.neBool
  | with_reducible exact Cmp.eqInts
  | with_reducible exact Cmp.neInts)


abbrev S (n : Int) : PyData := .tuple [.int n.sign, D n.natAbs]
theorem S_eq {n s : Int} {k : Nat} (h : n.sign = s) (h' : n.natAbs = k) : S n = .tuple [.int s, D k] := by rw [← h, ← h']
theorem sign_le (a : Int) : -1 ≤ a.sign ∧ a.sign ≤ 1 := by
  rcases Int.lt_trichotomy a 0 with h | h | h
  · rw [Int.sign_eq_neg_one_of_neg h]; decide
  · rw [h]; decide
  · rw [Int.sign_eq_one_of_pos h]; decide
theorem with_sign_gives {C : Cx} (W : Wd C pP gloP bltP) (s : Int) (m : Nat) (hm : m < big) : Gives C 1 "with_sign" [.int s, D m] (.tuple [.int (if m = 0 then 0 else s), D m]) := by
  refine Gives.of_body (lv := 0) (xs := ["sign", "magnitude"]) W.ok (W.fn ix_with_sign rfl) (by walk_at "zpl2") rfl ?_
  show WP C 0 (scopeAt pP ix_with_sign) _ [("magnitude", D m), ("sign", .int s)] none _
  walk_at "zopen"
  have l1 := len_big hm
  by_cases h0 : m = 0
  · subst h0
    have : (dig 0).length = 0 := by rw [dig_zero]; rfl
    walk_at "zifT"
    walk_at "zret"
    show Res.ret _ = Res.ret (.tuple [.int (if 0 = 0 then 0 else s), L (dig 0)])
    rw [dig_zero]; rfl
  · have : (dig m).length ≠ 0 := fun e => h0 (dig_nil_iff.mp (List.length_eq_zero_iff.mp e))
    walk_at "zskip"
    walk_at "zret"
    rw [if_neg h0]
local macro_rules | `(tactic| walk_at "zfn") => `(tactic| (with_reducible refine' with_sign_gives (by assumption) _ _ ?_))
theorem signed_from_int_gives {C : Cx} (W : Wd C pP gloP bltP) (n : Int) (hn : n.natAbs < big) : Gives C 2 "signed_from_int" [.int n] (S n) := by
  refine Gives.of_body (lv := 1) (xs := ["n"]) W.ok (W.fn ix_signed_from_int rfl) (by walk_at "zpl1") rfl ?_
  show WP C 1 (scopeAt pP ix_signed_from_int) _ [("n", .int n)] none _
  walk_at "zopen"
  by_cases h0 : n < 0
  · walk_at "zifT"
    walk_at "zret"
    rw [S_eq (Int.sign_eq_neg_one_of_neg h0) (show n.natAbs = (-n).toNat by omega)]
  · walk_at "zskip"
    walk_at "zret"
    by_cases h1 : n = 0
    · subst h1; rfl
    · rw [if_neg (by omega), S_eq (Int.sign_eq_one_of_pos (show 0 < n by omega)) (show n.natAbs = n.toNat by omega)]
local macro_rules | `(tactic| walk_at "zfn") => `(tactic| (with_reducible refine' signed_from_int_gives (by assumption) _ ?_))
/-- division with the floor, by the absolute values -/
theorem fdiv_pos_parts (a b : Int) (hb : 0 < b) :
    (a.fdiv b).natAbs = (if a < 0 ∧ 0 < a.natAbs % b.natAbs then a.natAbs / b.natAbs + 1 else a.natAbs / b.natAbs) ∧
    (a.fmod b).natAbs = (if a < 0 ∧ 0 < a.natAbs % b.natAbs then b.natAbs - a.natAbs % b.natAbs else a.natAbs % b.natAbs) ∧
    (a.fdiv b).sign = (if (a.fdiv b).natAbs = 0 then 0 else a.sign) ∧ (a.fmod b).sign = (if (a.fmod b).natAbs = 0 then 0 else 1) := by
  rw [Int.fdiv_eq_ediv_of_nonneg _ (by omega), Int.fmod_eq_emod_of_nonneg _ (by omega)]
  obtain ⟨n, rfl⟩ : ∃ n : Nat, b = n := ⟨b.toNat, by omega⟩
  have hn : 0 < n := by omega
  have hs : ∀ z : Int, 0 ≤ z → z.sign = if z.natAbs = 0 then 0 else 1 := fun z hz => by
    by_cases q : z = 0
    · subst q; rfl
    · rw [Int.sign_eq_one_of_pos (by omega), if_neg (by omega)]
  have hm0 := Int.emod_nonneg a (show (n : Int) ≠ 0 by omega)
  by_cases ha : a < 0
  · obtain ⟨m, rfl⟩ : ∃ m : Nat, a = -(m : Int) := ⟨a.natAbs, by omega⟩
    have hm : 0 < m := by omega
    have h1 : (m : Int) = n * (m / n : Nat) + (m % n : Nat) := by
      have := Nat.mod_add_div m n
      have h2 : ((n * (m / n) : Nat) : Int) = (n : Int) * (m / n : Nat) := by simp
      omega
    have hlt := Nat.mod_lt m hn
    simp only [Int.natAbs_neg, Int.natAbs_natCast, ha, true_and]
    generalize m / n = q at *
    generalize m % n = r at *
    by_cases hr : 0 < r
    · have e : -(m : Int) = (n - r : Int) + n * (-(q + 1 : Int)) := by
        rw [h1, Int.mul_neg, Int.mul_add]; omega
      have e1 : -(m : Int) / n = -(q + 1 : Int) := by
        rw [e, Int.add_mul_ediv_left _ _ (by omega), Int.ediv_eq_zero_of_lt (by omega) (by omega), Int.zero_add]
      have e2 : -(m : Int) % n = n - r := by
        rw [e, Int.add_mul_emod_self_left, Int.emod_eq_of_lt (by omega) (by omega)]
      rw [if_pos hr, if_pos hr, e1, e2]
      refine ⟨by omega, by omega, ?_, hs _ (by omega)⟩
      rw [Int.sign_eq_neg_one_of_neg (by omega), if_neg (by omega), Int.sign_eq_neg_one_of_neg ha]
    · have hr0 : r = 0 := by omega
      subst hr0
      have e : -(m : Int) = 0 + n * (-(q : Int)) := by rw [h1, Int.mul_neg]; omega
      have e1 : -(m : Int) / n = -(q : Int) := by
        rw [e, Int.add_mul_ediv_left _ _ (by omega), Int.zero_ediv, Int.zero_add]
      have e2 : -(m : Int) % n = 0 := by
        rw [e, Int.add_mul_emod_self_left, Int.zero_emod]
      rw [if_neg hr, if_neg hr, e1, e2]
      refine ⟨by omega, by omega, ?_, rfl⟩
      have hq : q ≠ 0 := by
        rintro rfl
        simp at h1; omega
      rw [Int.sign_eq_neg_one_of_neg (by omega), if_neg (by omega), Int.sign_eq_neg_one_of_neg ha]
  · obtain ⟨m, rfl⟩ : ∃ m : Nat, a = m := ⟨a.toNat, by omega⟩
    have e1 : (m : Int) / n = (m / n : Nat) := by simp
    have e2 : (m : Int) % n = (m % n : Nat) := by simp
    rw [e1, e2]
    simp only [Int.natAbs_natCast, ha, false_and, if_false, true_and]
    refine ⟨?_, hs _ (Int.natCast_nonneg _)⟩
    by_cases q : m / n = 0
    · rw [if_pos q, q]; rfl
    · have : 0 < m / n := Nat.pos_of_ne_zero q
      have hm : 0 < m := by
        by_cases z : m = 0
        · subst z; simp at this
        · omega
      rw [if_neg q, Int.sign_eq_one_of_pos (by exact_mod_cast this), Int.sign_eq_one_of_pos (by exact_mod_cast hm)]
theorem fdiv_parts (a b : Int) (hb : b ≠ 0) :
    (a.fdiv b).natAbs = (if a.sign * b.sign < 0 ∧ 0 < a.natAbs % b.natAbs then a.natAbs / b.natAbs + 1 else a.natAbs / b.natAbs) ∧
    (a.fmod b).natAbs = (if a.sign * b.sign < 0 ∧ 0 < a.natAbs % b.natAbs then b.natAbs - a.natAbs % b.natAbs else a.natAbs % b.natAbs) ∧
    (a.fdiv b).sign = (if (a.fdiv b).natAbs = 0 then 0 else a.sign * b.sign) ∧ (a.fmod b).sign = (if (a.fmod b).natAbs = 0 then 0 else b.sign) := by
  have hsg : ∀ z : Int, z.sign < 0 ↔ z < 0 := fun z => by
    rcases Int.lt_trichotomy z 0 with h | h | h
    · rw [Int.sign_eq_neg_one_of_neg h]; omega
    · rw [h]; decide
    · rw [Int.sign_eq_one_of_pos h]; omega
  rcases Int.lt_or_gt_of_ne hb with h | h
  · have P := fdiv_pos_parts (-a) (-b) (by omega)
    rw [Int.neg_fdiv_neg, Int.neg_fmod_neg, Int.natAbs_neg, Int.natAbs_neg, Int.natAbs_neg, Int.sign_neg, Int.sign_neg] at P
    rw [Int.sign_eq_neg_one_of_neg h]
    have e : ∀ z : Int, z * -1 = -z := fun z => by omega
    rw [e]
    have hc : (-a.sign < 0) ↔ (-a < 0) := by
      have := hsg (-a)
      rwa [Int.sign_neg] at this
    simp only [hc]
    refine ⟨P.1, P.2.1, P.2.2.1, ?_⟩
    have := P.2.2.2
    split at this <;> rename_i q
    · rw [if_pos q]; omega
    · rw [if_neg q]; omega
  · have P := fdiv_pos_parts a b h
    rw [Int.sign_eq_one_of_pos h]
    simp only [Int.mul_one, hsg]
    exact P
theorem signed_divmod_gives {C : Cx} (W : Wd C pP gloP bltP) (a b : Int) (hb : b ≠ 0) (ha : 10000 * a.natAbs < big) (hbb : 10000 * b.natAbs < big) : Gives C 4 "signed_divmod" [S a, S b] (.tuple [S (a.fdiv b), S (a.fmod b)]) := by
  refine Gives.of_body (lv := 3) (xs := ["x", "y"]) W.ok (W.fn ix_signed_divmod rfl) (by walk_at "zpl2") rfl ?_
  show WP C 3 (scopeAt pP ix_signed_divmod) _ [("y", S b), ("x", S a)] none _
  walk_at "zopen"
  have hbs : b.sign ≠ 0 := fun e => hb (Int.sign_eq_zero_iff_zero.mp e)
  have hbn : 0 < b.natAbs := by omega
  walk_at "zskip"
  have hlt := Nat.mod_lt a.natAbs hbn
  have hdle := Nat.div_le_self a.natAbs b.natAbs
  obtain ⟨p1, p2, p3, p4⟩ := fdiv_parts a b hb
  have s1 := sign_le a
  have s2 := sign_le b
  have s3 : -1 ≤ a.sign * b.sign ∧ a.sign * b.sign ≤ 1 := by rw [← Int.sign_mul]; exact sign_le _
  refine WP.unpack2 (d₁ := D (a.natAbs / b.natAbs)) (d₂ := D (a.natAbs % b.natAbs)) (by walk_at "zev") (by walk_at "zgl") (by walk_at "zgl") (by walk_at "zoff") (by walk_at "zoff") ?_
  generalize hq : a.natAbs / b.natAbs = q at *
  generalize hr : a.natAbs % b.natAbs = r at *
  have l4 := len_big (show r < big by omega)
  have hrl : (0 : Int) < (dig r).length ↔ 0 < r := by
    have : (dig r).length = 0 ↔ r = 0 := ⟨fun e => dig_nil_iff.mp (List.length_eq_zero_iff.mp e), fun e => by subst e; rw [dig_zero]; rfl⟩
    omega
  refine WP.join (b := decide (a.sign * b.sign < 0) && decide ((0 : Int) < (dig r).length)) (fun σ' ow' => ow' = none ∧ Lk σ' "x" (S a) ∧ Lk σ' "y" (S b) ∧ Lk σ' "q" (D (a.fdiv b).natAbs) ∧ Lk σ' "r" (D (a.fmod b).natAbs)) (Tst.and' (by walk_at "zev") (by walk_at "zev")) (fun hb => ?_) (fun hb => ?_) ?_
  · simp only [Bool.and_eq_true, decide_eq_true_eq, hrl] at hb
    rw [if_pos hb] at p1 p2
    refine WP.asg (d := D (q + 1)) ?_ (by walk_at "zgl") (by walk_at "zoff") ?_
    · refine Ev.to (b := D (q + 1)) (Ev.fn (ds := [D q, D 1]) W (EvAll.cons (by walk_at "zev") (EvAll.cons ?_ EvAll.nil)) (add_gives W q 1 (by omega)) (by decide) (by walk_at "zgl")) rfl
      refine Ev.to (b := L [1]) (by walk_at "zev") ?_
      show L [1] = L (dig 1)
      rw [dig_pos (by decide), dig_zero]; rfl
    walk_at "zasg"
    exact WP.nil ⟨rfl, by walk_at "zlk", by walk_at "zlk", by rw [p1]; walk_at "zlk", by rw [p2]; walk_at "zlk"⟩
  · have hb' : ¬ (a.sign * b.sign < 0 ∧ 0 < r) := by
      simp only [Bool.and_eq_false_iff, decide_eq_false_iff_not, hrl] at hb
      omega
    rw [if_neg hb'] at p1 p2
    exact ⟨rfl, by walk_at "zlk", by walk_at "zlk", by rw [p1]; walk_at "zlk", by rw [p2]; walk_at "zlk"⟩
  rintro σ' _ ⟨rfl, k1, k2, k3, k4⟩
  have hqb : (a.fdiv b).natAbs < big := by rw [p1]; split <;> omega
  have hrb : (a.fmod b).natAbs < big := by rw [p2]; split <;> omega
  walk_at "zret"
  rw [S_eq p3 rfl, S_eq p4 rfl]
theorem signed_divmod_raises {C : Cx} (W : Wd C pP gloP bltP) (a : Int) : Raises C 4 "signed_divmod" [S a, S 0] "ZeroDivisionError" := by
  refine Raises.of_body (lv := 3) (xs := ["x", "y"]) W.ok (W.fn ix_signed_divmod rfl) (by walk_at "zpl2") rfl ?_
  show WP C 3 (scopeAt pP ix_signed_divmod) _ [("y", S 0), ("x", S a)] none _
  walk_at "zopen"
  walk_at "zifT"
  exact WP.raiseZ W (by decide +kernel) (by walk_at "zgl") rfl
local macro_rules | `(tactic| walk_at "zfn") => `(tactic| (with_reducible refine' signed_divmod_gives (by assumption) _ _ ?_ ?_ ?_))

theorem Itm.tupI {C : Cx} {xs : List Int} {i : Int} (h0 : 0 ≤ i) (h1 : i < xs.length) (hb : xs.length < 2 ^ 60) : Itm C (.tuple (I xs)) i (.int (xs.getD i.toNat 0)) :=
  Itm.tuple h0 (by omega) (by
    have h : i.toNat < xs.length := by omega
    simp [h])
def natB (xs : List Int) : Bool := xs.all (fun x => decide (0 ≤ x ∧ x < 10000)) && !(decide (xs.getLast? = some 0))
theorem natB_iff {xs : List Int} : natB xs = true ↔ Lim xs ∧ Nz xs := by
  unfold natB Lim Nz
  simp [List.all_eq_true]
theorem last_getD {xs : List Int} (h : xs ≠ []) : xs.getLast? = some (xs.getD (xs.length - 1) 0) := by
  rw [List.getLast?_eq_getElem?]
  have : 0 < xs.length := List.length_pos_iff.mpr h
  have : xs.length - 1 < xs.length := by omega
  simp [this]
theorem is_natural_gives {C : Cx} (W : Wd C pP gloP bltP) (xs : List Int) (hs : xs.length ≤ 1000) : Gives C 1 "is_natural" [L xs] (.bool (natB xs)) := by
  refine Gives.of_body (lv := 0) (xs := ["a"]) W.ok (W.fn 2 rfl) (by walk_at "zpl1") rfl ?_
  show WP C 0 (scopeAt pP 2) _ [("a", L xs)] none _
  walk_at "zopen"
  refine WP.for (ds := I xs) (fun r σ ow => ∃ pre post : List Int, r = I post ∧ pre ++ post = xs ∧ ow = none ∧ Lk σ "a" (L xs) ∧ Lim pre) (Src.listI (by walk_at "zev")) ⟨[], xs, rfl, rfl, rfl, by walk_at "zlk", Lim.nil⟩ ?_ ?_
  · rintro d r σ ow ⟨pre, post, e, hp, rfl, h1, h2⟩
    cases post with
    | nil => cases e
    | cons x post =>
    cases e
    refine ⟨_, Asg.nm (by walk_at "zgl") (by walk_at "zoff"), ?_⟩
    refine WP.ite (b := decide (x < 0) || decide (10000 ≤ x)) (Tst.or' (by walk_at "zev") (by walk_at "zev")) (fun hb => ?_) (fun hb => ?_)
    · simp only [Bool.or_eq_true, decide_eq_true_eq] at hb
      walk_at "zret"
      have : natB xs = false := by
        cases q : natB xs with
        | false => rfl
        | true =>
          have := (natB_iff.mp q).1 x (by rw [← hp]; simp)
          omega
      rw [this]
    · simp only [Bool.or_eq_false_iff, decide_eq_false_iff_not] at hb
      exact WP.nil (WP.nil ⟨pre ++ [x], post, rfl, by rw [List.append_assoc]; exact hp, rfl, by walk_at "zlk", h2.snoc (by omega) (by omega)⟩)
  · rintro σ ow ⟨pre, post, e, hp, rfl, h1, h2⟩
    have : post = [] := by
      cases post with
      | nil => rfl
      | cons x post => cases e
    subst this
    rw [List.append_nil] at hp
    subst hp
    refine WP.ret (d := .bool (natB pre)) (Ev.or (a := decide ((pre.length : Int) = 0)) (by walk_at "zev") (fun hb => ?_) (fun hb => ?_)) rfl
    · simp only [decide_eq_false_iff_not] at hb
      walk_at "zto"
      congr 1
      have hne : pre ≠ [] := fun e => hb (by rw [e]; rfl)
      rw [show ((pre.length : Int) - 1).toNat = pre.length - 1 by omega]
      have hl := last_getD hne
      cases q : natB pre with
      | true =>
        have h3 := (natB_iff.mp q).2
        unfold Nz at h3
        rw [hl] at h3
        simp only [Bool.not_eq_true', decide_eq_false_iff_not]
        exact fun e => h3 (by rw [e])
      | false =>
        simp only [Bool.not_eq_false', decide_eq_true_eq]
        by_cases z : pre.getD (pre.length - 1) 0 = 0
        · exact z
        · have : natB pre = true := natB_iff.mpr ⟨h2, by unfold Nz; rw [hl]; exact fun e => z (Option.some.inj e)⟩
          rw [q] at this; cases this
    · simp only [decide_eq_true_eq] at hb
      have : pre = [] := List.length_eq_zero_iff.mp (by omega)
      subst this; rfl
local macro_rules | `(tactic| walk_at "zfn") => `(tactic| (with_reducible refine' is_natural_gives (by assumption) _ ?_))
def sgnB (s : Int) (xs : List Int) : Bool := decide (-1 ≤ s ∧ s ≤ 1) && natB xs && (decide (s = 0) == decide ((xs.length : Int) = 0))
theorem is_signed_gives {C : Cx} (W : Wd C pP gloP bltP) (s : Int) (xs : List Int) (hs : xs.length ≤ 1000) : Gives C 2 "is_signed" [.tuple [.int s, L xs]] (.bool (sgnB s xs)) := by
  refine Gives.of_body (lv := 1) (xs := ["x"]) W.ok (W.fn 13 rfl) (by walk_at "zpl1") rfl ?_
  show WP C 1 (scopeAt pP 13) _ [("x", .tuple [.int s, L xs])] none _
  walk_at "zopen"
  refine WP.ite (b := decide (s < -1) || decide (1 < s)) (Tst.or' (by walk_at "zev") (by walk_at "zev")) (fun hb => ?_) (fun hb => ?_)
  · simp only [Bool.or_eq_true, decide_eq_true_eq] at hb
    walk_at "zret"
    unfold sgnB
    rw [decide_eq_false (show ¬ (-1 ≤ s ∧ s ≤ 1) by omega)]; rfl
  · simp only [Bool.or_eq_false_iff, decide_eq_false_iff_not] at hb
    refine WP.nil ?_
    refine WP.ret (d := .bool (sgnB s xs)) (Ev.to (Ev.and' (a := natB xs) (b := (decide (s = 0) == decide ((xs.length : Int) = 0))) (by walk_at "zev") (by walk_at "zev")) ?_) rfl
    unfold sgnB
    rw [decide_eq_true (show (-1 ≤ s ∧ s ≤ 1) by omega), Bool.true_and]
local macro_rules | `(tactic| walk_at "zfn") => `(tactic| (with_reducible refine' is_signed_gives (by assumption) _ _ ?_))
def fracB (s : Int) (xs ys : List Int) : Bool := sgnB s xs && natB ys && !(decide ((ys.length : Int) = 0)) && decide (Nat.gcd (val xs).toNat (val ys).toNat = 1)
theorem pow_lt_big {k : Nat} (h : k ≤ 20) : 10000 ^ k ≤ 10000 ^ 20 := Nat.pow_le_pow_right (by decide) h
theorem val_big {xs : List Int} (h : Lim xs) (hl : xs.length ≤ 20) : 10000 * (val xs).toNat < big := by
  have h1 := val_lt h
  have h2 := pow_mono hl
  have h3 : ((10000 : Int) ^ 20) = 100000000000000000000000000000000000000000000000000000000000000000000000000000000 := by decide
  rw [big_is]
  omega
theorem is_fraction_gives {C : Cx} (W : Wd C pP gloP bltP) (s : Int) (xs ys : List Int) (hx : xs.length ≤ 20) (hy : ys.length ≤ 20) : Gives C 5 "is_fraction" [.tuple [.tuple [.int s, L xs], L ys]] (.bool (fracB s xs ys)) := by
  refine Gives.of_body (lv := 4) (xs := ["f"]) W.ok (W.fn 16 rfl) (by walk_at "zpl1") rfl ?_
  show WP C 4 (scopeAt pP 16) _ [("f", .tuple [.tuple [.int s, L xs], L ys])] none _
  walk_at "zopen"
  refine WP.ite (b := !(sgnB s xs) || !(natB ys) || decide ((ys.length : Int) = 0)) (Tst.or3 (by walk_at "zev") (fun _ => by walk_at "zev") (fun _ _ => by walk_at "zev")) (fun hb => ?_) (fun hb => ?_)
  · walk_at "zret"
    unfold fracB
    cases h1 : sgnB s xs
    · rfl
    · cases h2 : natB ys
      · rfl
      · rw [h1, h2] at hb
        simp only [Bool.not_true, Bool.false_or] at hb
        rw [hb]; rfl
  · simp only [Bool.or_eq_false_iff, Bool.not_eq_false'] at hb
    obtain ⟨⟨h1, h2⟩, h3⟩ := hb
    refine WP.nil ?_
    have hnx : natB xs = true := by
      unfold sgnB at h1
      simp only [Bool.and_eq_true] at h1
      exact h1.1.2
    obtain ⟨lx, zx⟩ := natB_iff.mp hnx
    obtain ⟨ly, zy⟩ := natB_iff.mp h2
    have ex := dig_val lx zx
    have ey := dig_val ly zy
    have bx := val_big lx hx
    have by' := val_big ly hy
    unfold fracB
    rw [h1, h2, h3]
    generalize (val xs).toNat = a at *
    generalize (val ys).toNat = b at *
    subst ex ey
    refine WP.ret (d := .bool (decide (Nat.gcd a b = 1))) (Ev.to (b := .bool (decide (dig (Nat.gcd a b) = [1]))) (by walk_at "zev") ?_) rfl
    congr 1
    have : dig (Nat.gcd a b) = [1] ↔ Nat.gcd a b = 1 := by
      constructor
      · intro e
        have := congrArg val e
        rw [val_dig] at this
        simp [val] at this
        omega
      · intro e
        rw [e, dig_pos (by decide), dig_zero]; rfl
    simp only [this]
local macro_rules | `(tactic| walk_at "zfn") => `(tactic| (with_reducible refine' is_fraction_gives (by assumption) _ _ _ ?_ ?_))
theorem fraction_of_gives {C : Cx} (W : Wd C pP gloP bltP) (a b : Int) (hb : b ≠ 0) (ha : 10000 * a.natAbs < big) (hbb : 10000 * b.natAbs < big) : Gives C 5 "fraction_of" [S a, S b] (.tuple [.tuple [.int (a.sign * b.sign), D (a.natAbs / Nat.gcd a.natAbs b.natAbs)], D (b.natAbs / Nat.gcd a.natAbs b.natAbs)]) := by
  refine Gives.of_body (lv := 4) (xs := ["n", "d"]) W.ok (W.fn 17 rfl) (by walk_at "zpl2") rfl ?_
  show WP C 4 (scopeAt pP 17) _ [("d", S b), ("n", S a)] none _
  walk_at "zopen"
  have hbs : b.sign ≠ 0 := fun e => hb (Int.sign_eq_zero_iff_zero.mp e)
  have s1 := sign_le a
  have s2 := sign_le b
  walk_at "zskip"
  have hg : 0 < Nat.gcd a.natAbs b.natAbs := Nat.gcd_pos_of_pos_right _ (by omega)
  have hgl : Nat.gcd a.natAbs b.natAbs ≤ b.natAbs := Nat.gcd_le_right _ (by omega)
  walk_at "zasg"
  walk_at "zasg"
  walk_at "zret"
  rfl
theorem fraction_of_raises {C : Cx} (W : Wd C pP gloP bltP) (a : Int) : Raises C 5 "fraction_of" [S a, S 0] "ZeroDivisionError" := by
  refine Raises.of_body (lv := 4) (xs := ["n", "d"]) W.ok (W.fn 17 rfl) (by walk_at "zpl2") rfl ?_
  show WP C 4 (scopeAt pP 17) _ [("d", S 0), ("n", S a)] none _
  walk_at "zopen"
  walk_at "zifT"
  exact WP.raiseZ W (by decide +kernel) (by walk_at "zgl") rfl
local macro_rules | `(tactic| walk_at "zfn") => `(tactic| (with_reducible refine' fraction_of_gives (by assumption) _ _ ?_ ?_ ?_))

local macro_rules | `(tactic| walk_at "zitm") => `(tactic| (with_reducible refine' Itm.tupI ?_ ?_ ?_))
theorem Sp.mono {C : Cx} {lv : Nat} {sc : Scope} {σ : Sg} {ow : Ow} {st : Stmt} {Φ Ψ : Res → Prop} (h : Sp C lv sc st σ ow Φ) (k : ∀ r, Φ r → Ψ r) : Sp C lv sc st σ ow Ψ := fun P s Q E R F p =>
  h P s Q E R F ⟨fun σ ow oa h tk f => p.next σ ow oa h tk (k _ f), fun σ ow oa h tk f => p.brk σ ow oa h tk (k _ f), fun v d h tk f => p.ret v d h tk (k _ f), fun e cls args h₁ h tk f => p.exc e cls args h₁ h tk (k _ f)⟩
theorem WP.cut {C : Cx} {lv : Nat} {sc : Scope} {σ : Sg} {ow : Ow} {rest : List Stmt} {Φ : Res → Prop} {st : Stmt} (Ψ : Sg → Ow → Prop) (h1 : Sp C lv sc st σ ow (JoinAt Ψ)) (h2 : ∀ σ' ow', Ψ σ' ow' → WP C lv sc rest σ' ow' Φ) : WP C lv sc (st :: rest) σ ow Φ := by
  refine WP.cons (Sp.mono h1 fun r hr => ?_)
  cases r with
  | next σ ow => exact h2 _ _ hr
  | brk => exact hr.elim
  | ret => exact hr.elim
  | exc => exact hr.elim
section
variable {C : Cx} {lv : Nat} {sc : Scope} {σ : Sg} {ow : Ow} {Φ : Res → Prop} {p : Program} {glo : List (Str × PyData)} {blt : List (Str × Value)}
theorem Sp.tryV {x f T y : Str} {q fp cp ap tp yp kp hp hpos pos : Pos} {k kk : Nat} {e : Expr} {es : List Expr} {ds : List PyData} (W : Wd C p glo blt) (ha : EvAll C lv sc (e :: es) σ ow ds) (hf : Raises C k f ds "ValueError") (hk : k ≤ lv) (hm : (T, Value.type "ValueError") ∈ blt) (gf : Gl sc f) (gT : Gl sc T) (ly : Lo sc y) (oy : Off ow y)
    (h : Φ (.next ((y, .bool true) :: σ) ow)) (he : ∀ env, starEach (e :: es) env = (false, eval e env) :: starEach es env := by intro _; with_unfolding_all rfl) (hsw : ∀ env, swapsWith (.Call (.Name f fp) (e :: es) [] cp) (some (.Name x q)) ap.line env = pure false := by intro _; with_unfolding_all rfl) :
    Sp C lv sc (.Try [.Assign [.Name x q] (.Call (.Name f fp) (e :: es) [] cp) ap] [.ExceptHandler (some (.Name T tp)) none [.Assign [.Name y yp] (.Constant (.bool true) kk kp) hp] hpos] [] [] pos) σ ow Φ :=
  Sp.tryExc W.ok ha hf hk PySem.F.isExc_ValueError nt_V PySem.F.self_ValueError (W.blt _ hm).1 (W.blt _ hm).2 h oy gf.imp gT.imp ly.loc ly.kind gf.dbg gT.dbg he hsw
theorem Sp.tryZ {x f T y : Str} {q fp cp ap tp yp kp hp hpos pos : Pos} {k kk : Nat} {e : Expr} {es : List Expr} {ds : List PyData} (W : Wd C p glo blt) (ha : EvAll C lv sc (e :: es) σ ow ds) (hf : Raises C k f ds "ZeroDivisionError") (hk : k ≤ lv) (hm : (T, Value.type "ZeroDivisionError") ∈ blt) (gf : Gl sc f) (gT : Gl sc T) (ly : Lo sc y) (oy : Off ow y)
    (h : Φ (.next ((y, .bool true) :: σ) ow)) (he : ∀ env, starEach (e :: es) env = (false, eval e env) :: starEach es env := by intro _; with_unfolding_all rfl) (hsw : ∀ env, swapsWith (.Call (.Name f fp) (e :: es) [] cp) (some (.Name x q)) ap.line env = pure false := by intro _; with_unfolding_all rfl) :
    Sp C lv sc (.Try [.Assign [.Name x q] (.Call (.Name f fp) (e :: es) [] cp) ap] [.ExceptHandler (some (.Name T tp)) none [.Assign [.Name y yp] (.Constant (.bool true) kk kp) hp] hpos] [] [] pos) σ ow Φ :=
  Sp.tryExc W.ok ha hf hk PySem.F.isExc_ZeroDivisionError nt_Z PySem.F.self_ZeroDivisionError (W.blt _ hm).1 (W.blt _ hm).2 h oy gf.imp gT.imp ly.loc ly.kind gf.dbg gT.dbg he hsw
end
def lsign (c : Int) : Int := if c % 6 = 5 then c else c % 6 - 2
theorem law_sign_gives {C : Cx} (W : Wd C pP gloP bltP) (c : Int) : Gives C 1 "_law_sign" [.int c] (.int (lsign c)) := by
  refine Gives.of_body (lv := 0) (xs := ["cell"]) W.ok (W.fn 22 rfl) (by walk_at "zpl1") rfl ?_
  show WP C 0 (scopeAt pP 22) _ [("cell", .int c)] none _
  walk_at "zopen"
  by_cases h : c % 6 = 5
  · walk_at "zifT"
    walk_at "zret"
    unfold lsign; rw [if_pos h]
  · walk_at "zskip"
    walk_at "zret"
    unfold lsign; rw [if_neg h]
local macro_rules | `(tactic| walk_at "zfn") => `(tactic| (with_reducible refine' law_sign_gives (by assumption) _))
def llimb (c : Int) : Int := if c % 12 = 11 then c else tbLimb.getD (c % 12).toNat 0
theorem law_limb_gives {C : Cx} (W : Wd C pP gloP bltP) (c : Int) : Gives C 1 "_law_limb" [.int c] (.int (llimb c)) := by
  refine Gives.of_body (lv := 0) (xs := ["cell"]) W.ok (W.fn 23 rfl) (by walk_at "zpl1") rfl ?_
  show WP C 0 (scopeAt pP 23) _ [("cell", .int c)] none _
  walk_at "zopen"
  by_cases h : c % 12 = 11
  · walk_at "zifT"
    walk_at "zret"
    unfold llimb; rw [if_pos h]
  · walk_at "zskip"
    walk_at "zret"
    unfold llimb; rw [if_neg h]
local macro_rules | `(tactic| walk_at "zfn") => `(tactic| (with_reducible refine' law_limb_gives (by assumption) _))
def lraw (z a b : Int) : List Int := [llimb a, llimb b].take (z % 3).toNat
theorem lraw_len (z a b : Int) : (lraw z a b).length ≤ 2 := by unfold lraw; simp; omega
theorem law_raw_gives {C : Cx} (W : Wd C pP gloP bltP) (z a b : Int) : Gives C 2 "_law_raw" [.int z, .int a, .int b] (L (lraw z a b)) := by
  refine Gives.of_body (lv := 1) (xs := ["size", "first", "second"]) W.ok (W.fn 24 rfl) (by walk_at "zpl3") rfl ?_
  show WP C 1 (scopeAt pP 24) _ [("second", .int b), ("first", .int a), ("size", .int z)] none _
  walk_at "zopen"
  walk_at "zret"
  rfl
local macro_rules | `(tactic| walk_at "zfn") => `(tactic| (with_reducible refine' law_raw_gives (by assumption) _ _ _))
def lsize (c : Int) : Int := if c % 12 = 11 then c % 10000 else tbSize.getD (c % 12).toNat 0
theorem lsize_le (c : Int) : 0 ≤ lsize c ∧ lsize c ≤ 99999999 := by
  unfold lsize
  split
  · omega
  · have h0 := Int.emod_nonneg c (show (12 : Int) ≠ 0 by decide)
    have h1 := Int.emod_lt_of_pos c (show (0 : Int) < 12 by decide)
    generalize c % 12 = k at *
    have : k = 0 ∨ k = 1 ∨ k = 2 ∨ k = 3 ∨ k = 4 ∨ k = 5 ∨ k = 6 ∨ k = 7 ∨ k = 8 ∨ k = 9 ∨ k = 10 ∨ k = 11 := by omega
    rcases this with rfl | rfl | rfl | rfl | rfl | rfl | rfl | rfl | rfl | rfl | rfl | rfl <;> decide
theorem law_size_gives {C : Cx} (W : Wd C pP gloP bltP) (c : Int) : Gives C 1 "_law_size" [.int c] (.int (lsize c)) := by
  refine Gives.of_body (lv := 0) (xs := ["cell"]) W.ok (W.fn 25 rfl) (by walk_at "zpl1") rfl ?_
  show WP C 0 (scopeAt pP 25) _ [("cell", .int c)] none _
  walk_at "zopen"
  by_cases h : c % 12 = 11
  · walk_at "zifT"
    walk_at "zret"
    unfold lsize; rw [if_pos h]
  · walk_at "zskip"
    walk_at "zret"
    unfold lsize; rw [if_neg h]
local macro_rules | `(tactic| walk_at "zfn") => `(tactic| (with_reducible refine' law_size_gives (by assumption) _))
theorem dig_three (n : Nat) (h : n < 1000000000000) : [(n : Int) % 10000, (n : Int) / 10000 % 10000, (n : Int) / 100000000].take ([(0 : Int), 9999, 99999999].filter (fun b : Int => decide (b < (n : Int)))).length = dig n := by
  by_cases h0 : n = 0
  · subst h0; rw [dig_zero]; rfl
  rw [dig_pos (by omega)]
  by_cases h1 : n ≤ 9999
  · rw [show n / 10000 = 0 by omega, dig_zero]
    have : ([(0 : Int), 9999, 99999999].filter (fun b : Int => decide (b < (n : Int)))) = [0] := by
      simp only [List.filter, decide_eq_true (show (0 : Int) < (n : Int) by omega), decide_eq_false (show ¬ (9999 : Int) < (n : Int) by omega), decide_eq_false (show ¬ (99999999 : Int) < (n : Int) by omega)]
    rw [this]; simp
  rw [dig_pos (n := n / 10000) (by omega)]
  by_cases h2 : n ≤ 99999999
  · rw [show n / 10000 / 10000 = 0 by omega, dig_zero]
    have : ([(0 : Int), 9999, 99999999].filter (fun b : Int => decide (b < (n : Int)))) = [0, 9999] := by
      simp only [List.filter, decide_eq_true (show (0 : Int) < (n : Int) by omega), decide_eq_true (show (9999 : Int) < (n : Int) by omega), decide_eq_false (show ¬ (99999999 : Int) < (n : Int) by omega)]
    rw [this]; simp
  · rw [dig_pos (n := n / 10000 / 10000) (by omega), show n / 10000 / 10000 / 10000 = 0 by omega, dig_zero]
    have : ([(0 : Int), 9999, 99999999].filter (fun b : Int => decide (b < (n : Int)))) = [0, 9999, 99999999] := by
      simp only [List.filter, decide_eq_true (show (0 : Int) < (n : Int) by omega), decide_eq_true (show (9999 : Int) < (n : Int) by omega), decide_eq_true (show (99999999 : Int) < (n : Int) by omega)]
    rw [this]; simp; omega
theorem law_limbs_gives {C : Cx} (W : Wd C pP gloP bltP) (n : Int) (h0 : 0 ≤ n) (hn : n < 1000000000000) : Gives C 1 "_law_limbs" [.int n] (D n.toNat) := by
  refine Gives.of_body (lv := 0) (xs := ["n"]) W.ok (W.fn 26 rfl) (by walk_at "zpl1") rfl ?_
  show WP C 0 (scopeAt pP 26) _ [("n", .int n)] none _
  walk_at "zopen"
  walk_at "zasg"
  refine WP.for (ds := I [0, 9999, 99999999]) (fun r σ ow => ∃ pre post : List Int, r = I post ∧ pre ++ post = [0, 9999, 99999999] ∧ ow = none ∧ Lk σ "n" (.int n) ∧ Lk σ "size" (.int ((pre.filter (fun b : Int => decide (b < (n : Int)))).length : Nat))) (Src.tuple (by show Ev _ _ _ _ _ _ (.tuple [.int 0, .int 9999, .int 99999999]); walk_at "zev") flatI) ⟨[], _, rfl, rfl, rfl, by walk_at "zlk", by show Lk _ _ (.int 0); walk_at "zlk"⟩ ?_ ?_
  · rintro d r σ ow ⟨pre, post, e, hp, rfl, h1, h2⟩
    cases post with
    | nil => cases e
    | cons x post =>
    cases e
    refine ⟨_, Asg.nm (by walk_at "zgl") (by walk_at "zoff"), ?_⟩
    by_cases hx : x < n
    · walk_at "zifT"
      walk_at "zaug"
      refine WP.nil (WP.nil ⟨pre ++ [x], post, rfl, by rw [List.append_assoc]; exact hp, rfl, by walk_at "zlk", ?_⟩)
      rw [List.filter_append, List.length_append]
      have : ([x].filter (fun b : Int => decide (b < (n : Int)))).length = 1 := by simp [hx]
      rw [this]
      exact Lk.here
    · walk_at "zskip"
      refine WP.nil ⟨pre ++ [x], post, rfl, by rw [List.append_assoc]; exact hp, rfl, by walk_at "zlk", ?_⟩
      rw [List.filter_append, List.length_append]
      have : ([x].filter (fun b : Int => decide (b < (n : Int)))).length = 0 := by simp [hx]
      rw [this, Nat.add_zero]
      walk_at "zlk"
  · rintro σ ow ⟨pre, post, e, hp, rfl, h1, h2⟩
    have : post = [] := by
      cases post with
      | nil => rfl
      | cons x post => cases e
    subst this
    rw [List.append_nil] at hp
    subst hp
    walk_at "zret"
    obtain ⟨m, rfl⟩ : ∃ m : Nat, n = m := ⟨n.toNat, by omega⟩
    rw [Int.toNat_natCast, Int.toNat_natCast, dig_three m (by omega)]
local macro_rules | `(tactic| walk_at "zfn") => `(tactic| (with_reducible refine' law_limbs_gives (by assumption) _ ?_ ?_))
theorem law_signed_gives {C : Cx} (W : Wd C pP gloP bltP) (n : Int) (h0 : -1000000000000 < n) (hn : n < 1000000000000) : Gives C 2 "_law_signed" [.int n] (S n) := by
  refine Gives.of_body (lv := 1) (xs := ["n"]) W.ok (W.fn 27 rfl) (by walk_at "zpl1") rfl ?_
  show WP C 1 (scopeAt pP 27) _ [("n", .int n)] none _
  walk_at "zopen"
  by_cases h1 : n < 0
  · walk_at "zifT"
    walk_at "zret"
    rw [S_eq (Int.sign_eq_neg_one_of_neg h1) (show n.natAbs = (-n).toNat by omega)]
  walk_at "zskip"
  by_cases h2 : n = 0
  · walk_at "zifT"
    walk_at "zret"
    subst h2
    show Res.ret (.tuple [.int 0, L []]) = Res.ret (.tuple [.int 0, L (dig 0)])
    rw [dig_zero]
  · walk_at "zskip"
    walk_at "zret"
    rw [S_eq (Int.sign_eq_one_of_pos (show 0 < n by omega)) (show n.natAbs = n.toNat by omega)]
local macro_rules | `(tactic| walk_at "zfn") => `(tactic| (with_reducible refine' law_signed_gives (by assumption) _ ?_ ?_))

theorem log2_small {b : Int} (h : b.natAbs < 2 ^ 64) : b.natAbs.log2 < 9000 := by
  by_cases z : b.natAbs = 0
  · rw [z]; decide
  · exact (Nat.log2_lt z).mpr (Nat.lt_of_lt_of_le h (Nat.pow_le_pow_right (by decide) (by decide)))
theorem Bin.divF {C : Cx} {a b : Int} (hb : b ≠ 0) (h : b.natAbs < 2 ^ 64) : Bin C .FloorDiv (.int a) (.int b) (.int (a.fdiv b)) := Bin.fdiv hb (PyProof.noPylong_of_log2 (log2_small h))
theorem Bin.divN {C : Cx} {a b : Int} (hb : 0 < b) (h : b < 2 ^ 64) : Bin C .FloorDiv (.int a) (.int b) (.int (a / b)) := by
  have := Bin.divF (C := C) (a := a) (b := b) (by omega) (by omega)
  rwa [Int.fdiv_eq_ediv_of_nonneg _ (by omega)] at this
theorem law_gcd_gives {C : Cx} (W : Wd C pP gloP bltP) (m n : Nat) : Gives C 1 "_law_gcd" [.int m, .int n] (.int (Nat.gcd m n : Nat)) := by
  refine Gives.of_body (lv := 0) (xs := ["x", "y"]) W.ok (W.fn 28 rfl) (by walk_at "zpl2") rfl ?_
  show WP C 0 (scopeAt pP 28) _ [("y", .int n), ("x", .int m)] none _
  walk_at "zopen"
  refine WP.while (fun k σ ow => ∃ u v : Nat, k = v ∧ ow = none ∧ Lk σ "x" (.int u) ∧ Lk σ "y" (.int v) ∧ Nat.gcd u v = Nat.gcd m n) n
    ⟨m, n, rfl, rfl, by walk_at "zlk", by walk_at "zlk", rfl⟩ ?_
  rintro k σ ow ⟨u, v, rfl, rfl, h1, h2, h5⟩
  refine ⟨true, by walk_at "zev", (fun hq => by cases hq), fun _ => ?_⟩
  by_cases hk : k = 0
  · subst hk
    walk_at "zifT"
    refine WP.brk ?_
    show WP _ _ _ _ _ _ _
    walk_at "zret"
    rw [← h5, Nat.gcd_zero_right]
  · walk_at "zskip"
    refine WP.swap2 (x := "x") (y := "y") (d₁ := .int k) (d₂ := .int ((u : Int) % k)) (by walk_at "zev") (by walk_at "zgl") (by walk_at "zgl") (by walk_at "zoff") (by walk_at "zoff") (by intro _; with_unfolding_all rfl) ?_
    refine WP.nil ⟨u % k, Nat.mod_lt _ (by omega), k, u % k, rfl, rfl, by walk_at "zlk", by rw [Int.natCast_emod]; walk_at "zlk", ?_⟩
    rw [← h5, Nat.gcd_comm u k, Nat.gcd_rec k u, Nat.gcd_comm]
local macro_rules | `(tactic| walk_at "zfn") => `(tactic| (with_reducible refine' law_gcd_gives (by assumption) _ _))
theorem law_value_gives {C : Cx} (W : Wd C pP gloP bltP) (xs : List Int) (hs : xs.length ≤ 1000) : Gives C 1 "_law_value" [L xs] (.int (val xs)) := by
  refine Gives.of_body (lv := 0) (xs := ["a"]) W.ok (W.fn 29 rfl) (by walk_at "zpl1") rfl ?_
  show WP C 0 (scopeAt pP 29) _ [("a", L xs)] none _
  walk_at "zopen"
  walk_at "zasg"
  refine WP.for (ds := I xs.reverse) (fun r σ ow => ∃ pre post : List Int, r = I post ∧ pre ++ post = xs.reverse ∧ ow = none ∧ Lk σ "total" (.int (val pre.reverse))) (Src.listI (by walk_at "zev")) ⟨[], _, rfl, rfl, rfl, by show Lk _ _ (.int 0); walk_at "zlk"⟩ ?_ ?_
  · rintro d r σ ow ⟨pre, post, e, hp, rfl, h1⟩
    cases post with
    | nil => cases e
    | cons x post =>
    cases e
    refine ⟨_, Asg.nm (by walk_at "zgl") (by walk_at "zoff"), ?_⟩
    walk_at "zasg"
    refine WP.nil ⟨pre ++ [x], post, rfl, by rw [List.append_assoc]; exact hp, rfl, ?_⟩
    rw [List.reverse_append]
    show Lk _ _ (.int (val (x :: pre.reverse)))
    rw [val, show x + 10000 * val pre.reverse = val pre.reverse * 10000 + x by omega]
    walk_at "zlk"
  · rintro σ ow ⟨pre, post, e, hp, rfl, h1⟩
    have : post = [] := by
      cases post with
      | nil => rfl
      | cons x post => cases e
    subst this
    rw [List.append_nil] at hp
    rw [hp, List.reverse_reverse] at h1
    walk_at "zret"
    rfl
local macro_rules | `(tactic| walk_at "zfn") => `(tactic| (with_reducible refine' law_value_gives (by assumption) _ ?_))
theorem pick_last (ds : List PyData) : pick ds (some (-1)) none none = ds.drop (ds.length - 1) := by
  have e : sliceBounds (some (-1)) none none ds.length = (((ds.length - 1 : Nat) : Int), (ds.length : Int), 1) := by
    simp only [sliceBounds, Option.getD_none]
    simp only [show (-1 : Int) < 0 by decide, if_true, show (1 : Int) > 0 by decide]
    congr 1
    omega
  unfold pick
  rw [e]
  simp only [sliceRange_one]
  have := pick_run ds.toArray (ds.length - 1) (ds.length - (ds.length - 1))
  rw [show (fun x => ds[x]?) = (fun x => ds.toArray[x]?) from by funext x; simp]
  rw [this]
  simp only
  rw [List.take_of_length_le (by simp)]
theorem Ev.lastI {C : Cx} {lv : Nat} {sc : Scope} {σ : Sg} {ow : Ow} {v u : Expr} {q pos : Pos} {xs : List Int} (hv : Ev C lv sc v σ ow (L xs)) (hu : Ev C lv sc u σ ow (.int (-1))) (hsz : xs.length ≤ sizeLine) : Ev C lv sc (.Subscript v (.Slice (some u) none none q) pos) σ ow (L (xs.drop (xs.length - 1))) :=
  Ev.sliceI hv (.some hu) .none .none (by simp) hsz (by rw [pick_last, I, I, List.map_drop, List.length_map])
theorem drop_last {xs : List Int} : xs.drop (xs.length - 1) = [0] ↔ xs.getLast? = some 0 := by
  rw [List.getLast?_eq_getElem?]
  constructor
  · intro h
    have := congrArg (·[0]?) h
    simp only [List.getElem?_drop] at this
    simpa using this
  · intro h
    have hl : xs.length - 1 < xs.length := by
      rw [List.getElem?_eq_some_iff] at h
      exact h.1
    rw [List.drop_eq_getElem_cons hl, List.drop_of_length_le (by omega)]
    rw [List.getElem?_eq_getElem hl] at h
    rw [Option.some.inj h]
theorem law_natural_due_gives {C : Cx} (W : Wd C pP gloP bltP) (xs : List Int) (hs : xs.length ≤ 1000) : Gives C 1 "_law_natural_due" [L xs] (.bool (natB xs)) := by
  refine Gives.of_body (lv := 0) (xs := ["a"]) W.ok (W.fn 30 rfl) (by walk_at "zpl1") rfl ?_
  show WP C 0 (scopeAt pP 30) _ [("a", L xs)] none _
  walk_at "zopen"
  refine WP.for (ds := I xs) (fun r σ ow => ∃ pre post : List Int, r = I post ∧ pre ++ post = xs ∧ ow = none ∧ Lk σ "a" (L xs) ∧ Lim pre) (Src.listI (by walk_at "zev")) ⟨[], xs, rfl, rfl, rfl, by walk_at "zlk", Lim.nil⟩ ?_ ?_
  · rintro d r σ ow ⟨pre, post, e, hp, rfl, h1, h2⟩
    cases post with
    | nil => cases e
    | cons x post =>
    cases e
    refine ⟨_, Asg.nm (by walk_at "zgl") (by walk_at "zoff"), ?_⟩
    by_cases hb : x = x % 10000
    · walk_at "zskip"
      exact WP.nil ⟨pre ++ [x], post, rfl, by rw [List.append_assoc]; exact hp, rfl, by walk_at "zlk", h2.snoc (by omega) (by omega)⟩
    · walk_at "zifT"
      walk_at "zret"
      have : natB xs = false := by
        cases q : natB xs with
        | false => rfl
        | true =>
          have := (natB_iff.mp q).1 x (by rw [← hp]; simp)
          omega
      rw [this]
  · rintro σ ow ⟨pre, post, e, hp, rfl, h1, h2⟩
    have : post = [] := by
      cases post with
      | nil => rfl
      | cons x post => cases e
    subst this
    rw [List.append_nil] at hp
    subst hp
    refine WP.ret (d := .bool (!decide (pre.drop (pre.length - 1) = [0]))) (Ev.cmp (Ev.lastI (by walk_at "zev") (by walk_at "zev") (by walk_at "zar")) (by walk_at "zev") Cmp.neInts) ?_
    show Res.ret _ = Res.ret _
    congr 2
    have h0 : (pre.drop (pre.length - 1) = [0]) = (pre.getLast? = some 0) := propext drop_last
    simp only [h0]
    unfold natB
    rw [show pre.all (fun x => decide (0 ≤ x ∧ x < 10000)) = true from by rw [List.all_eq_true]; intro x hx; exact decide_eq_true (h2 x hx), Bool.true_and]
local macro_rules | `(tactic| walk_at "zfn") => `(tactic| (with_reducible refine' law_natural_due_gives (by assumption) _ ?_))
theorem law_signed_due_gives {C : Cx} (W : Wd C pP gloP bltP) (s : Int) (xs : List Int) (hs : xs.length ≤ 1000) : Gives C 2 "_law_signed_due" [.int s, L xs] (.bool (sgnB s xs)) := by
  refine Gives.of_body (lv := 1) (xs := ["sign", "mag"]) W.ok (W.fn 31 rfl) (by walk_at "zpl2") rfl ?_
  show WP C 1 (scopeAt pP 31) _ [("mag", L xs), ("sign", .int s)] none _
  walk_at "zopen"
  cases hn : natB xs with
  | false =>
    refine WP.ifT (Tst.to (by walk_at "zev") (by rw [hn]; rfl)) ?_
    walk_at "zret"
    unfold sgnB
    rw [hn, Bool.and_false, Bool.false_and]
  | true =>
  refine WP.skip (Tst.to (by walk_at "zev") (by rw [hn]; rfl)) ?_
  by_cases h0 : (xs.length : Int) = 0
  · walk_at "zifT"
    walk_at "zret"
    unfold sgnB
    rw [hn, decide_eq_true h0, Bool.and_true]
    congr 2
    by_cases z : s = 0
    · subst z; rfl
    · rw [decide_eq_false z]; simp
  · walk_at "zskip"
    refine WP.ret (d := .bool ([-1, 1].any (· == s))) (Ev.cmp (by walk_at "zev") (by show Ev _ _ _ _ _ _ (.tuple [.int (-1), .int 1]); walk_at "zev") Cmp.inInts) ?_
    show Res.ret _ = Res.ret _
    unfold sgnB
    rw [hn, decide_eq_false h0, Bool.and_true]
    congr 2
    rw [Bool.eq_iff_iff]
    simp
    omega
local macro_rules | `(tactic| walk_at "zfn") => `(tactic| (with_reducible refine' law_signed_due_gives (by assumption) _ _ ?_))
theorem law_fraction_due_gives {C : Cx} (W : Wd C pP gloP bltP) (s : Int) (xs ys : List Int) (hx : xs.length ≤ 20) (hy : ys.length ≤ 20) : Gives C 3 "_law_fraction_due" [.int s, L xs, L ys] (.bool (fracB s xs ys)) := by
  refine Gives.of_body (lv := 2) (xs := ["sign", "mag", "den"]) W.ok (W.fn 32 rfl) (by walk_at "zpl3") rfl ?_
  show WP C 2 (scopeAt pP 32) _ [("den", L ys), ("mag", L xs), ("sign", .int s)] none _
  walk_at "zopen"
  unfold fracB
  cases hs : sgnB s xs with
  | false =>
    refine WP.ifT (Tst.to (by walk_at "zev") (by rw [hs]; rfl)) ?_
    walk_at "zret"
    rfl
  | true =>
  refine WP.skip (Tst.to (by walk_at "zev") (by rw [hs]; rfl)) ?_
  cases hn : natB ys with
  | false =>
    refine WP.ifT (Tst.to (by walk_at "zev") (by rw [hn]; rfl)) ?_
    walk_at "zret"
    rfl
  | true =>
  refine WP.skip (Tst.to (by walk_at "zev") (by rw [hn]; rfl)) ?_
  by_cases h0 : (ys.length : Int) = 0
  · walk_at "zifT"
    walk_at "zret"
    rw [decide_eq_true h0]; rfl
  · walk_at "zskip"
    rw [decide_eq_false h0]
    have hnx : natB xs = true := by
      unfold sgnB at hs
      simp only [Bool.and_eq_true] at hs
      exact hs.1.2
    have v1 := val_nonneg (natB_iff.mp hnx).1
    have v2 := val_nonneg (natB_iff.mp hn).1
    have e1 := Int.toNat_of_nonneg v1
    have e2 := Int.toNat_of_nonneg v2
    refine WP.ret (d := .bool (decide (((Nat.gcd (val xs).toNat (val ys).toNat : Nat) : Int) = 1))) (Ev.cmp (Ev.fn (ds := [.int ((val xs).toNat : Int), .int ((val ys).toNat : Int)]) W (EvAll.cons (Ev.to (by walk_at "zev") (by rw [e1])) (EvAll.cons (Ev.to (by walk_at "zev") (by rw [e2])) EvAll.nil)) (law_gcd_gives W _ _) (by decide) (by walk_at "zgl")) (by walk_at "zev") Cmp.eqInt) ?_
    show Res.ret _ = Res.ret _
    congr 2
    rw [Bool.eq_iff_iff]
    simp
    omega
local macro_rules | `(tactic| walk_at "zfn") => `(tactic| (with_reducible refine' law_fraction_due_gives (by assumption) _ _ _ ?_ ?_))
theorem law_says_gives {C : Cx} (W : Wd C pP gloP bltP) (a b : Bool) : Gives C 1 "_law_says" [.bool a, .bool b] (.bool (a == b)) := by
  refine Gives.of_body (lv := 0) (xs := ["got", "want"]) W.ok (W.fn 33 rfl) (by walk_at "zpl2") rfl ?_
  show WP C 0 (scopeAt pP 33) _ [("want", .bool b), ("got", .bool a)] none _
  walk_at "zopen"
  refine WP.skip (Tst.to (b := !decide (tyName (.bool a) = "bool")) (by walk_at "zev") ?_) ?_
  · simp [tyName]
  walk_at "zret"
  rfl
local macro_rules | `(tactic| walk_at "zfn") => `(tactic| (with_reducible refine' law_says_gives (by assumption) _ _))

theorem sg_sign (m n : Nat) : sg m n = ((m : Int) - n).sign := by
  unfold sg
  split
  · rw [Int.sign_eq_neg_one_of_neg (by omega)]
  · split
    · rw [Int.sign_eq_one_of_pos (by omega)]
    · rw [show (m : Int) - n = 0 by omega]; rfl
theorem law_unsigned_gives {C : Cx} (W : Wd C pP gloP bltP) (n d : Nat) (hn : n < 100000000000) (hd : d < 100000000000) : Gives C 4 "_law_unsigned" [.int n, .int d] (.bool true) := by
  refine Gives.of_body (lv := 3) (xs := ["n", "d"]) W.ok (W.fn 36 rfl) (by walk_at "zpl2") rfl ?_
  show WP C 3 (scopeAt pP 36) _ [("d", .int d), ("n", .int n)] none _
  walk_at "zopen"
  have hB := big_is
  refine WP.asg (d := D n) (Ev.to (b := D ((n : Int)).toNat) (by walk_at "zev") rfl) (by walk_at "zgl") (by walk_at "zoff") ?_
  refine WP.asg (d := D d) (Ev.to (b := D ((d : Int)).toNat) (by walk_at "zev") rfl) (by walk_at "zgl") (by walk_at "zoff") ?_
  walk_at "zasg"
  walk_at "zasg"
  walk_at "zasg"
  walk_at "zasg"
  refine WP.cut (fun σ ow => ow = none ∧ Lk σ "a" (D n) ∧ Lk σ "b" (D d) ∧ Lk σ "n" (.int n) ∧ Lk σ "d" (.int d) ∧ Lk σ "lesser" (.bool false) ∧ Lk σ "refused" (.bool (decide (d = 0))) ∧ (d ≠ 0 → Lk σ "got" (.tuple [D (n / d), D (n % d)]))) ?_ ?_
  · by_cases hd0 : d = 0
    · subst hd0
      refine Sp.tryZ (ds := [D n, D 0]) W (EvAll.cons (by walk_at "zev") (EvAll.cons (by walk_at "zev") EvAll.nil)) (divmod_long_raises W n) (by decide) (by decide +kernel) (by walk_at "zgl") (by walk_at "zgl") (by walk_at "zgl") (by walk_at "zoff") ?_
      exact ⟨rfl, by walk_at "zlk", by walk_at "zlk", by walk_at "zlk", by walk_at "zlk", by walk_at "zlk", Lk.here, fun h => absurd rfl h⟩
    · refine Sp.tryOk ?_
      walk_at "zasg"
      refine WP.nil ⟨rfl, by walk_at "zlk", by walk_at "zlk", by walk_at "zlk", by walk_at "zlk", by walk_at "zlk", ?_, fun _ => by walk_at "zlk"⟩
      rw [decide_eq_false hd0]; walk_at "zlk"
  rintro σ _ ⟨rfl, h1, h2, h3, h4, h5, h6, h7⟩
  refine WP.cut (fun σ ow => ow = none ∧ Lk σ "a" (D n) ∧ Lk σ "b" (D d) ∧ Lk σ "n" (.int n) ∧ Lk σ "d" (.int d) ∧ Lk σ "lesser" (.bool (decide (n < d))) ∧ Lk σ "refused" (.bool (decide (d = 0))) ∧ (d ≠ 0 → Lk σ "got" (.tuple [D (n / d), D (n % d)])) ∧ (d ≤ n → Lk σ "rest" (D (n - d)))) ?_ ?_
  · by_cases hd0 : n < d
    · refine Sp.tryV (ds := [D n, D d]) W (EvAll.cons (by walk_at "zev") (EvAll.cons (by walk_at "zev") EvAll.nil)) (sub_raises W n d (by omega) hd0) (by decide) (by decide +kernel) (by walk_at "zgl") (by walk_at "zgl") (by walk_at "zgl") (by walk_at "zoff") ?_
      refine ⟨rfl, by walk_at "zlk", by walk_at "zlk", by walk_at "zlk", by walk_at "zlk", ?_, by walk_at "zlk", fun h => ?_, fun h => absurd h (by omega)⟩
      · rw [decide_eq_true hd0]; exact Lk.here
      · have := h7 h
        walk_at "zlk"
    · refine Sp.tryOk ?_
      walk_at "zasg"
      refine WP.nil ⟨rfl, by walk_at "zlk", by walk_at "zlk", by walk_at "zlk", by walk_at "zlk", ?_, by walk_at "zlk", fun h => ?_, fun _ => by walk_at "zlk"⟩
      · rw [decide_eq_false hd0]; walk_at "zlk"
      · have := h7 h
        walk_at "zlk"
  clear h1 h2 h3 h4 h5 h6 h7
  rintro σ _ ⟨rfl, h1, h2, h3, h4, h5, h6, h7, h8⟩
  refine WP.skip (Tst.to (b := !decide (sg n d = ((n : Int) - d).sign)) (by walk_at "zev") (by rw [decide_eq_true (sg_sign n d)]; rfl)) ?_
  refine WP.skip (Tst.cmp (d := .tuple [D n, D d]) (e := .tuple [D n, D d]) (by walk_at "zev") (Ev.to (b := .tuple [D ((n : Int)).toNat, D ((d : Int)).toNat]) (by walk_at "zev") rfl) (Cmp.neSame (k := 2) (by walk_at "zsh") (by decide))) ?_
  refine WP.skip (Tst.to (b := !(decide (d = 0) == decide ((d : Int) = 0))) (by walk_at "zev") (by simp)) ?_
  refine WP.skip (Tst.to (b := !(decide (n < d) == decide ((n : Int) < d))) (by walk_at "zev") (by simp)) ?_
  refine WP.join (b := !decide ((d : Int) = 0)) (fun σ' ow' => σ' = σ ∧ ow' = none) (by walk_at "zev") (fun hb => ?_) (fun _ => ⟨rfl, rfl⟩) ?_
  · simp only [Bool.not_eq_true', decide_eq_false_iff_not] at hb
    have hd0 : d ≠ 0 := by omega
    have := h7 hd0
    have q1 := Nat.div_le_self n d
    have q2 := Nat.mod_lt n (show 0 < d by omega)
    have e1 : ((n : Int) / d) = ((n / d : Nat) : Int) := rfl
    have e2 : ((n : Int) % d) = ((n % d : Nat) : Int) := rfl
    refine WP.skip (Tst.cmp (d := .tuple [D (n / d), D (n % d)]) (e := .tuple [D (n / d), D (n % d)]) (by walk_at "zev") ?_ (Cmp.neSame (k := 2) (by walk_at "zsh") (by decide))) (WP.nil ⟨rfl, rfl⟩)
    refine Ev.tuple (EvAll.cons (Ev.fn (ds := [.int ((n / d : Nat) : Int)]) W (EvAll.cons (Ev.to (b := .int ((n : Int) / d)) (Ev.bin (d := .int n) (e := .int d) (by walk_at "zev") (by walk_at "zev") (Bin.divN (by omega) (by omega))) (by rw [e1])) EvAll.nil) (law_limbs_gives W ((n / d : Nat) : Int) (Int.natCast_nonneg _) (by omega)) (by decide) (by walk_at "zgl"))
      (EvAll.cons (Ev.fn (ds := [.int ((n % d : Nat) : Int)]) W (EvAll.cons (Ev.to (b := .int ((n : Int) % d)) (Ev.bin (d := .int n) (e := .int d) (by walk_at "zev") (by walk_at "zev") (Bin.modP (by omega))) (by rw [e2])) EvAll.nil) (law_limbs_gives W ((n % d : Nat) : Int) (Int.natCast_nonneg _) (by omega)) (by decide) (by walk_at "zgl")) EvAll.nil)) (by walk_at "zar")
  rintro σ₁ _ ⟨rfl, rfl⟩
  refine WP.join (b := decide ((d : Int) ≤ n)) (fun σ' ow' => σ' = σ₁ ∧ ow' = none) (by walk_at "zev") (fun hb => ?_) (fun _ => ⟨rfl, rfl⟩) ?_
  · simp only [decide_eq_true_eq] at hb
    have := h8 (by omega)
    refine WP.skip (Tst.cmp (d := D (n - d)) (e := D (n - d)) (by walk_at "zev") (Ev.to (by walk_at "zev") ?_) (Cmp.neSame (k := 1) (by walk_at "zsh") (by decide))) (WP.nil ⟨rfl, rfl⟩)
    rw [show ((n : Int) - d).toNat = n - d by omega]
  rintro σ₂ _ ⟨rfl, rfl⟩
  walk_at "zret"
  rfl
local macro_rules | `(tactic| walk_at "zfn") => `(tactic| (with_reducible refine' law_unsigned_gives (by assumption) _ _ ?_ ?_))
theorem fdiv_small (n d : Int) (hd : d ≠ 0) : (n.fdiv d).natAbs ≤ n.natAbs + 1 ∧ (n.fmod d).natAbs ≤ d.natAbs := by
  obtain ⟨p1, p2, _, _⟩ := fdiv_parts n d hd
  have := Nat.div_le_self n.natAbs d.natAbs
  have := Nat.mod_lt n.natAbs (show 0 < d.natAbs by omega)
  rw [p1, p2]
  constructor <;> split <;> omega
theorem law_floored_gives {C : Cx} (W : Wd C pP gloP bltP) (n d : Int) (hn : n.natAbs < 100000000000) (hd : d.natAbs < 100000000000) : Gives C 5 "_law_floored" [.int n, .int d] (.bool true) := by
  refine Gives.of_body (lv := 4) (xs := ["n", "d"]) W.ok (W.fn 35 rfl) (by walk_at "zpl2") rfl ?_
  show WP C 4 (scopeAt pP 35) _ [("d", .int d), ("n", .int n)] none _
  walk_at "zopen"
  have hB := big_is
  walk_at "zasg"
  walk_at "zasg"
  walk_at "zasg"
  walk_at "zasg"
  refine WP.cut (fun σ ow => ow = none ∧ Lk σ "x" (S n) ∧ Lk σ "y" (S d) ∧ Lk σ "n" (.int n) ∧ Lk σ "d" (.int d) ∧ Lk σ "refused" (.bool (decide (d = 0))) ∧ (d ≠ 0 → Lk σ "got" (.tuple [S (n.fdiv d), S (n.fmod d)]))) ?_ ?_
  · by_cases hd0 : d = 0
    · subst hd0
      refine Sp.tryZ (ds := [S n, S 0]) W (EvAll.cons (by walk_at "zev") (EvAll.cons (by walk_at "zev") EvAll.nil)) (signed_divmod_raises W n) (by decide) (by decide +kernel) (by walk_at "zgl") (by walk_at "zgl") (by walk_at "zgl") (by walk_at "zoff") ?_
      exact ⟨rfl, by walk_at "zlk", by walk_at "zlk", by walk_at "zlk", by walk_at "zlk", Lk.here, fun h => absurd rfl h⟩
    · refine Sp.tryOk ?_
      walk_at "zasg"
      refine WP.nil ⟨rfl, by walk_at "zlk", by walk_at "zlk", by walk_at "zlk", by walk_at "zlk", ?_, fun _ => by walk_at "zlk"⟩
      rw [decide_eq_false hd0]; walk_at "zlk"
  rintro σ _ ⟨rfl, h1, h2, h3, h4, h6, h7⟩
  refine WP.skip (Tst.cmp (d := .tuple [S n, S d]) (e := .tuple [S n, S d]) (by walk_at "zev") (by walk_at "zev") (Cmp.neSame (k := 3) (by walk_at "zsh") (by decide))) ?_
  refine WP.skip (Tst.to (b := !(decide (d = 0) == decide (d = 0))) (by walk_at "zev") (by simp)) ?_
  by_cases hd0 : d = 0
  · walk_at "zifT"
    walk_at "zret"
    rfl
  walk_at "zskip"
  have hgot := h7 hd0
  have hf := fdiv_small n d hd0
  refine WP.skip (Tst.cmp (d := .tuple [S (n.fdiv d), S (n.fmod d)]) (e := .tuple [S (n.fdiv d), S (n.fmod d)]) (by walk_at "zev") ?_ (Cmp.neSame (k := 3) (by walk_at "zsh") (by decide))) ?_
  · exact Ev.tuple (EvAll.cons (Ev.fn (ds := [.int (n.fdiv d)]) W (EvAll.cons (Ev.bin (by walk_at "zev") (by walk_at "zev") (Bin.divF (by omega) (by omega))) EvAll.nil) (law_signed_gives W _ (by omega) (by omega)) (by decide) (by walk_at "zgl"))
      (EvAll.cons (Ev.fn (ds := [.int (n.fmod d)]) W (EvAll.cons (Ev.bin (by walk_at "zev") (by walk_at "zev") (Bin.fmod (by omega))) EvAll.nil) (law_signed_gives W _ (by omega) (by omega)) (by decide) (by walk_at "zgl")) EvAll.nil)) (by walk_at "zar")
  refine WP.ret (d := .bool true) (Ev.to (b := .bool (decide (tyName (.int (n.fdiv d).sign) = "int"))) (by walk_at "zev") (by simp [tyName])) rfl
local macro_rules | `(tactic| walk_at "zfn") => `(tactic| (with_reducible refine' law_floored_gives (by assumption) _ _ ?_ ?_))

theorem natB_dig (n : Nat) : natB (dig n) = true := natB_iff.mpr ⟨lim_dig n, nz_dig n⟩
theorem sgnB_S (k : Int) : sgnB k.sign (dig k.natAbs) = true := by
  unfold sgnB
  have h := sign_le k
  have e : (k.sign = 0) = (((dig k.natAbs).length : Int) = 0) := by
    apply propext
    rw [Int.sign_eq_zero_iff_zero]
    constructor
    · intro z; subst z; show ((dig 0).length : Int) = 0; rw [dig_zero]; rfl
    · intro z
      have := dig_nil_iff.mp (List.length_eq_zero_iff.mp (show (dig k.natAbs).length = 0 by omega))
      omega
  rw [natB_dig, decide_eq_true h]
  simp only [e]
  simp
theorem fracB_dig (k : Int) (b : Nat) (hb : 0 < b) : fracB k.sign (dig k.natAbs) (dig b) = decide (Nat.gcd k.natAbs b = 1) := by
  unfold fracB
  have : ¬ (((dig b).length : Int) = 0) := fun z => by
    have := dig_nil_iff.mp (List.length_eq_zero_iff.mp (show (dig b).length = 0 by omega))
    omega
  rw [sgnB_S, natB_dig, decide_eq_false this, val_dig, val_dig]
  simp
theorem fracB_bad (s : Int) (xs ys : List Int) : fracB s xs (ys ++ [0]) = false := by
  unfold fracB
  have : natB (ys ++ [0]) = false := by unfold natB; simp
  rw [this]; simp
/-- n / gcd with the sign of d put in -/
def lnum (n d : Int) : Int := if d < 0 then -(n / (Nat.gcd n.natAbs d.natAbs : Nat)) else n / (Nat.gcd n.natAbs d.natAbs : Nat)
theorem lnum_facts (n d : Int) (hd : d ≠ 0) : (lnum n d).natAbs = n.natAbs / Nat.gcd n.natAbs d.natAbs ∧ (lnum n d).sign = n.sign * d.sign ∧ (lnum n d * (Nat.gcd n.natAbs d.natAbs : Nat)).natAbs = n.natAbs := by
  have hg : 0 < Nat.gcd n.natAbs d.natAbs := Nat.gcd_pos_of_pos_right _ (by omega)
  obtain ⟨k, hk⟩ : Nat.gcd n.natAbs d.natAbs ∣ n.natAbs := Nat.gcd_dvd_left _ _
  have hl : lnum n d = if d < 0 then -(n / (Nat.gcd n.natAbs d.natAbs : Nat)) else n / (Nat.gcd n.natAbs d.natAbs : Nat) := rfl
  generalize Nat.gcd n.natAbs d.natAbs = g at *
  have hq : n.natAbs / g = k := by rw [hk]; exact Nat.mul_div_cancel_left _ hg
  have hn : n = (g : Int) * k ∨ n = -((g : Int) * k) := by
    have : ((g * k : Nat) : Int) = (g : Int) * k := Int.natCast_mul _ _
    omega
  have hgi : (g : Int) ≠ 0 := by omega
  have h1 : n / (g : Int) = k ∧ n.sign = (k : Int).sign ∨ n / (g : Int) = -(k : Int) ∧ n.sign = -(k : Int).sign := by
    rcases hn with h | h
    · left
      refine ⟨by rw [h, Int.mul_ediv_cancel_left _ hgi], ?_⟩
      rw [h, Int.sign_mul, Int.sign_eq_one_of_pos (show (0 : Int) < g by omega), Int.one_mul]
    · right
      refine ⟨by rw [h, ← Int.mul_neg, Int.mul_ediv_cancel_left _ hgi], ?_⟩
      rw [h, Int.sign_neg, Int.sign_mul, Int.sign_eq_one_of_pos (show (0 : Int) < g by omega), Int.one_mul]
  have e : lnum n d = k ∧ n.sign * d.sign = (k : Int).sign ∨ lnum n d = -(k : Int) ∧ n.sign * d.sign = -(k : Int).sign := by
    rw [hl]
    by_cases h : d < 0
    · rw [if_pos h, Int.sign_eq_neg_one_of_neg h]
      rcases h1 with ⟨a, b⟩ | ⟨a, b⟩
      · right; rw [a, b]; exact ⟨rfl, by omega⟩
      · left; rw [a, b]; exact ⟨by omega, by omega⟩
    · rw [if_neg h, Int.sign_eq_one_of_pos (show 0 < d by omega)]
      rcases h1 with ⟨a, b⟩ | ⟨a, b⟩
      · left; rw [a, b]; exact ⟨rfl, by omega⟩
      · right; rw [a, b]; exact ⟨rfl, by omega⟩
  rw [hq, Int.natAbs_mul]
  rcases e with ⟨a, b⟩ | ⟨a, b⟩
  · rw [a, b, Int.natAbs_natCast, Int.natAbs_natCast, hk, Nat.mul_comm]
    exact ⟨rfl, rfl, rfl⟩
  · rw [a, b, Int.natAbs_neg, Int.natAbs_natCast, Int.natAbs_natCast, hk, Nat.mul_comm, Int.sign_neg]
    exact ⟨rfl, rfl, rfl⟩
theorem law_reduced_gives {C : Cx} (W : Wd C pP gloP bltP) (n d : Int) (hn : n.natAbs < 100000000000) (hd : d.natAbs < 100000000000) : Gives C 6 "_law_reduced" [.int n, .int d] (.bool true) := by
  refine Gives.of_body (lv := 5) (xs := ["n", "d"]) W.ok (W.fn 34 rfl) (by walk_at "zpl2") rfl ?_
  show WP C 5 (scopeAt pP 34) _ [("d", .int d), ("n", .int n)] none _
  walk_at "zopen"
  have hB := big_is
  walk_at "zasg"
  walk_at "zasg"
  walk_at "zasg"
  walk_at "zasg"
  refine WP.cut (fun σ ow => ow = none ∧ Lk σ "x" (S n) ∧ Lk σ "y" (S d) ∧ Lk σ "n" (.int n) ∧ Lk σ "d" (.int d) ∧ Lk σ "refused" (.bool (decide (d = 0))) ∧ (d ≠ 0 → Lk σ "f" (.tuple [.tuple [.int (n.sign * d.sign), D (n.natAbs / Nat.gcd n.natAbs d.natAbs)], D (d.natAbs / Nat.gcd n.natAbs d.natAbs)]))) ?_ ?_
  · by_cases hd0 : d = 0
    · subst hd0
      refine Sp.tryZ (ds := [S n, S 0]) W (EvAll.cons (by walk_at "zev") (EvAll.cons (by walk_at "zev") EvAll.nil)) (fraction_of_raises W n) (by decide) (by decide +kernel) (by walk_at "zgl") (by walk_at "zgl") (by walk_at "zgl") (by walk_at "zoff") ?_
      exact ⟨rfl, by walk_at "zlk", by walk_at "zlk", by walk_at "zlk", by walk_at "zlk", Lk.here, fun h => absurd rfl h⟩
    · refine Sp.tryOk ?_
      walk_at "zasg"
      refine WP.nil ⟨rfl, by walk_at "zlk", by walk_at "zlk", by walk_at "zlk", by walk_at "zlk", ?_, fun _ => by walk_at "zlk"⟩
      rw [decide_eq_false hd0]; walk_at "zlk"
  rintro σ _ ⟨rfl, h1, h2, h3, h4, h6, h7⟩
  refine WP.skip (Tst.cmp (d := .tuple [S n, S d]) (e := .tuple [S n, S d]) (by walk_at "zev") (by walk_at "zev") (Cmp.neSame (k := 3) (by walk_at "zsh") (by decide))) ?_
  refine WP.skip (Tst.to (b := !(decide (d = 0) == decide (d = 0))) (by walk_at "zev") (by simp)) ?_
  by_cases hd0 : d = 0
  · walk_at "zifT"
    walk_at "zret"
    rfl
  walk_at "zskip"
  have hf := h7 hd0
  clear h7
  obtain ⟨f1, f2, f3⟩ := lnum_facts n d hd0
  have hg : 0 < Nat.gcd n.natAbs d.natAbs := Nat.gcd_pos_of_pos_right _ (by omega)
  have hgl : Nat.gcd n.natAbs d.natAbs ≤ d.natAbs := Nat.gcd_le_right _ (by omega)
  have hfb := fracB_dig (lnum n d * (Nat.gcd n.natAbs d.natAbs : Nat)) d.natAbs (by omega)
  rw [f3] at hfb
  have hql := Nat.div_le_self n.natAbs (Nat.gcd n.natAbs d.natAbs)
  have hql' := Nat.div_le_self d.natAbs (Nat.gcd n.natAbs d.natAbs)
  have hl : lnum n d = if d < 0 then -(n / (Nat.gcd n.natAbs d.natAbs : Nat)) else n / (Nat.gcd n.natAbs d.natAbs : Nat) := rfl
  generalize lnum n d = N at *
  obtain ⟨g, hG⟩ : ∃ g, Nat.gcd n.natAbs d.natAbs = g := ⟨_, rfl⟩
  refine WP.asg (d := .int (g : Nat)) (Ev.to (b := .int (Nat.gcd n.natAbs d.natAbs : Nat)) (by walk_at "zev") (by rw [hG])) (by walk_at "zgl") (by walk_at "zoff") ?_
  simp only [hG] at hf hg hgl hfb hql hql' hl f1 f3
  refine WP.asg (d := .int (n / (g : Int))) (Ev.bin (d := .int n) (e := .int g) (by walk_at "zev") (by walk_at "zev") (Bin.divN (by omega) (by omega))) (by walk_at "zgl") (by walk_at "zoff") ?_
  refine WP.join (b := decide (d < 0)) (fun σ' ow' => ow' = none ∧ Lk σ' "numer" (.int N) ∧ Lk σ' "c" (.int g) ∧ Lk σ' "d" (.int d) ∧ Lk σ' "n" (.int n) ∧ Lk σ' "f" (.tuple [.tuple [.int (n.sign * d.sign), D (n.natAbs / g)], D (d.natAbs / g)])) (by walk_at "zev") (fun hb => ?_) (fun hb => ?_) ?_
  · simp only [decide_eq_true_eq] at hb
    rw [if_pos hb] at hl
    walk_at "zasg"
    exact WP.nil ⟨rfl, by rw [hl]; walk_at "zlk", by walk_at "zlk", by walk_at "zlk", by walk_at "zlk", by walk_at "zlk"⟩
  · simp only [decide_eq_false_iff_not] at hb
    rw [if_neg hb] at hl
    exact ⟨rfl, by rw [hl]; walk_at "zlk", by walk_at "zlk", by walk_at "zlk", by walk_at "zlk", by walk_at "zlk"⟩
  clear h1 h2 h3 h4 h6 hf
  rintro σ' _ ⟨rfl, h1, h2, h3, h4, h5⟩
  have eq1 : ((d.natAbs : Int) / (g : Int)) = ((d.natAbs / g : Nat) : Int) := rfl
  refine WP.skip (Tst.cmp (d := .tuple [.tuple [.int (n.sign * d.sign), D (n.natAbs / g)], D (d.natAbs / g)]) (e := .tuple [S N, D (d.natAbs / g)]) (by walk_at "zev") ?_ (Cmp.neTo (k := 3) ?_ (by walk_at "zsh") (by decide))) ?_
  · exact Ev.tuple (EvAll.cons (by walk_at "zev") (EvAll.cons (Ev.fn (ds := [.int ((d.natAbs / g : Nat) : Int)]) W (EvAll.cons (Ev.to (b := .int ((d.natAbs : Int) / g)) (Ev.bin (d := .int d.natAbs) (e := .int g) (by walk_at "zev") (by walk_at "zev") (Bin.divN (by omega) (by omega))) (by rw [eq1])) EvAll.nil) (law_limbs_gives W ((d.natAbs / g : Nat) : Int) (Int.natCast_nonneg _) (by omega)) (by decide) (by walk_at "zgl")) EvAll.nil)) (by walk_at "zar")
  · rw [← f1, ← f2]
  refine WP.skip (Tst.to (b := !decide (tyName (.int (n.sign * d.sign)) = "int")) (by walk_at "zev") (by simp [tyName])) ?_
  have hNg : (N * g).natAbs < 100000000000 := by rw [f3]; exact hn
  have l1 := len_big (show n.natAbs < big by omega)
  have l2 := len_big (show d.natAbs < big by omega)
  have l3 := len_big (show d.natAbs / g < big by omega)
  have l4 := len_big (show n.natAbs / g < big by omega)
  have k1 := len_dig (n := n.natAbs) (k := 10) (by omega)
  have k2 := len_dig (n := d.natAbs) (k := 10) (by omega)
  have k3 := len_dig (n := d.natAbs / g) (k := 10) (by omega)
  have k4 := len_dig (n := n.natAbs / g) (k := 10) (by omega)
  refine WP.skip (Tst.to (b := !(fracB (N * g).sign (dig (N * g).natAbs) (dig ((d.natAbs : Int)).toNat) == decide ((g : Int) = 1))) ?_ ?_) ?_
  · rw [← f3] at k1
    have k2' : (dig ((d.natAbs : Int)).toNat).length ≤ 10 := k2
    walk_at "zev"
  · show (!(fracB (N * g).sign (dig (N * g).natAbs) (dig d.natAbs) == decide ((g : Int) = 1))) = false
    rw [f3, hfb]
    have hg1 : ((g : Int) = 1) = (g = 1) := propext ⟨fun h => by omega, fun h => by omega⟩
    simp only [hg1]
    simp
  refine WP.ret (d := .bool true) (Ev.to (b := .bool (fracB (n.sign * d.sign) (dig (n.natAbs / g)) (dig (d.natAbs / g) ++ [0]) == false)) (by walk_at "zev") ?_) rfl
  rw [fracB_bad]; rfl
local macro_rules | `(tactic| walk_at "zfn") => `(tactic| (with_reducible refine' law_reduced_gives (by assumption) _ _ ?_ ?_))

theorem lscale_le (c : Int) : 1 ≤ tbScale.getD (c % 4).toNat 0 ∧ tbScale.getD (c % 4).toNat 0 ≤ 100 := by
  have h0 := Int.emod_nonneg c (show (4 : Int) ≠ 0 by decide)
  have h1 := Int.emod_lt_of_pos c (show (0 : Int) < 4 by decide)
  generalize c % 4 = k at *
  have : k = 0 ∨ k = 1 ∨ k = 2 ∨ k = 3 := by omega
  rcases this with rfl | rfl | rfl | rfl <;> decide
theorem mul_range {a b : Int} (h0 : 0 ≤ a) (h1 : a ≤ 99999999) (h2 : 1 ≤ b) (h3 : b ≤ 100) : 0 ≤ a * b ∧ a * b < 100000000000 := by
  have h4 : a * b ≤ 99999999 * 100 := Int.mul_le_mul h1 h3 (by omega) (by decide)
  have h5 : 0 ≤ a * b := Int.mul_nonneg h0 (by omega)
  omega
theorem law_gives {C : Cx} (W : Wd C pP gloP bltP) (xs : List Int) (hl : xs.length < 2 ^ 60) : Gives C 7 "law" [L xs] (.bool true) := by
  refine Gives.of_body (lv := 6) (xs := ["script"]) W.ok (W.fn 37 rfl) (by walk_at "zpl1") rfl ?_
  show WP C 6 (scopeAt pP 37) _ [("script", L xs)] none _
  walk_at "zopen"
  have hB := big_is
  by_cases h12 : xs.length < 12
  · walk_at "zifT"
    walk_at "zret"
    rfl
  walk_at "zskip"
  walk_at "zasg"
  walk_at "zasg"
  walk_at "zasg"
  simp only [show ((0 : Int)).toNat = 0 from rfl, show ((1 : Int)).toNat = 1 from rfl, show ((2 : Int)).toNat = 2 from rfl, show ((3 : Int)).toNat = 3 from rfl, show ((4 : Int)).toNat = 4 from rfl, show ((5 : Int)).toNat = 5 from rfl, show ((6 : Int)).toNat = 6 from rfl]
  have r1 := lraw_len (xs.getD 1 0) (xs.getD 2 0) (xs.getD 3 0)
  have r2 := lraw_len (xs.getD 4 0) (xs.getD 5 0) (xs.getD 6 0)
  generalize hm : lraw (xs.getD 1 0) (xs.getD 2 0) (xs.getD 3 0) = mag at *
  generalize hd : lraw (xs.getD 4 0) (xs.getD 5 0) (xs.getD 6 0) = den at *
  generalize lsign (xs.getD 0 0) = sn at *
  walk_at "zasg"
  refine WP.skip (Tst.to (b := !(natB mag == natB mag)) (by walk_at "zev") (by simp)) ?_
  refine WP.skip (Tst.to (b := !(sgnB sn mag == sgnB sn mag)) (by walk_at "zev") (by simp)) ?_
  refine WP.skip (Tst.to (b := !(fracB sn mag den == fracB sn mag den)) (by walk_at "zev") (by simp)) ?_
  refine WP.skip (Tst.cmp (d := .tuple [.tuple [.int sn, L mag], L den]) (e := .tuple [.tuple [.int sn, L (lraw (xs.getD 1 0) (xs.getD 2 0) (xs.getD 3 0))], L (lraw (xs.getD 4 0) (xs.getD 5 0) (xs.getD 6 0))]) (by walk_at "zev") ?_ (Cmp.neTo (k := 3) (by rw [hm, hd]) (by walk_at "zsh") (by decide))) ?_
  · refine Ev.to (b := .tuple [.tuple [.int sn, L (lraw (xs.getD (1 : Int).toNat 0) (xs.getD (2 : Int).toNat 0) (xs.getD (3 : Int).toNat 0))], L (lraw (xs.getD (4 : Int).toNat 0) (xs.getD (5 : Int).toNat 0) (xs.getD (6 : Int).toNat 0))]) ?_ rfl
    walk_at "zev"
  walk_at "zasg"
  have z1 := lscale_le (xs.getD (9 : Int).toNat 0)
  have z2 := lsize_le (xs.getD (7 : Int).toNat 0)
  have z3 := lsize_le (xs.getD (8 : Int).toNat 0)
  generalize tbScale.getD (xs.getD (9 : Int).toNat 0 % 4).toNat 0 = sc at *
  walk_at "zasg"
  walk_at "zasg"
  have y1 := mul_range z2.1 z2.2 z1.1 z1.2
  have y2 := mul_range z3.1 z3.2 z1.1 z1.2
  generalize lsize (xs.getD (7 : Int).toNat 0) * sc = n at *
  generalize lsize (xs.getD (8 : Int).toNat 0) * sc = d at *
  obtain ⟨n, rfl⟩ : ∃ k : Nat, n = k := ⟨n.toNat, by omega⟩
  obtain ⟨d, rfl⟩ : ∃ k : Nat, d = k := ⟨d.toNat, by omega⟩
  refine WP.skip (Tst.to (b := !true) (by walk_at "zev") rfl) ?_
  refine WP.join (b := decide (xs.getD (10 : Int).toNat 0 % 2 = 1)) (fun σ' ow' => ow' = none ∧ Lk σ' "script" (L xs) ∧ (∃ k : Int, k.natAbs < 100000000000 ∧ Lk σ' "n" (.int k)) ∧ Lk σ' "d" (.int d)) (by walk_at "zev") (fun hb => ?_) (fun hb => ?_) ?_
  · walk_at "zasg"
    exact WP.nil ⟨rfl, by walk_at "zlk", ⟨-(n : Int), by omega, by walk_at "zlk"⟩, by walk_at "zlk"⟩
  · exact ⟨rfl, by walk_at "zlk", ⟨(n : Int), by omega, by walk_at "zlk"⟩, by walk_at "zlk"⟩
  rintro σ _ ⟨rfl, h1, ⟨n', hn', h2⟩, h3⟩
  refine WP.join (b := decide (xs.getD (11 : Int).toNat 0 % 2 = 1)) (fun σ' ow' => ow' = none ∧ Lk σ' "n" (.int n') ∧ (∃ k : Int, k.natAbs < 100000000000 ∧ Lk σ' "d" (.int k))) (by walk_at "zev") (fun hb => ?_) (fun hb => ?_) ?_
  · walk_at "zasg"
    exact WP.nil ⟨rfl, by walk_at "zlk", ⟨-(d : Int), by omega, by walk_at "zlk"⟩⟩
  · exact ⟨rfl, by walk_at "zlk", ⟨(d : Int), by omega, by walk_at "zlk"⟩⟩
  clear h1 h2 h3
  rintro σ _ ⟨rfl, h1, ⟨d', hd', h2⟩⟩
  refine WP.skip (Tst.cmp (d := S n') (e := S n') (by walk_at "zev") (by walk_at "zev") (Cmp.neSame (k := 2) (by walk_at "zsh") (by decide))) ?_
  refine WP.skip (Tst.to (b := !true) (by walk_at "zev") rfl) ?_
  refine WP.skip (Tst.to (b := !true) (by walk_at "zev") rfl) ?_
  walk_at "zret"
  rfl

end Mine
open PySem PySem.W PyProof.Rows
set_option Elab.async false
set_option maxRecDepth 100000
set_option maxHeartbeats 8000000
namespace Mine
/-- the text without the two rows that name the module -/
def viewP : Program := { PySem.Challenge.pw_sx_zlimbs_4 with main := { PySem.Challenge.pw_sx_zlimbs_4.main with body := ((List.range 38).filter fun i => i != 0 && i != 18).filterMap (PySem.Challenge.pw_sx_zlimbs_4.main.body[·]?) } }
end Mine
theorem PySem.Challenge.cw_sx_zlimbs_4_holds : PySem.Challenge.rw_sx_zlimbs_4.Holds := by
  w_on
  o_law
  refine holds_open (q := Mine.viewP) (loose := []) (Xt := fun s => xlAt Mine.viewP [] s && recOk (RowW.records PySem.Challenge.rw_sx_zlimbs_4.row.toRowW) s) (XP := XL Mine.viewP []) (Yf := Hook.obs Hook.none) (Ya := Hook.val Hook.none) (YP := Hook.says Hook.none) (N := 2314) ?hl (Hook.of Hook.none) (Hook.keeps Hook.none) (fun s e => xl_of s (Bool.and_eq_true_iff.mp e).1) XL.keeps (by rfl) (by rfl) (by rfl) (fun s e => recFacts_of (Bool.and_eq_true_iff.mp e).2) (by rfl) (by first | assumption | decide +kernel) (by decide +kernel) ⟨rfl, rfl, rfl, rfl, rfl, by decide +kernel⟩ ?hw ?hc
  case hl => intro w; kernel_rfl
  case hw => w_witness2
  intro w s₀ s₁ mg mb G Y fa o pm cd doc dV kV ho hd hcd hD hmg hg args vals as hpre hlay hrd hwl hlo
  refine Ground.open G ?_
  intro T B D TE TW
  refine Mine.close (l := PySem.Challenge.rw_sx_zlimbs_4) (C := ⟨PySem.Challenge.pw_sx_zlimbs_4, w, s₁.heap, mg, mb⟩) (k := 7) (n := 63) rfl rfl rfl hmg hg hpre hrd (by decide) ?_
  intro xs hx
  refine Mine.law_gives (Mine.world T B ?_ ?_ ?_) xs (by omega)
  · kernel_rfl
  · refine List.forall_mem_cons.mpr ⟨Mine.glo_int ?_, List.forall_mem_cons.mpr ⟨Mine.glo_tup ?_, List.forall_mem_cons.mpr ⟨Mine.glo_tup ?_, List.forall_mem_cons.mpr ⟨Mine.glo_tup ?_, List.forall_mem_nil _⟩⟩⟩⟩ <;> kernel_rfl
  · kernel_rfl
