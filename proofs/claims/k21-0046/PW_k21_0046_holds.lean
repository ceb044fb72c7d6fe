import PyProof.Rows.All
import Wide.All
import OpenK.AllK
import Wide.FinOn
import PySem.Challenge.RW_k21_0046
set_option Elab.async false
set_option linter.unusedVariables false
namespace Mine
open PySem PySem.Spec PySem.Calls PyProof.Rows

/-! the context of a law's run -/
structure Cx where
  prog : Program
  w : World
  hB : Heap
  X : Addr → Prop
  mg : Str → Option Value
  mb : Str → Option Value
  os : OsState

abbrev Cx.M (c : Cx) : Model := model c.prog c.w

structure Up (X : Addr → Prop) (h h' : Heap) : Prop where
  kp : ∀ b o, ¬ X b → h.get? b = some o → h'.get? b = some o
  th : ∀ b o, h.get? b = some o → ∃ o', h'.get? b = some o'

theorem Up.refl (X : Addr → Prop) (h : Heap) : Up X h h := ⟨fun _ _ _ e => e, fun _ o e => ⟨o, e⟩⟩
theorem Up.of {X : Addr → Prop} {h h' : Heap} (k : ∀ b o, h.get? b = some o → h'.get? b = some o) : Up X h h' :=
  ⟨fun b o _ e => k b o e, fun b o e => ⟨o, k b o e⟩⟩
theorem Up.trans {X : Addr → Prop} {h h' h'' : Heap} (a : Up X h h') (b : Up X h' h'') : Up X h h'' :=
  ⟨fun x o n e => b.kp x o n (a.kp x o n e), fun x o e => let ⟨_, e'⟩ := a.th x o e; b.th x _ e'⟩
theorem Up.none {X : Addr → Prop} {h h' : Heap} (u : Up X h h') {a : Addr} (e : h'.get? a = none) : h.get? a = none := by
  cases q : h.get? a with
  | none => rfl
  | some o => obtain ⟨o', e'⟩ := u.th a o q; rw [e] at e'; cases e'

structure Wf (c : Cx) (s : Shared) : Prop where
  base : ∀ b o, ¬ c.X b → c.hB.get? b = some o → s.heap.get? b = some o
  tab : ∀ b, c.X b → ∃ ps : { a : Array Value // TriplesOk a.toList }, s.heap.get? b = some { cls := .none, data := .fields ps.1 }
  old : OldK c.hB s.heap
  gens : AllBare s.gens
  os : s.os = c.os

structure Ext (c : Cx) (s s' : Shared) : Prop where
  up : Up c.X s.heap s'.heap
  wf : Wf c s'

theorem Ext.refl {c : Cx} {s : Shared} (W : Wf c s) : Ext c s s := ⟨Up.refl _ _, W⟩
theorem Ext.trans {c : Cx} {s s' s'' : Shared} (a : Ext c s s') (b : Ext c s' s'') : Ext c s s'' := ⟨a.up.trans b.up, b.wf⟩
theorem Wf.keeps {c : Cx} {s s' : Shared} (W : Wf c s) (hk : ∀ b o, s.heap.get? b = some o → s'.heap.get? b = some o) (hg : s'.gens = s.gens) (ho : s'.os = s.os) : Wf c s' where
  base := fun b o n e => hk b o (W.base b o n e)
  tab := fun b x => let ⟨ps, e⟩ := W.tab b x; ⟨ps, hk _ _ e⟩
  old := W.old.step_keeps hk
  gens := hg ▸ W.gens
  os := ho.trans W.os
theorem Ext.of {c : Cx} {s s' : Shared} (W : Wf c s) (hk : ∀ b o, s.heap.get? b = some o → s'.heap.get? b = some o) (hg : s'.gens = s.gens := by rfl) (ho : s'.os = s.os := by rfl) : Ext c s s' :=
  ⟨Up.of hk, W.keeps hk hg ho⟩
theorem Ext.toks {c : Cx} {s : Shared} (W : Wf c s) (tk : Nat) : Ext c s { s with toks := tk } := Ext.of W fun _ _ e => e
theorem Ext.push {c : Cx} {s : Shared} (W : Wf c s) (o : Obj) (tk : Nat) : Ext c s { s with heap := s.heap.push o, toks := tk } :=
  Ext.of W fun _ _ e => Heap.get?_push_of_some o e

/-! a change at one address that the base does not know -/
theorem oldK_same {h₀ h h' : Heap} (K : OldK h₀ h) {a : Addr} (ha : h₀.get? a = none) (hs : ∀ b, b ≠ a → h'.get? b = h.get? b) : OldK h₀ h' := by
  have ne : ∀ b o, h₀.get? b = some o → b ≠ a := fun b o e q => by rw [q, ha] at e; cases e
  refine ⟨fun b o e => ?_, fun b o e => let ⟨o', ho'⟩ := K.there b o e; ⟨o', (hs b (ne b o e)).trans ho'⟩⟩
  rcases K.old b o e with x | ⟨t, hc, vs, more, hv, x⟩ | ⟨rfl, hc, ⟨o', es, n, ho', r⟩, z⟩
  · exact .inl ((hs b (ne b o e)).trans x)
  · exact .inr (.inl ⟨t, hc, vs, more, hv, (hs b (ne b o e)).trans x⟩)
  · exact .inr (.inr ⟨rfl, hc, ⟨o', es, n, (hs _ (ne _ o e)).trans ho', r⟩, fun key => by rw [OldK.staticOf_congr (hs _ (ne _ o e)) key]; exact z key⟩)

theorem Wf.sameBut {c : Cx} {s : Shared} {h' : Heap} {a : Addr} {tk : Nat} (W : Wf c s) (hs : Heap.SameBut a s.heap h') (ha : c.hB.get? a = none) (hX : ¬ c.X a) : Wf c { s with heap := h', toks := tk } where
  base := fun b o n e => (hs.2 b (fun q => by rw [q, ha] at e; cases e)).trans (W.base b o n e)
  tab := fun b x => let ⟨ps, e⟩ := W.tab b x; ⟨ps, (hs.2 b (fun q => hX (q ▸ x))).trans e⟩
  old := oldK_same W.old ha hs.2
  gens := W.gens
  os := W.os

/-! data in the heap, as the library's Reads, but a dict (of tuples of ints to ints) with its hashes -/
mutual
inductive Reads (h : Heap) : Value → PyData → List Addr → Prop
  | none : Reads h .none .none []
  | bool (b) : Reads h (.bool b) (.bool b) []
  | int (i t) : Reads h (.int i t) (.int i) []
  | str (x t) : Reads h (.str x t) (.str x) []
  | list {a o vs n xs as} : h.get? a = some o → o.cls = .type "list" → o.data = .seq vs n → ReadsAll h vs.toList xs as → Reads h (.ref a) (.list xs) (a :: as)
  | tuple {a o vs n xs as} : h.get? a = some o → o.cls = .type "tuple" → o.data = .seq vs n → ReadsAll h vs.toList xs as → Reads h (.ref a) (.tuple xs) as
  | dict {a : Addr} {o es n} {xs : List (List Int × Addr × Value)} {ps : List (List Int × Int)} : h.get? a = some o → o.cls = .type "dict" → o.data = .dict es n → (a == sysModules) = false → (∀ prog w, h.DictOfH (tupleKind (intKind prog w)) a xs) → xs.map (·.1) = ps.map (·.1) →
      (∀ (j : Nat) x p, xs[j]? = some x → ps[j]? = some p → ∃ t, x.2.2 = .int p.2 t) → Reads h (.ref a) (.dict (ps.map fun p => (.tuple (p.1.map .int), .int p.2))) [a]
inductive ReadsAll (h : Heap) : List Value → List PyData → List Addr → Prop
  | nil : ReadsAll h [] [] []
  | cons {v vs d ds as bs} : Reads h v d as → ReadsAll h vs ds bs → ReadsAll h (v :: vs) (d :: ds) (as ++ bs)
end
theorem items_lib {h : Heap} {prog : Program} {w : World} : ∀ {ks : List Int} {vs : List Value}, ItemsAre (intKind prog w) ks vs → PySem.ReadsAll h vs (ks.map .int) []
  | _, _, .nil => .nil
  | _, _, .cons h1 h2 => by
    obtain ⟨t, rfl⟩ := Value.isInt_shape h1
    exact .cons (as := []) (bs := []) (.int _ _) (items_lib h2)
theorem keys_lib {h : Heap} {prog : Program} {w : World} : ∀ (xs : List (List Int × Addr × Value)), (∀ x ∈ xs, (tupleKind (intKind prog w)).is h x.1 x.2.1) → PySem.ReadsAll h (xs.map fun x => Value.ref x.2.1) (xs.map fun x => .tuple (x.1.map .int)) []
  | [], _ => .nil
  | x :: xs, hx => by
    obtain ⟨o, items, n, h1, h2, h3, h4⟩ := hx x (List.mem_cons_self ..)
    exact .cons (as := []) (bs := []) (.tuple h1 h2 h3 (items_lib h4)) (keys_lib xs fun y hy => hx y (List.mem_cons_of_mem _ hy))
theorem vals_lib {h : Heap} : ∀ (xs : List (List Int × Addr × Value)) (ps : List (List Int × Int)), xs.length = ps.length → (∀ (j : Nat) x p, xs[j]? = some x → ps[j]? = some p → ∃ t, x.2.2 = .int p.2 t) → PySem.ReadsAll h (xs.map (·.2.2)) (ps.map fun p => .int p.2) []
  | [], [], _, _ => .nil
  | x :: xs, p :: ps, hl, hv => by
    obtain ⟨t, e⟩ := hv 0 x p rfl rfl
    rw [List.map_cons, List.map_cons, e]
    exact .cons (as := []) (bs := []) (.int _ _) (vals_lib xs ps (by simpa using hl) fun j y q h1 h2 => hv (j + 1) y q (by simpa using h1) (by simpa using h2))
mutual
theorem Reads.lib {h : Heap} {v : Value} {d : PyData} {as : List Addr} (r : Reads h v d as) (prog : Program) (w : World) : PySem.Reads h v d as :=
  match r with
  | .none => .none
  | .bool b => .bool b
  | .int i t => .int i t
  | .str x t => .str x t
  | .list h1 h2 h3 h4 => .list h1 h2 h3 (ReadsAll.lib h4 prog w)
  | .tuple h1 h2 h3 h4 => .tuple h1 h2 h3 (ReadsAll.lib h4 prog w)
  | .dict (xs := xs) (ps := ps) _ _ _ h0 h1 h2 h3 => by
    obtain ⟨o, es, ep, g1, g2, g3, g4, g5, g6⟩ := h1 prog w
    have hl : xs.length = ps.length := by have := congrArg List.length h2; simpa using this
    have k1 := keys_lib xs g5
    have k2 := vals_lib (h := h) xs ps hl h3
    have e1 : es.toList.map (·.key) = xs.map fun x => Value.ref x.2.1 := by rw [g4, List.map_map]; rfl
    have e2 : es.toList.map (·.val) = xs.map (·.2.2) := by rw [g4, List.map_map]; rfl
    have e3 : (ps.map fun p => ((PyData.tuple (p.1.map .int), PyData.int p.2) : PyData × PyData)).map (·.1) = xs.map fun x => .tuple (x.1.map .int) := by
      rw [List.map_map]
      have : ∀ {A B : List (List Int)}, A = B → A.map (fun k => PyData.tuple (k.map .int)) = B.map (fun k => PyData.tuple (k.map .int)) := fun e => by rw [e]
      have := this h2
      rw [List.map_map, List.map_map] at this
      exact this.symm
    have e4 : (ps.map fun p => ((PyData.tuple (p.1.map .int), PyData.int p.2) : PyData × PyData)).map (·.2) = ps.map fun p => .int p.2 := by rw [List.map_map]; rfl
    exact PySem.Reads.dict (as := []) (bs := []) g1 g2.1 g3 (by rw [e1, e3]; exact k1) (by rw [e2, e4]; exact k2)
theorem ReadsAll.lib {h : Heap} {vs : List Value} {ds : List PyData} {as : List Addr} (r : ReadsAll h vs ds as) (prog : Program) (w : World) : PySem.ReadsAll h vs ds as :=
  match r with
  | .nil => .nil
  | .cons h1 h2 => .cons (Reads.lib h1 prog w) (ReadsAll.lib h2 prog w)
end
theorem reads_ints {h : Heap} : ∀ {vs : List Value} {ns : List Int} {as : List Addr}, PySem.ReadsAll h vs (ns.map .int) as → ReadsAll h vs (ns.map .int) as
  | _, [], _, r => by cases r; exact .nil
  | _, n :: ns, _, r => by
    cases r with | cons r1 r2 => cases r1; exact .cons (.int _ _) (reads_ints r2)
theorem reads_il {h : Heap} {v : Value} {ns : List Int} {as : List Addr} (r : PySem.Reads h v (.list (ns.map .int)) as) : Reads h v (.list (ns.map .int)) as := by
  cases r with | list h1 h2 h3 h4 => exact .list h1 h2 h3 (reads_ints h4)
/-! the relation Reads under changes -/
def Plainish (o : Obj) : Prop := (o.cls = .type "tuple" ∨ o.cls = .type "list" ∨ o.cls = .type "dict")
mutual
theorem reads_upon {h h' : Heap} {v : Value} {d : PyData} {as : List Addr} (r : Reads h v d as)
    (hl : ∀ a ∈ as, ∀ o, h.get? a = some o → Plainish o → h'.get? a = some o)
    (ht : ∀ a o, h.get? a = some o → o.cls = .type "tuple" → (∃ vs n, o.data = .seq vs n) → h'.get? a = some o) : Reads h' v d as :=
  match r with
  | .none => .none
  | .bool b => .bool b
  | .int i t => .int i t
  | .str x t => .str x t
  | .list h1 h2 h3 h4 => .list (hl _ (List.mem_cons_self ..) _ h1 (.inr (.inl h2))) h2 h3 (readsAll_upon h4 (fun a ha => hl a (List.mem_cons_of_mem _ ha)) ht)
  | .tuple h1 h2 h3 h4 => .tuple (ht _ _ h1 h2 ⟨_, _, h3⟩) h2 h3 (readsAll_upon h4 hl ht)
  | .dict k1 k2 k3 h0 h1 h2 h3 => .dict (hl _ (List.mem_cons_self ..) _ k1 (.inr (.inr k2))) k2 k3 h0 (fun prog w => by
      obtain ⟨o, es, ep, g1, g2, g3, g4, g5, g6⟩ := h1 prog w
      refine ⟨o, es, ep, hl _ (List.mem_cons_self ..) _ g1 (.inr (.inr g2.1)), g2, g3, g4, fun x hx => ?_, g6⟩
      obtain ⟨o', items, n, k1, k2, k3, k4⟩ := g5 x hx
      exact ⟨o', items, n, ht _ _ k1 k2 ⟨_, _, k3⟩, k2, k3, k4⟩) h2 h3
theorem readsAll_upon {h h' : Heap} {vs : List Value} {ds : List PyData} {as : List Addr} (r : ReadsAll h vs ds as)
    (hl : ∀ a ∈ as, ∀ o, h.get? a = some o → Plainish o → h'.get? a = some o)
    (ht : ∀ a o, h.get? a = some o → o.cls = .type "tuple" → (∃ vs n, o.data = .seq vs n) → h'.get? a = some o) : ReadsAll h' vs ds as :=
  match r with
  | .nil => .nil
  | .cons h1 h2 => .cons (reads_upon h1 (fun a ha => hl a (List.mem_append_left _ ha)) ht) (readsAll_upon h2 (fun a ha => hl a (List.mem_append_right _ ha)) ht)
end
theorem not_tab {c : Cx} {s : Shared} (W : Wf c s) {a : Addr} {o : Obj} (e : s.heap.get? a = some o) (hc : o.cls ≠ .none) : ¬ c.X a := fun x => by
  obtain ⟨ps, q⟩ := W.tab a x
  rw [q] at e; cases e; exact hc rfl
theorem plainish_cls {o : Obj} (p : Plainish o) : o.cls ≠ .none := by
  rcases p with q | q | q <;> rw [q] <;> nofun
theorem Ext.reads {c : Cx} {s s' : Shared} {v : Value} {d : PyData} {as : List Addr} (W : Wf c s) (x : Ext c s s') (r : Reads s.heap v d as) : Reads s'.heap v d as :=
  reads_upon r (fun a _ o e p => x.up.kp a o (not_tab W e (plainish_cls p)) e) (fun a o e p _ => x.up.kp a o (not_tab W e (by rw [p]; nofun)) e)
theorem Ext.readsAll {c : Cx} {s s' : Shared} {vs : List Value} {ds : List PyData} {as : List Addr} (W : Wf c s) (x : Ext c s s') (r : ReadsAll s.heap vs ds as) : ReadsAll s'.heap vs ds as :=
  readsAll_upon r (fun a _ o e p => x.up.kp a o (not_tab W e (plainish_cls p)) e) (fun a o e p _ => x.up.kp a o (not_tab W e (by rw [p]; nofun)) e)

/-! every object of a footprint is a list or a dict -/
def ListOrDict (o : Obj) : Prop := (o.cls = .type "list" ∧ ∃ vs n, o.data = .seq vs n) ∨ (o.cls = .type "dict" ∧ ∃ es n, o.data = .dict es n)
mutual
theorem reads_objs {h : Heap} {v : Value} {d : PyData} {as : List Addr} (r : Reads h v d as) : ∀ a ∈ as, ∃ o, h.get? a = some o ∧ ListOrDict o :=
  match r with
  | .none => nofun
  | .bool _ => nofun
  | .int _ _ => nofun
  | .str _ _ => nofun
  | .list h1 h2 h3 h4 => fun a ha => (List.mem_cons.mp ha).elim (fun e => e ▸ ⟨_, h1, .inl ⟨h2, _, _, h3⟩⟩) (readsAll_objs h4 a)
  | .tuple _ _ _ h4 => readsAll_objs h4
  | .dict h1 h2 h3 _ _ _ _ => fun a ha => (List.mem_singleton.mp ha) ▸ ⟨_, h1, .inr ⟨h2, _, _, h3⟩⟩
theorem readsAll_objs {h : Heap} {vs : List Value} {ds : List PyData} {as : List Addr} (r : ReadsAll h vs ds as) : ∀ a ∈ as, ∃ o, h.get? a = some o ∧ ListOrDict o :=
  match r with
  | .nil => nofun
  | .cons h1 h2 => fun a ha => (List.mem_append.mp ha).elim (reads_objs h1 a) (readsAll_objs h2 a)
end

def Pl (h : Heap) (a : Addr) : Prop := ∃ o, h.get? a = some o ∧ ListOrDict o ∧ o.dict = none ∧ o.slots = #[]
theorem Pl.ext {c : Cx} {s s' : Shared} {a : Addr} (W : Wf c s) (x : Ext c s s') (p : Pl s.heap a) : Pl s'.heap a :=
  let ⟨o, e, l, q⟩ := p
  ⟨o, x.up.kp a o (not_tab W e (by rcases l with ⟨q, _⟩ | ⟨q, _⟩ <;> rw [q] <;> nofun)) e, l, q⟩

/-! flat data: no list, no dict within -/
mutual
def flat : PyData → Bool
  | .none | .bool _ | .int _ | .str _ => true
  | .list _ | .dict _ => false
  | .tuple xs => flats xs
def flats : List PyData → Bool
  | [] => true
  | x :: r => flat x && flats r
end
mutual
theorem reads_flat {h : Heap} {v : Value} {d : PyData} {as : List Addr} (r : Reads h v d as) (hf : flat d = true) : as = [] :=
  match r with
  | .none => rfl
  | .bool _ => rfl
  | .int _ _ => rfl
  | .str _ _ => rfl
  | .list .. => by simp [flat] at hf
  | .tuple _ _ _ h4 => readsAll_flat h4 (by simpa [flat] using hf)
  | .dict .. => by simp [flat] at hf
theorem readsAll_flat {h : Heap} {vs : List Value} {ds : List PyData} {as : List Addr} (r : ReadsAll h vs ds as) (hf : flats ds = true) : as = [] :=
  match r with
  | .nil => rfl
  | .cons h1 h2 => by
    simp only [flats, Bool.and_eq_true] at hf
    rw [reads_flat h1 hf.1, readsAll_flat h2 hf.2]; rfl
end

end Mine

namespace Mine
open PySem PySem.Spec PySem.Calls PyProof.Rows

inductive K where
  | sh | lo | ow
  deriving DecidableEq
structure Slot where
  k : K
  d : PyData
abbrev Rho := List (Option Slot)

structure Fm where
  env : Env
  A : Around
  h₀ : Heap
  xs : List Str
  lv : Nat

def Loads (env : Env) (h : Heap) (x : Str) (v : Value) : Prop :=
  (env.kindOf x = some .local ∧ ∃ m, h.Ns env.locals m ∧ m x = some v) ∨
  ((env.kindOf x = some .cell ∨ env.kindOf x = some .free) ∧ ∃ a, env.cells.lookup x = some a ∧ h.IsCell a (some v))

/-- room for n more levels of calls -/
structure Room (n : Nat) (A : Around) : Prop where
  hand : A.handled = none
  depth : A.depth + 10 * n + 10 < recursionLimit
  units : A.units + 100 * n + 200 < cLine
  guards : A.guards = some []

structure FmOk (c : Cx) (f : Fm) : Prop where
  kind : f.env.scope.kind = .function
  glob : f.env.globals = mainGlobals
  bi : f.env.builtins = builtinsNs
  room : Room f.lv f.A
  base : Up c.X c.hB f.h₀

structure St (c : Cx) (f : Fm) (ρ : Rho) (mo : Addr → Prop) (val : Nat → Value) (fp : Nat → List Addr) (s : Shared) : Prop where
  wf : Wf c s
  ok : FmOk c f
  keep : Up c.X f.h₀ s.heap
  ns : ∃ m, s.heap.Ns f.env.locals m
  cells : ∀ x a, f.env.cells.lookup x = some a → ∃ v, s.heap.IsCell a v
  var : ∀ i sl, ρ[i]? = some (some sl) → ∃ x, f.xs[i]? = some x ∧ Loads f.env s.heap x (val i) ∧ Reads s.heap (val i) sl.d (fp i)
  own : ∀ i sl, ρ[i]? = some (some sl) → sl.k = .ow → (fp i).Nodup ∧ ∀ a ∈ fp i, mo a
  shr : ∀ i sl, ρ[i]? = some (some sl) → sl.k ≠ .ow → ∀ a ∈ fp i, ¬ mo a
  loc : ∀ i sl, ρ[i]? = some (some sl) → sl.k = .lo → ∀ a ∈ fp i, f.h₀.get? a = none
  apart : ∀ i j sl sl', i ≠ j → ρ[i]? = some (some sl) → ρ[j]? = some (some sl') → sl.k = .ow → sl'.k = .ow → ∀ a ∈ fp i, a ∉ fp j
  moNew : ∀ a, mo a → f.h₀.get? a = none
  moPl : ∀ a, mo a → Pl s.heap a
  moL : ¬ mo f.env.locals
  fpL : ∀ i sl, ρ[i]? = some (some sl) → f.env.locals ∉ fp i

theorem St.moIn {c : Cx} {f : Fm} {ρ : Rho} {mo : Addr → Prop} {val : Nat → Value} {fp : Nat → List Addr} {s : Shared} (S : St c f ρ mo val fp s) (a : Addr) (h : mo a) : ∃ o, s.heap.get? a = some o ∧ ListOrDict o :=
  let ⟨o, e, l, _⟩ := S.moPl a h; ⟨o, e, l⟩
theorem Ns.ext {c : Cx} {s s' : Shared} {a : Addr} {m : Str → Option Value} (W : Wf c s) (x : Ext c s s') (n : s.heap.Ns a m) : s'.heap.Ns a m := by
  obtain ⟨o, es, ep, ho, hd, r⟩ := n
  refine ⟨o, es, ep, x.up.kp a o (fun hx => ?_) ho, hd, r⟩
  obtain ⟨ps, e⟩ := W.tab a hx
  rw [e] at ho; cases ho; cases hd
theorem IsCell.ext {c : Cx} {s s' : Shared} {a : Addr} {v : Option Value} (W : Wf c s) (x : Ext c s s') (n : s.heap.IsCell a v) : s'.heap.IsCell a v := by
  obtain ⟨o, ho, hd⟩ := n
  refine ⟨o, x.up.kp a o (fun hx => ?_) ho, hd⟩
  obtain ⟨ps, e⟩ := W.tab a hx
  rw [e] at ho; cases ho; cases hd
theorem Loads.ext {c : Cx} {s s' : Shared} {env : Env} {y : Str} {v : Value} (W : Wf c s) (x : Ext c s s') (n : Loads env s.heap y v) : Loads env s'.heap y v := by
  rcases n with ⟨hk, m, hn, hm⟩ | ⟨hk, a, ha, hc⟩
  · exact .inl ⟨hk, m, Ns.ext W x hn, hm⟩
  · exact .inr ⟨hk, a, ha, IsCell.ext W x hc⟩
theorem listOrDict_ext {c : Cx} {s s' : Shared} {a : Addr} {o : Obj} (W : Wf c s) (x : Ext c s s') (e : s.heap.get? a = some o) (p : ListOrDict o) : s'.heap.get? a = some o :=
  x.up.kp a o (not_tab W e (by rcases p with ⟨q, _⟩ | ⟨q, _⟩ <;> rw [q] <;> nofun)) e

theorem St.ext {c : Cx} {f : Fm} {ρ : Rho} {mo : Addr → Prop} {val : Nat → Value} {fp : Nat → List Addr} {s s' : Shared} (S : St c f ρ mo val fp s) (x : Ext c s s') : St c f ρ mo val fp s' where
  wf := x.wf
  ok := S.ok
  keep := S.keep.trans x.up
  ns := let ⟨m, n⟩ := S.ns; ⟨m, Ns.ext S.wf x n⟩
  cells := fun y a e => let ⟨v, n⟩ := S.cells y a e; ⟨v, IsCell.ext S.wf x n⟩
  var := fun i sl e => let ⟨y, h1, h2, h3⟩ := S.var i sl e; ⟨y, h1, h2.ext S.wf x, x.reads S.wf h3⟩
  own := S.own
  shr := S.shr
  loc := S.loc
  apart := S.apart
  moNew := S.moNew
  moPl := fun a h => (S.moPl a h).ext S.wf x
  moL := S.moL
  fpL := S.fpL

/-! kinds of results -/
inductive EK where
  | w | sh | lo | fr
  | us (is : List Nat)

def KOk0 (f : Fm) (mo : Addr → Prop) (fp : Nat → List Addr) (h h' : Heap) : EK → List Addr → Prop
  | .w, _ => True
  | .sh, as => ∀ a ∈ as, ¬ mo a
  | .lo, as => ∀ a ∈ as, ¬ mo a ∧ f.h₀.get? a = none
  | .fr, as => as.Nodup ∧ (∀ a ∈ as, h.get? a = none) ∧ ∀ a ∈ as, Pl h' a
  | .us is, as => as = is.flatMap fp
def KOk (f : Fm) (mo : Addr → Prop) (fp : Nat → List Addr) (h h' : Heap) (k : EK) (as : List Addr) : Prop := f.env.locals ∉ as ∧ KOk0 f mo fp h h' k as

def Ev (c : Cx) (f : Fm) (ρ : Rho) (e : Expr) (d : PyData) (k : EK) : Prop :=
  ∀ mo val fp s E, St c f ρ mo val fp s → wpAny c.M f.A (eval e f.env) (fun v s' => Ext c s s' ∧ ∃ as, Reads s'.heap v d as ∧ KOk f mo fp s.heap s'.heap k as) E s

section
variable {c : Cx} {f : Fm} {ρ : Rho} {mo : Addr → Prop} {val : Nat → Value} {fp : Nat → List Addr} {s : Shared} {E : Value → Shared → Prop} {e : Expr} {d : PyData} {k : EK}

theorem Ev.bind {Q : Value → Shared → Prop} (h : Ev c f ρ e d k) (S : St c f ρ mo val fp s)
    (hn : ∀ v s' as, Ext c s s' → St c f ρ mo val fp s' → Reads s'.heap v d as → KOk f mo fp s.heap s'.heap k as → Q v s') : wpAny c.M f.A (eval e f.env) Q E s :=
  wpAny_mono (h mo val fp s E S) (fun v s' ⟨x, as, r, ko⟩ => hn v s' as x (S.ext x) r ko) fun _ _ z => z

theorem KOk.nil {h h' : Heap} (hk : ∀ is, k = .us is → is = []) : KOk f mo fp h h' k [] := by
  refine ⟨nofun, ?_⟩
  cases k with
  | w => trivial
  | sh => exact nofun
  | lo => exact nofun
  | fr => exact ⟨.nil, nofun, nofun⟩
  | us is => rw [hk is rfl]; rfl
theorem Ev.ofFlat (h : Ev c f ρ e d k) (hf : flat d = true) : Ev c f ρ e d .fr := fun mo val fp s E S => h.bind S fun v s' as x _ r _ => ⟨x, as, r, by rw [reads_flat r hf]; exact ⟨nofun, .nil, nofun, nofun⟩⟩
theorem Ev.ofFlatU (h : Ev c f ρ e d k) (hf : flat d = true) : Ev c f ρ e d (.us []) := fun mo val fp s E S => h.bind S fun v s' as x _ r _ => ⟨x, as, r, by rw [reads_flat r hf]; exact ⟨nofun, rfl⟩⟩
theorem KOk.fr_lo (S : St c f ρ mo val fp s) {as : List Addr} {s' : Shared} (h : KOk f mo fp s.heap s'.heap .fr as) : KOk f mo fp s.heap s'.heap .lo as := ⟨h.1, fun a ha => by
  have e := h.2.2.1 a ha
  refine ⟨fun m => ?_, S.keep.none e⟩
  obtain ⟨o, q, _⟩ := S.moIn a m
  rw [e] at q; cases q⟩
theorem frOk (S : St c f ρ mo val fp s) {as : List Addr} {h' : Heap} (h1 : as.Nodup) (h2 : ∀ a ∈ as, s.heap.get? a = none) (h3 : ∀ a ∈ as, Pl h' a) : KOk f mo fp s.heap h' .fr as :=
  ⟨fun h => (by obtain ⟨m, o, _, _, q, _⟩ := S.ns; rw [h2 _ h] at q; cases q), h1, h2, h3⟩
theorem Ev.cast {d' : PyData} (h : Ev c f ρ e d k) (q : d = d') : Ev c f ρ e d' k := q ▸ h

/-- where a name stands in the frame's list -/
inductive At : List Str → Rho → Str → Slot → Nat → Prop
  | here {x : Str} {xs : List Str} {sl : Slot} {ρ : Rho} : At (x :: xs) (some sl :: ρ) x sl 0
  | there {x y : Str} {xs : List Str} {sl : Slot} {o : Option Slot} {ρ : Rho} {i : Nat} : At xs ρ x sl i → At (y :: xs) (o :: ρ) x sl (i + 1)
theorem At.slot {xs : List Str} {ρ : Rho} {x : Str} {sl : Slot} {i : Nat} (h : At xs ρ x sl i) : ρ[i]? = some (some sl) := by
  induction h with
  | here => rfl
  | there _ ih => simpa using ih
theorem At.name {xs : List Str} {ρ : Rho} {x : Str} {sl : Slot} {i : Nat} (h : At xs ρ x sl i) : xs[i]? = some x := by
  induction h with
  | here => rfl
  | there _ ih => simpa using ih

theorem load_any {x : Str} {v : Value} {Q : Value → Shared → Prop} {env : Env} {M : Model} {A : Around} (hk : env.scope.kind = .function) (l : Loads env s.heap x v) (h : Q v s) (hn : (x == ("__classdict__" : Str)) = false) :
    wpAny M A (loadName env x) Q E s := by
  rcases l with ⟨h1, m, h2, h3⟩ | ⟨h1 | h1, a, h2, h3⟩
  · exact wpAny_loadName_local hk h1 h2 h3 h
  · exact wpAny_loadName_cell hk h1 h2 h3 h
  · exact wpAny_loadName_free hk h1 h2 h3 h hn

theorem name_step {x : Str} {pos : Pos} {sl : Slot} {i : Nat} {Q : Value → Shared → Prop} (S : St c f ρ mo val fp s) (h : At f.xs ρ x sl i) (hq : Reads s.heap (val i) sl.d (fp i) → Q (val i) s)
    (hd : (x == ("__debug__" : Str)) = false) (hn : (x == ("__classdict__" : Str)) = false) : wpAny c.M f.A (eval (.Name x pos) f.env) Q E s := by
  obtain ⟨y, h1, h2, h3⟩ := S.var i sl h.slot
  rw [h.name] at h1; cases h1
  exact wpAny_Name (load_any S.ok.kind h2 (hq h3) hn) hd

/-- a variable, as it lies -/
theorem ev_name_w {x : Str} {pos : Pos} {k : K} {d : PyData} {i : Nat} (h : At f.xs ρ x ⟨k, d⟩ i) (hd : (x == ("__debug__" : Str)) = false := by decide +kernel) (hn : (x == ("__classdict__" : Str)) = false := by decide +kernel) :
    Ev c f ρ (.Name x pos) d .w := fun mo val fp s E S => name_step S h (fun r => ⟨Ext.refl S.wf, fp i, r, S.fpL i _ h.slot, trivial⟩) hd hn
theorem ev_name_us {x : Str} {pos : Pos} {k : K} {d : PyData} {i : Nat} (h : At f.xs ρ x ⟨k, d⟩ i) (hd : (x == ("__debug__" : Str)) = false := by decide +kernel) (hn : (x == ("__classdict__" : Str)) = false := by decide +kernel) :
    Ev c f ρ (.Name x pos) d (.us [i]) := fun mo val fp s E S => name_step S h (fun r => ⟨Ext.refl S.wf, fp i, r, S.fpL i _ h.slot, by simp [KOk0]⟩) hd hn
theorem ev_name_sh {x : Str} {pos : Pos} {d : PyData} {i : Nat} {k : K} (h : At f.xs ρ x ⟨k, d⟩ i) (hk : k ≠ .ow := by decide) (hd : (x == ("__debug__" : Str)) = false := by decide +kernel) (hn : (x == ("__classdict__" : Str)) = false := by decide +kernel) :
    Ev c f ρ (.Name x pos) d .sh := fun mo val fp s E S => name_step S h (fun r => ⟨Ext.refl S.wf, fp i, r, S.fpL i _ h.slot, S.shr i _ h.slot hk⟩) hd hn
theorem ev_name_lo {x : Str} {pos : Pos} {d : PyData} {i : Nat} (h : At f.xs ρ x ⟨.lo, d⟩ i) (hd : (x == ("__debug__" : Str)) = false := by decide +kernel) (hn : (x == ("__classdict__" : Str)) = false := by decide +kernel) :
    Ev c f ρ (.Name x pos) d .lo := fun mo val fp s E S => name_step S h (fun r => ⟨Ext.refl S.wf, fp i, r, S.fpL i _ h.slot, fun a ha => ⟨S.shr i _ h.slot (by nofun) a ha, S.loc i _ h.slot rfl a ha⟩⟩) hd hn

theorem ev_int {i : Int} {n : Nat} {pos : Pos} : Ev c f ρ (.Constant (.int i) n pos) (.int i) .fr := fun _ _ _ _ _ S =>
  wpAny_Constant_int ⟨Ext.toks S.wf _, [], .int _ _, nofun, .nil, nofun, nofun⟩
theorem ev_bool {b : Bool} {n : Nat} {pos : Pos} : Ev c f ρ (.Constant (.bool b) n pos) (.bool b) .fr := fun _ _ _ _ _ S =>
  wpAny_Constant_bool ⟨Ext.refl S.wf, [], .bool _, nofun, .nil, nofun, nofun⟩
end

end Mine

namespace Mine
open PySem PySem.Spec PySem.Calls PyProof.Rows

section
variable {c : Cx} {f : Fm} {ρ : Rho} {mo : Addr → Prop} {val : Nat → Value} {fp : Nat → List Addr} {s : Shared} {E : Value → Shared → Prop}
  {e l r x y : Expr} {d d1 d2 : PyData} {k k1 k2 : EK} {pos : Pos} {a b : Int}

theorem frNil {h h' : Heap} : KOk f mo fp h h' .fr [] := ⟨nofun, .nil, nofun, nofun⟩

/-! two operands -/
theorem ev_bin {op : Operator} (h1 : Ev c f ρ l d1 k1) (h2 : Ev c f ρ r d2 k2)
    (h : ∀ s v1 v2 as1 as2 E, Wf c s → Room f.lv f.A → Reads s.heap v1 d1 as1 → Reads s.heap v2 d2 as2 →
      wpAny c.M f.A (binaryOp op v1 v2) (fun v s' => Ext c s s' ∧ ∃ as, Reads s'.heap v d as ∧ as.Nodup ∧ (∀ a ∈ as, s.heap.get? a = none) ∧ ∀ a ∈ as, Pl s'.heap a) E s) : Ev c f ρ (.BinOp l op r pos) d .fr := by
  intro mo val fp s E S
  refine wpAny_BinOp (h1.bind S fun v1 s1 as1 x1 S1 r1 _ => h2.bind S1 fun v2 s2 as2 x2 S2 r2 _ => ?_)
  refine wpAny_mono (h s2 v1 v2 as1 as2 E S2.wf S.ok.room (x2.reads S1.wf r1) r2) (fun v s3 ⟨x3, as, r3, n3, q3, p3⟩ => ?_) fun _ _ z => z
  exact ⟨(x1.trans x2).trans x3, as, r3, frOk S n3 (fun a ha => (x1.trans x2).up.none (q3 a ha)) p3⟩

theorem ev_add (h1 : Ev c f ρ l (.int a) k1) (h2 : Ev c f ρ r (.int b) k2) : Ev c f ρ (.BinOp l .Add r pos) (.int (a + b)) .fr :=
  ev_bin h1 h2 fun s v1 v2 as1 as2 E W _ r1 r2 => by cases r1; cases r2; exact P.add_int ⟨Ext.toks W _, [], .int _ _, .nil, nofun, nofun⟩
theorem ev_sub (h1 : Ev c f ρ l (.int a) k1) (h2 : Ev c f ρ r (.int b) k2) : Ev c f ρ (.BinOp l .Sub r pos) (.int (a - b)) .fr :=
  ev_bin h1 h2 fun s v1 v2 as1 as2 E W _ r1 r2 => by cases r1; cases r2; exact P.sub_int ⟨Ext.toks W _, [], .int _ _, .nil, nofun, nofun⟩
theorem ev_mul (h1 : Ev c f ρ l (.int a) k1) (h2 : Ev c f ρ r (.int b) k2) (hm : IntMulOk a b) : Ev c f ρ (.BinOp l .Mult r pos) (.int (a * b)) .fr :=
  ev_bin h1 h2 fun s v1 v2 as1 as2 E W _ r1 r2 => by cases r1; cases r2; exact P.mul_int ⟨Ext.toks W _, [], .int _ _, .nil, nofun, nofun⟩ hm
theorem ev_mod (h1 : Ev c f ρ l (.int a) k1) (h2 : Ev c f ρ r (.int b) k2) (hb : 0 < b) : Ev c f ρ (.BinOp l .Mod r pos) (.int (a % b)) .fr :=
  ev_bin h1 h2 fun s v1 v2 as1 as2 E W _ r1 r2 => by
    cases r1; cases r2
    exact PyProof.Rows.mod_int (by omega) ⟨Ext.toks W _, [], by rw [Int.fmod_eq_emod_of_nonneg _ (by omega)]; exact .int _ _, .nil, nofun, nofun⟩
theorem ev_fdiv (h1 : Ev c f ρ l (.int a) k1) (h2 : Ev c f ρ r (.int b) k2) (hb : 0 < b) (hs : b < 1073741824) : Ev c f ρ (.BinOp l .FloorDiv r pos) (.int (a / b)) .fr :=
  ev_bin h1 h2 fun s v1 v2 as1 as2 E W _ r1 r2 => by
    cases r1; cases r2
    refine AutoIntOps.floordiv_1 (by simp; omega) (by rw [PyProof.noPylong_small (by omega)]; simp) ?_
    show (fun v s' => _) _ _
    exact ⟨Ext.toks W _, [], by rw [Int.fdiv_eq_ediv_of_nonneg _ (by omega)]; exact .int _ _, .nil, nofun, nofun⟩
/-! comparisons -/
def Cmp (c : Cx) (n : Nat) (op : CmpOp) (d1 d2 : PyData) (b : Bool) : Prop :=
  ∀ A s v1 v2 as1 as2 E (Q : Value → Shared → Prop), Wf c s → Room n A → Reads s.heap v1 d1 as1 → Reads s.heap v2 d2 as2 → Q (.bool b) s → wpAny c.M A (compareOp op v1 v2) Q E s

theorem ev_cmp {op : CmpOp} {q : Bool} (h1 : Ev c f ρ l d1 k1) (h2 : Ev c f ρ r d2 k2) (h : Cmp c f.lv op d1 d2 q) (hm : behindInMarks op r = false := by with_unfolding_all rfl) :
    Ev c f ρ (.Compare l [op] [r] pos) (.bool q) .fr := by
  intro mo val fp s E S
  refine wpAny_Compare1 (h1.bind S fun v1 s1 as1 x1 S1 r1 _ => h2.bind S1 fun v2 s2 as2 x2 S2 r2 _ => ?_) hm
  exact h _ _ _ _ _ _ _ _ S2.wf S.ok.room (x2.reads S1.wf r1) r2 ⟨x1.trans x2, [], .bool _, frNil⟩

theorem cmp_lt {n : Nat} : Cmp c n .Lt (.int a) (.int b) (decide (a < b)) := fun _ _ _ _ _ _ _ _ _ _ r1 r2 h => by cases r1; cases r2; exact P.lt_int h
theorem cmp_gt {n : Nat} : Cmp c n .Gt (.int a) (.int b) (decide (b < a)) := fun _ _ _ _ _ _ _ _ _ _ r1 r2 h => by cases r1; cases r2; exact P.gt_int h
theorem cmp_eq {n : Nat} : Cmp c n .Eq (.int a) (.int b) (a == b) := fun _ _ _ _ _ _ _ _ _ _ r1 r2 h => by cases r1; cases r2; exact P.eq_int h
theorem cmp_ne {n : Nat} : Cmp c n .NotEq (.int a) (.int b) (a != b) := fun _ _ _ _ _ _ _ _ _ _ r1 r2 h => by cases r1; cases r2; exact P.ne_int h
theorem cmp_eqv {n : Nat} (h1 : SeqAt.shaped d1 = true) (h2 : SeqAt.shaped d2 = true) : Cmp c n .Eq d1 d2 (PyData.eqv d1 d2) := fun _ _ _ _ _ _ _ _ _ R r1 r2 h =>
  SeqAt.compareEq_shaped (r1.lib c.prog c.w) (r2.lib c.prog c.w) h1 h2 (by have := R.units; omega) h
theorem cmp_nev {n : Nat} (h1 : SeqAt.shaped d1 = true) (h2 : SeqAt.shaped d2 = true) : Cmp c n .NotEq d1 d2 (!PyData.eqv d1 d2) := fun _ _ _ _ _ _ _ _ _ R r1 r2 h =>
  SeqAt.compareNe_shaped (r1.lib c.prog c.w) (r2.lib c.prog c.w) h1 h2 (by have := R.units; omega) h
def isNone : PyData → Bool
  | .none => true
  | _ => false
def isBool (q : Bool) : PyData → Bool
  | .bool b => b == q
  | _ => false
theorem cmp_is_bool {n : Nat} {q : Bool} : Cmp c n .Is d1 (.bool q) (isBool q d1) := fun _ _ _ _ _ _ _ _ _ _ r1 r2 h => by
  cases r2; cases r1 <;> first | exact wpAny_is_other rfl nofun h | skip
  rename_i b
  refine wpAny_is_plain rfl ?_
  have : (Value.bool b == Value.bool q) = (b == q) := by cases b <;> cases q <;> rfl
  rw [this]; exact h
theorem cmp_isnot_bool {n : Nat} {q : Bool} : Cmp c n .IsNot d1 (.bool q) (!isBool q d1) := fun _ _ _ _ _ _ _ _ _ _ r1 r2 h => by
  cases r2; cases r1 <;> first | exact wpAny_isNot_other rfl nofun h | skip
  rename_i b
  refine wpAny_isNot_plain rfl ?_
  have : (Value.bool b == Value.bool q) = (b == q) := by cases b <;> cases q <;> rfl
  rw [this]; exact h

/-! truth of a test -/
def Tst (c : Cx) (f : Fm) (ρ : Rho) (e : Expr) (b : Bool) : Prop :=
  ∀ mo val fp s E, St c f ρ mo val fp s → wpAny c.M f.A (isTrue e f.env (eval e f.env)) (fun t s' => t = b ∧ Ext c s s') E s

theorem Tst.bind {q : Bool} {Q : Bool → Shared → Prop} (h : Tst c f ρ e q) (S : St c f ρ mo val fp s) (hn : ∀ s', Ext c s s' → St c f ρ mo val fp s' → Q q s') :
    wpAny c.M f.A (isTrue e f.env (eval e f.env)) Q E s :=
  wpAny_mono (h mo val fp s E S) (fun t s' ⟨ht, x⟩ => ht ▸ hn s' x (S.ext x)) fun _ _ z => z

def truth : PyData → Bool
  | .none => false
  | .bool b => b
  | .int i => i != 0
  | .str x => x.length != 0
  | .list xs => !xs.isEmpty
  | .tuple xs => !xs.isEmpty
  | .dict xs => !xs.isEmpty

theorem tst_cmp {op : CmpOp} {q : Bool} (h1 : Ev c f ρ l d1 k1) (h2 : Ev c f ρ r d2 k2) (h : Cmp c f.lv op d1 d2 q) (hm : behindInMarks op r = false := by with_unfolding_all rfl) :
    Tst c f ρ (.Compare l [op] [r] pos) q := by
  intro mo val fp s E S
  refine wpAny_isTrue_Compare1 (h1.bind S fun v1 s1 as1 x1 S1 r1 _ => h2.bind S1 fun v2 s2 as2 x2 S2 r2 _ => ?_) hm
  exact h _ _ _ _ _ _ _ _ S2.wf S.ok.room (x2.reads S1.wf r1) r2 (wpAny_truthy_bool ⟨rfl, x1.trans x2⟩)
theorem tst_not {q : Bool} (h : Tst c f ρ x q) : Tst c f ρ (.UnaryOp .Not x pos) (!q) := fun mo val fp s E S =>
  wpAny_isTrue_Not (h.bind S fun s' x _ => ⟨rfl, x⟩)
theorem tst_bool {q : Bool} (h : Ev c f ρ e (.bool q) k) (he : ∀ env whole, isTrue e env whole = (do let v ← whole; standAt e.pos; holding [v] (truthy v)) := by intro _ _; rfl) : Tst c f ρ e q := fun mo val fp s E S =>
  wpAny_isTrue_value (h.bind S fun v s' as x S' r _ => by cases r; exact wpAny_truthy_bool ⟨rfl, x⟩) (he _ _)
inductive TstL (c : Cx) (f : Fm) (ρ : Rho) (op : BoolOp) : List Expr → Bool → Prop
  | last {x : Expr} {q : Bool} : Tst c f ρ x q → TstL c f ρ op [x] q
  | stop {x : Expr} {q : Bool} {rest : List Expr} : Tst c f ρ x q → q = (match op with | .And => false | .Or => true) → TstL c f ρ op (x :: rest) q
  | go {x : Expr} {q t : Bool} {rest : List Expr} : Tst c f ρ x q → q = (match op with | .And => true | .Or => false) → TstL c f ρ op rest t → TstL c f ρ op (x :: rest) t
theorem tst_allTrue {op : BoolOp} {es : List Expr} {q : Bool} (h : TstL c f ρ op es q) : ∀ {mo val fp s E}, St c f ρ mo val fp s → wpAny c.M f.A (allTrue op es f.env) (fun t s' => t = q ∧ Ext c s s') E s := by
  induction h with
  | last h =>
    intro mo val fp s E S
    cases op
    · refine wpAny_allTrue_And_cons (h.bind S fun s' x S' => ?_)
      split
      · rename_i e; exact wpAny_allTrue_And_nil ⟨e.symm, x⟩
      · rename_i e; exact ⟨by simpa using e, x⟩
    · refine wpAny_allTrue_Or_cons (h.bind S fun s' x S' => ?_)
      split
      · rename_i e; exact ⟨e.symm, x⟩
      · rename_i e; exact wpAny_allTrue_Or_nil ⟨by simpa using e, x⟩
  | stop h e =>
    intro mo val fp s E S
    cases op
    · refine wpAny_allTrue_And_cons (h.bind S fun s' x S' => ?_)
      subst e; exact ⟨rfl, x⟩
    · refine wpAny_allTrue_Or_cons (h.bind S fun s' x S' => ?_)
      subst e; exact ⟨rfl, x⟩
  | go h e _ ih =>
    intro mo val fp s E S
    cases op
    · refine wpAny_allTrue_And_cons (h.bind S fun s' x S' => ?_)
      subst e; exact wpAny_mono (ih S') (fun t s2 ⟨q, x2⟩ => ⟨q, x.trans x2⟩) fun _ _ z => z
    · refine wpAny_allTrue_Or_cons (h.bind S fun s' x S' => ?_)
      subst e; exact wpAny_mono (ih S') (fun t s2 ⟨q, x2⟩ => ⟨q, x.trans x2⟩) fun _ _ z => z
theorem tst_boolop {op : BoolOp} {es : List Expr} {q : Bool} (h : TstL c f ρ op es q) : Tst c f ρ (.BoolOp op es pos) q := fun mo val fp s E S =>
  wpAny_isTrue_BoolOp (tst_allTrue h S)
/-- and, or of two tests: the second is asked only where the first leaves it open -/
theorem tst_and {p q : Bool} (h1 : Tst c f ρ x p) (h2 : p = true → Tst c f ρ y q) : Tst c f ρ (.BoolOp .And [x, y] pos) (p && q) := by
  cases p with
  | false => exact tst_boolop (.stop h1 rfl)
  | true => exact tst_boolop (.go h1 rfl (.last (h2 rfl)))
theorem tst_or {p q : Bool} (h1 : Tst c f ρ x p) (h2 : p = false → Tst c f ρ y q) : Tst c f ρ (.BoolOp .Or [x, y] pos) (p || q) := by
  cases p with
  | true => exact tst_boolop (.stop h1 rfl)
  | false => exact tst_boolop (.go h1 rfl (.last (h2 rfl)))
/-! and, or as values, of bools -/
theorem ev_and {p q : Bool} (h1 : Ev c f ρ x (.bool p) k1) (h2 : p = true → Ev c f ρ y (.bool q) k2) : Ev c f ρ (.BoolOp .And [x, y] pos) (.bool (p && q)) .fr := by
  intro mo val fp s E S
  refine wpAny_And2 (h1.bind S fun v1 s1 as1 x1 S1 r1 _ => ?_)
  cases r1
  refine wpAny_truthy_bool ?_
  cases p with
  | false => exact ⟨x1, [], .bool _, frNil⟩
  | true => exact (h2 rfl).bind S1 fun v2 s2 as2 x2 S2 r2 _ => by cases r2; exact ⟨x1.trans x2, [], .bool _, frNil⟩
theorem ev_or {p q : Bool} (h1 : Ev c f ρ x (.bool p) k1) (h2 : p = false → Ev c f ρ y (.bool q) k2) : Ev c f ρ (.BoolOp .Or [x, y] pos) (.bool (p || q)) .fr := by
  intro mo val fp s E S
  refine wpAny_Or2 (h1.bind S fun v1 s1 as1 x1 S1 r1 _ => ?_)
  cases r1
  refine wpAny_truthy_bool ?_
  cases p with
  | true => exact ⟨x1, [], .bool _, frNil⟩
  | false => exact (h2 rfl).bind S1 fun v2 s2 as2 x2 S2 r2 _ => by cases r2; exact ⟨x1.trans x2, [], .bool _, frNil⟩
theorem ev_ifexp {t : Expr} {q : Bool} (ht : Tst c f ρ t q) (h1 : q = true → Ev c f ρ x d k) (h2 : q = false → Ev c f ρ y d k) : Ev c f ρ (.IfExp t x y pos) d k := by
  intro mo val fp s E S
  refine wpAny_IfExp (ht.bind S fun s1 x1 S1 => ?_)
  have go : ∀ {z}, Ev c f ρ z d k → wpAny c.M f.A (eval z f.env) (fun v s' => Ext c s s' ∧ ∃ as, Reads s'.heap v d as ∧ KOk f mo fp s.heap s'.heap k as) E s1 := fun h =>
    h.bind S1 fun v s2 as x2 S2 r ko => ⟨x1.trans x2, as, r, by
      refine ⟨ko.1, ?_⟩
      cases k with
      | w => trivial
      | sh => exact ko.2
      | lo => exact ko.2
      | fr => exact ⟨ko.2.1, fun a ha => x1.up.none (ko.2.2.1 a ha), ko.2.2.2⟩
      | us is => exact ko.2⟩
  cases q with
  | true => exact go (h1 rfl)
  | false => exact go (h2 rfl)
end
end Mine

namespace Mine
open PySem PySem.Spec PySem.Calls PyProof.Rows

/-! items -/
theorem readsAll_item {h : Heap} : ∀ {vs : List Value} {ds : List PyData} {as : List Addr}, ReadsAll h vs ds as → ∀ {i : Nat} {d : PyData}, ds[i]? = some d → ∃ v bs, vs[i]? = some v ∧ Reads h v d bs ∧ bs.Sublist as
  | _, _, _, .nil, i, d, e => by simp at e
  | _, _, _, .cons (as := as) (bs := bs) r rs, 0, d, e => by
    simp at e; subst e
    exact ⟨_, as, rfl, r, List.sublist_append_left _ _⟩
  | _, _, _, .cons (as := as) (bs := bs) r rs, i + 1, d, e => by
    obtain ⟨v, cs, h1, h2, h3⟩ := readsAll_item rs (i := i) (d := d) (by simpa using e)
    exact ⟨v, cs, by simpa using h1, h2, h3.trans (List.sublist_append_right _ _)⟩
theorem readsAll_length {h : Heap} : ∀ {vs : List Value} {ds : List PyData} {as : List Addr}, ReadsAll h vs ds as → vs.length = ds.length
  | _, _, _, .nil => rfl
  | _, _, _, .cons _ r => by simp [readsAll_length r]

def EK.sub : EK → EK
  | .us _ => .w
  | k => k
theorem KOk.sub {f : Fm} {mo : Addr → Prop} {fp : Nat → List Addr} {h h' : Heap} {k : EK} {as bs : List Addr} (x : KOk f mo fp h h' k as) (hs : bs.Sublist as) : KOk f mo fp h h' k.sub bs := by
  refine ⟨fun h => x.1 (hs.subset h), ?_⟩
  replace x := x.2
  cases k with
  | w => trivial
  | sh => exact fun a ha => x a (hs.subset ha)
  | lo => exact fun a ha => x a (hs.subset ha)
  | fr => exact ⟨x.1.sublist hs, fun a ha => x.2.1 a (hs.subset ha), fun a ha => x.2.2 a (hs.subset ha)⟩
  | us is => trivial
theorem KOk.later {c : Cx} {f : Fm} {mo : Addr → Prop} {fp : Nat → List Addr} {s' s'' : Shared} {h : Heap} {k : EK} {as : List Addr} (W : Wf c s') (x : Ext c s' s'') (ko : KOk f mo fp h s'.heap k as) : KOk f mo fp h s''.heap k as := by
  refine ⟨ko.1, ?_⟩
  replace ko := ko.2
  cases k with
  | w => trivial
  | sh => exact ko
  | lo => exact ko
  | fr => exact ⟨ko.1, ko.2.1, fun a ha => (ko.2.2 a ha).ext W x⟩
  | us is => exact ko

section
variable {c : Cx} {f : Fm} {ρ : Rho} {mo : Addr → Prop} {val : Nat → Value} {fp : Nat → List Addr} {s : Shared} {E : Value → Shared → Prop}
  {e l r x y : Expr} {d d1 d2 : PyData} {k k1 k2 : EK} {pos : Pos} {a b i : Int} {xs : List PyData} {es : List Expr} {ds : List PyData}

theorem ev_item (h1 : Ev c f ρ l (.list xs) k1) (h2 : Ev c f ρ r (.int i) k2) (h0 : 0 ≤ i) (hfit : i < 2 ^ 63) (hx : xs[i.toNat]? = some d)
    (hs : ∀ o i, subscripted r false o i = operate [o, i] (getItem o i) := by intros; rfl) : Ev c f ρ (.Subscript l r pos) d k1.sub := by
  intro mo val fp s E S
  refine Subscript_ (h1.bind S fun v1 s1 as1 x1 S1 r1 k1 => h2.bind S1 fun v2 s2 as2 x2 S2 r2 _ => ?_)
  have r1' := x2.reads S1.wf r1
  cases r2
  cases r1' with
  | list g1 g2 g3 g4 =>
    obtain ⟨v, bs, q1, q2, q3⟩ := readsAll_item g4 hx
    refine tail_any (T := "list") ⟨_, g1, g2⟩ slot_list_getitem.lookup ?_ (hs _ _)
    exact wpAny_getItem_list ⟨_, g1, g2, _, g3⟩ h0 hfit (by simpa using q1) ⟨x1.trans x2, bs, q2, KOk.sub (KOk.later S1.wf x2 (by assumption)) (q3.trans (List.sublist_cons_self ..))⟩
theorem ev_tupitem (h1 : Ev c f ρ l (.tuple xs) k1) (h2 : Ev c f ρ r (.int i) k2) (h0 : 0 ≤ i) (hfit : i < 2 ^ 63) (hx : xs[i.toNat]? = some d)
    (hs : ∀ o i, subscripted r false o i = operate [o, i] (getItem o i) := by intros; rfl) : Ev c f ρ (.Subscript l r pos) d k1.sub := by
  intro mo val fp s E S
  refine Subscript_ (h1.bind S fun v1 s1 as1 x1 S1 r1 k1 => h2.bind S1 fun v2 s2 as2 x2 S2 r2 _ => ?_)
  have r1' := x2.reads S1.wf r1
  cases r2
  cases r1' with
  | tuple g1 g2 g3 g4 =>
    obtain ⟨v, bs, q1, q2, q3⟩ := readsAll_item g4 hx
    refine tail_any (T := "tuple") ⟨_, g1, g2⟩ slot_tuple_getitem.lookup ?_ (hs _ _)
    have hlt : i.toNat < xs.length := by
      rcases Nat.lt_or_ge i.toNat xs.length with q | q
      · exact q
      · rw [List.getElem?_eq_none q] at hx; cases hx
    have hl := readsAll_length g4
    rename_i o vs n
    have hsz : vs.size = xs.length := by simpa using hl
    exact PyProof.Rows.getItem_tuple (j := i.toNat) ⟨_, g1, g2, _, g3⟩ (by omega) hfit
      (by unfold seqIndex?; have e1 : ¬ (i < 0) := by omega
          have e2 : i < (vs.size : Int) := by omega
          simp [e1, h0, e2]) (by simpa using q1) ⟨x1.trans x2, bs, q2, KOk.sub (KOk.later S1.wf x2 (by assumption)) q3⟩

/-! lists of expressions -/
def EvL (c : Cx) (f : Fm) (ρ : Rho) (es : List Expr) (ds : List PyData) (k : EK) : Prop :=
  ∀ pos mo val fp s E, St c f ρ mo val fp s → wpAny c.M f.A (spliced (backTo pos (starEach es f.env))) (fun vs s' => Ext c s s' ∧ ∃ as, ReadsAll s'.heap vs ds as ∧ KOk f mo fp s.heap s'.heap k as) E s

theorem evl_nil (hk : ∀ is, k = .us is → is = [] := by nofun) : EvL c f ρ [] [] k := fun pos mo val fp s E S =>
  args_nil ⟨Ext.refl S.wf, [], .nil, KOk.nil hk⟩
theorem evl_nilU : EvL c f ρ [] [] (.us []) := evl_nil fun is e => by cases e; rfl
theorem evl_cons_any {k : EK} (h1 : Ev c f ρ e d k1) (h2 : EvL c f ρ es ds k2)
    (hk : ∀ mo fp (s s1 s2 : Shared) as bs v, Ext c s s1 → Reads s1.heap v d as → KOk0 f mo fp s.heap s2.heap k1 as → KOk0 f mo fp s1.heap s2.heap k2 bs → KOk0 f mo fp s.heap s2.heap k (as ++ bs))
    (he : ∀ env rest, starEach (e :: rest) env = (false, eval e env) :: starEach rest env := by intros; rfl) : EvL c f ρ (e :: es) (d :: ds) k := fun pos mo val fp s E S =>
  args_cons (h1.bind S fun v1 s1 as1 x1 S1 r1 ko1 => wpAny_mono (h2 pos mo val fp s1 E S1) (fun vs s2 ⟨x2, bs, r2, ko2⟩ =>
    ⟨x1.trans x2, as1 ++ bs, .cons (x2.reads S1.wf r1) r2, fun h => (List.mem_append.mp h).elim ko1.1 ko2.1, hk mo fp s s1 s2 as1 bs v1 x1 r1 (KOk.later S1.wf x2 ko1).2 ko2.2⟩) fun _ _ z => z) (he _ _)
theorem evl_w (h1 : Ev c f ρ e d k1) (h2 : EvL c f ρ es ds k2) (he : ∀ env rest, starEach (e :: rest) env = (false, eval e env) :: starEach rest env := by intros; rfl) : EvL c f ρ (e :: es) (d :: ds) .w :=
  evl_cons_any h1 h2 (fun _ _ _ _ _ _ _ _ _ _ _ _ => trivial) he
theorem evl_fr (h1 : Ev c f ρ e d .fr) (h2 : EvL c f ρ es ds .fr) (he : ∀ env rest, starEach (e :: rest) env = (false, eval e env) :: starEach rest env := by intros; rfl) : EvL c f ρ (e :: es) (d :: ds) .fr :=
  evl_cons_any h1 h2 (fun mo fp s s1 s2 as bs v x r a b => ⟨List.nodup_append.mpr ⟨a.1, b.1, fun p hp q hq e => by
    subst e
    obtain ⟨o, ho, _⟩ := reads_objs r p hp
    rw [b.2.1 p hq] at ho; cases ho⟩, fun p hp => (List.mem_append.mp hp).elim (a.2.1 p) fun hq => x.up.none (b.2.1 p hq), fun p hp => (List.mem_append.mp hp).elim (a.2.2 p) (b.2.2 p)⟩) he
theorem evl_us {is js : List Nat} (h1 : Ev c f ρ e d (.us is)) (h2 : EvL c f ρ es ds (.us js)) (he : ∀ env rest, starEach (e :: rest) env = (false, eval e env) :: starEach rest env := by intros; rfl) : EvL c f ρ (e :: es) (d :: ds) (.us (is ++ js)) :=
  evl_cons_any h1 h2 (fun mo fp s s1 s2 as bs v x r (a : as = _) (b : bs = _) => by show as ++ bs = _; rw [a, b, List.flatMap_append]) he

theorem ev_tuple {n : Nat} (h : EvL c f ρ es ds k) (hsz : ds.length ≤ sizeLine := by decide) : Ev c f ρ (.Tuple es n pos) (.tuple ds) k := by
  intro mo val fp s E S
  refine Tuple_ (wpAny_mono (h pos mo val fp s E S) (fun vs s1 ⟨x1, as, r1, ko⟩ => ?_) fun _ _ z => z)
  refine wpAny_newTuple ?_ (by rw [readsAll_length r1]; exact hsz)
  have x2 : Ext c s1 { s1 with heap := s1.heap.push { cls := .type "tuple", data := .seq vs.toArray } } := Ext.push x1.wf _ _
  exact ⟨x1.trans x2, as, .tuple (Heap.get?_push_size _ rfl) rfl rfl (x2.readsAll x1.wf (by simpa using r1)), ko.later x1.wf x2⟩
theorem get_size_none (h : Heap) : h.get? h.objs.size = none := by
  cases e : h.get? h.objs.size with
  | none => rfl
  | some o => exact absurd (Heap.lt_size e) (Nat.lt_irrefl _)
theorem KOk.cons (S : St c f ρ mo val fp s) {s1 : Shared} {as : List Addr} {D : Addr} (x : Ext c s s1) (hD : s1.heap.get? D = none) (hin : ∀ a ∈ as, ∃ o, s1.heap.get? a = some o) {h' : Heap} (hP : Pl h' D) (ko : KOk f mo fp s.heap h' k as) : KOk f mo fp s.heap h' k.sub (D :: as) := by
  have hDs := x.up.none hD
  have h1 : ¬ mo D := fun m => by obtain ⟨o, q, _⟩ := S.moIn D m; rw [hDs] at q; cases q
  refine ⟨fun h => (List.mem_cons.mp h).elim (fun e => by obtain ⟨m, o, _, _, q, _⟩ := S.ns; rw [e, hDs] at q; cases q) ko.1, ?_⟩
  replace ko := ko.2
  cases k with
  | w => trivial
  | sh => exact fun a ha => (List.mem_cons.mp ha).elim (fun e => e ▸ h1) (ko a)
  | lo => exact fun a ha => (List.mem_cons.mp ha).elim (fun e => e ▸ ⟨h1, S.keep.none hDs⟩) (ko a)
  | fr => exact ⟨List.nodup_cons.mpr ⟨fun hm => (by obtain ⟨o, q⟩ := hin D hm; rw [hD] at q; cases q), ko.1⟩, fun a ha => (List.mem_cons.mp ha).elim (fun e => e ▸ hDs) (ko.2.1 a), fun a ha => (List.mem_cons.mp ha).elim (fun e => e ▸ hP) (ko.2.2 a)⟩
  | us is => trivial
theorem ev_list (h : EvL c f ρ es ds k) (hsz : ds.length ≤ sizeLine := by decide) : Ev c f ρ (.List es pos) (.list ds) k.sub := by
  intro mo val fp s E S
  refine List_ (wpAny_mono (h pos mo val fp s E S) (fun vs s1 ⟨x1, as, r1, ko⟩ => ?_) fun _ _ z => z)
  refine wpAny_newList ?_ (by rw [readsAll_length r1]; exact hsz)
  have x2 : Ext c s1 { s1 with heap := s1.heap.push { cls := .type "list", data := .seq vs.toArray } } := Ext.push x1.wf _ _
  refine ⟨x1.trans x2, s1.heap.objs.size :: as, .list (Heap.get?_push_size _ rfl) rfl rfl (x2.readsAll x1.wf (by simpa using r1)), ?_⟩
  exact KOk.cons S x1 (get_size_none _) (fun a ha => let ⟨o, q, _⟩ := readsAll_objs r1 a ha; ⟨o, q⟩) ⟨_, Heap.get?_push_size _ rfl, .inl ⟨rfl, _, _, rfl⟩, rfl, rfl⟩ (ko.later x1.wf x2)

/-! the context's names -/
structure CxOk (c : Cx) : Prop where
  g : c.hB.Ns mainGlobals c.mg
  gX : ¬ c.X mainGlobals
  b : c.hB.Ns builtinsNs c.mb
  bX : ¬ c.X builtinsNs
  nolimit : c.hB.NoLimit
  sX : ¬ c.X cStatics
  nodigits : ∃ mc, c.hB.Ns cStatics mc ∧ mc "sys.int_max_str_digits" = none
  builtins : ∀ x : Str, x ≠ "__name__" → c.mb x = bootBuiltins x

theorem Ns.base {c : Cx} {s : Shared} {a : Addr} {m : Str → Option Value} (W : Wf c s) (n : c.hB.Ns a m) (hX : ¬ c.X a) : s.heap.Ns a m := by
  obtain ⟨o, es, ep, ho, r⟩ := n
  exact ⟨o, es, ep, W.base _ _ hX ho, r⟩
theorem NoLimit.base {c : Cx} {s : Shared} (W : Wf c s) (C : CxOk c) : s.heap.NoLimit := by
  obtain ⟨mc, n, e⟩ := C.nolimit
  exact ⟨mc, Ns.base W n C.sX, e⟩

structure FnD where
  name : Str
  params : Arguments
  body : List Stmt
  scope : Scope

structure Has (c : Cx) (d : FnD) (fa : Addr) (o : Obj) (pm code doc : Value) : Prop where
  at_ : c.mg d.name = some (.ref fa)
  obj : c.hB.get? fa = some o
  nX : ¬ c.X fa
  data : o.data = .func (docDef d.name d.params d.body d.scope pm code doc)
  crec : c.hB.CodeRec code d.name
  cX : ∀ a, code = .ref a → ¬ c.X a
theorem Has.codeRec {d : FnD} {fa : Addr} {o : Obj} {pm code doc : Value} (H : Has c d fa o pm code doc) (W : Wf c s) : s.heap.CodeRec code d.name := by
  obtain ⟨a, ob, vs, t, e, g, r⟩ := H.crec
  exact ⟨a, ob, vs, t, e, W.base _ _ (H.cX a e) g, r⟩

/-- what a call of a def gives: a datum of new objects -/
def Fn (c : Cx) (lv : Nat) (d : FnD) (args : List PyData) (res : PyData) (u : Bool) : Prop :=
  ∀ A s vals ass E fa o pm code doc, Has c d fa o pm code doc → Room lv A → Wf c s → ReadsAll s.heap vals args ass →
    wpAny c.M A (call (.ref fa) vals) (fun v s' => Ext c s s' ∧ ∃ as, Reads s'.heap v res as ∧ (∀ a ∈ as, s.heap.get? a = none) ∧ (u = true → as.Nodup ∧ ∀ a ∈ as, Pl s'.heap a)) E s

theorem Room.mono {n m : Nat} {A : Around} (R : Room n A) (h : m ≤ n) : Room m A := ⟨R.hand, by have := R.depth; omega, by have := R.units; omega, R.guards⟩

/-- the function stands in the module -/
def Stands (c : Cx) (d : FnD) : Prop := ∃ fa o pm code doc, Has c d fa o pm code doc

theorem call_core {d : FnD} {args : List PyData} {res : PyData} {u : Bool} {lv : Nat} {np : Pos} {e : Expr} (C : CxOk c) (H : Stands c d) (hx : f.env.kindOf d.name = some .globalImplicit)
    (ha : EvL c f ρ (e :: es) args k) (hf : Fn c lv d args res u) (hlv : lv ≤ f.lv)
    (hd : (d.name == ("__debug__" : Str)) = false) (he : ∀ env rest, starEach (e :: rest) env = (false, eval e env) :: starEach rest env)
    (S : St c f ρ mo val fp s) :
    wpAny c.M f.A (eval (.Call (.Name d.name np) (e :: es) [] pos) f.env) (fun v s' => Ext c s s' ∧ ∃ as, Reads s'.heap v res as ∧ (∀ a ∈ as, s.heap.get? a = none) ∧ (u = true → as.Nodup ∧ ∀ a ∈ as, Pl s'.heap a)) E s := by
  obtain ⟨fa, o, pm, code, doc, H⟩ := H
  refine Call_ (Name_function_global S.ok.kind hx ?_ hd)
  refine loadGlobal_global (mg := c.mg) (by rw [S.ok.glob]; exact Ns.base S.wf C.g C.gX) H.at_ ?_
  refine callWith_def (o := o) H.data ?_ (he _ _)
  refine wpAny_mono (ha pos mo val fp s E S) (fun vs s1 ⟨x1, as, r1, _⟩ => ⟨x1.wf.base _ _ H.nX H.obj, ?_⟩) fun _ _ z => z
  refine wpAny_mono (hf f.A s1 vs as E fa o pm code doc H (S.ok.room.mono hlv) x1.wf r1) (fun v s2 ⟨x2, bs, r2, n2, u2⟩ => ?_) fun _ _ z => z
  exact ⟨x1.trans x2, bs, r2, fun a h => x1.up.none (n2 a h), u2⟩

theorem ev_call {d : FnD} {args : List PyData} {res : PyData} {lv : Nat} {np : Pos} {e : Expr} (C : CxOk c) (H : Stands c d) (hx : f.env.kindOf d.name = some .globalImplicit)
    (ha : EvL c f ρ (e :: es) args k) (hf : Fn c lv d args res true) (hlv : lv ≤ f.lv)
    (hd : (d.name == ("__debug__" : Str)) = false := by decide +kernel) (he : ∀ env rest, starEach (e :: rest) env = (false, eval e env) :: starEach rest env := by intros; rfl) :
    Ev c f ρ (.Call (.Name d.name np) (e :: es) [] pos) res .fr := fun mo val fp s E S =>
  wpAny_mono (call_core C H hx ha hf hlv hd he S) (fun v s' ⟨x, as, r, n, u⟩ => ⟨x, as, r, frOk S (u rfl).1 n (u rfl).2⟩) fun _ _ z => z
end
end Mine

namespace Mine
open PySem PySem.Spec PySem.Calls PyProof.Rows

def Pv (f : Fm) (a : Addr) : Prop := a = f.env.locals ∨ ∃ x, f.env.cells.lookup x = some a

structure FmS (c : Cx) (f : Fm) : Prop where
  kinds : ∀ (i : Nat) (x : Str), f.xs[i]? = some x → f.env.kindOf x = some .local ∨ (f.env.kindOf x = some .cell ∧ ∃ a, f.env.cells.lookup x = some a)
  nd : f.xs.Nodup
  inj : ∀ x y a, f.env.cells.lookup x = some a → f.env.cells.lookup y = some a → x = y
  pv : ∀ a, Pv f a → f.h₀.get? a = none
  base : Up c.X c.hB f.h₀

structure Step (c : Cx) (f : Fm) (mo : Addr → Prop) (s : Shared) (mo' : Addr → Prop) (s' : Shared) : Prop where
  kp : ∀ b o, ¬ c.X b → ¬ Pv f b → ¬ mo b → s.heap.get? b = some o → s'.heap.get? b = some o
  th : ∀ b o, s.heap.get? b = some o → ∃ o', s'.heap.get? b = some o'
  mo : ∀ b, mo' b → mo b ∨ s.heap.get? b = none

theorem Step.refl {c : Cx} {f : Fm} {mo : Addr → Prop} {s : Shared} : Step c f mo s mo s := ⟨fun _ _ _ _ _ e => e, fun _ o e => ⟨o, e⟩, fun _ h => .inl h⟩
theorem Step.ext {c : Cx} {f : Fm} {mo : Addr → Prop} {s s' : Shared} (x : Ext c s s') : Step c f mo s mo s' := ⟨fun b o h _ _ e => x.up.kp b o h e, x.up.th, fun _ h => .inl h⟩
theorem Step.none {c : Cx} {f : Fm} {mo mo' : Addr → Prop} {s s' : Shared} (x : Step c f mo s mo' s') {a : Addr} (e : s'.heap.get? a = none) : s.heap.get? a = none := by
  cases q : s.heap.get? a with
  | none => rfl
  | some o => obtain ⟨o', e'⟩ := x.th a o q; rw [e] at e'; cases e'
theorem Step.trans {c : Cx} {f : Fm} {mo mo' mo'' : Addr → Prop} {s s' s'' : Shared} (a : Step c f mo s mo' s') (b : Step c f mo' s' mo'' s'') : Step c f mo s mo'' s'' where
  kp := fun x o h1 h2 h3 e => b.kp x o h1 h2 (fun h => (a.mo x h).elim h3 fun q => by rw [e] at q; cases q) (a.kp x o h1 h2 h3 e)
  th := fun x o e => let ⟨_, e'⟩ := a.th x o e; b.th x _ e'
  mo := fun x h => (b.mo x h).elim (a.mo x) fun q => .inr (a.none q)
def upd {α : Type} (g : Nat → α) (i : Nat) (v : α) : Nat → α := fun j => if j = i then v else g j
theorem upd_self {α : Type} (g : Nat → α) (i : Nat) (v : α) : upd g i v i = v := by simp [upd]
theorem upd_ne {α : Type} (g : Nat → α) (i : Nat) (v : α) {j : Nat} (h : j ≠ i) : upd g i v j = g j := by simp [upd, h]

def SlotOk (f : Fm) (ρ : Rho) (i : Nat) (mo : Addr → Prop) (fp : Nat → List Addr) (h : Heap) (k : K) (as : List Addr) : Prop :=
  match k with
  | .sh => ∀ a ∈ as, ¬ mo a
  | .lo => ∀ a ∈ as, ¬ mo a ∧ f.h₀.get? a = none
  | .ow => as.Nodup ∧ (∀ a ∈ as, ¬ mo a ∧ f.h₀.get? a = none) ∧ (∀ j sl, j ≠ i → ρ[j]? = some (some sl) → ∀ a ∈ fp j, a ∉ as) ∧ ∀ a ∈ as, Pl h a
def moWith (mo : Addr → Prop) (k : K) (as : List Addr) : Addr → Prop := fun a => mo a ∨ (k = .ow ∧ a ∈ as)

section
variable {c : Cx} {f : Fm} {ρ : Rho} {mo : Addr → Prop} {val : Nat → Value} {fp : Nat → List Addr} {s : Shared} {E : Value → Shared → Prop}

theorem pv_obj (S : St c f ρ mo val fp s) {p : Addr} (hp : Pv f p) : ∃ o, s.heap.get? p = some o ∧ ((∃ es n, o.data = .dict es n) ∨ ∃ v, o.data = .cell v) := by
  rcases hp with rfl | ⟨x, hx⟩
  · obtain ⟨m, o, es, ep, ho, hd, _⟩ := S.ns; exact ⟨o, ho, .inl ⟨es, ep, hd⟩⟩
  · obtain ⟨v, o, ho, hd⟩ := S.cells x p hx; exact ⟨o, ho, .inr ⟨v, hd⟩⟩
theorem pv_notX (S : St c f ρ mo val fp s) {p : Addr} (hp : Pv f p) : ¬ c.X p := fun hx => by
  obtain ⟨o, ho, h⟩ := pv_obj S hp
  obtain ⟨ps, q⟩ := S.wf.tab p hx
  rw [q] at ho; cases ho
  rcases h with ⟨_, _, h⟩ | ⟨_, h⟩ <;> cases h

/-- a change at a private place keeps what is read -/
theorem reads_pv (S : St c f ρ mo val fp s) {p : Addr} {h' : Heap} {v : Value} {d : PyData} {as : List Addr} (hp : Pv f p) (hs : Heap.SameBut p s.heap h') (hL : f.env.locals ∉ as) (r : Reads s.heap v d as) : Reads h' v d as := by
  obtain ⟨op, hop, hdp⟩ := pv_obj S hp
  refine reads_upon r (fun a ha o e _ => (hs.2 a fun q => ?_).trans e) (fun a o e ht hd => (hs.2 a fun q => ?_).trans e)
  · subst q
    rcases hp with rfl | ⟨x, hx⟩
    · exact hL ha
    · obtain ⟨v, o2, ho2, hd2⟩ := S.cells x a hx
      obtain ⟨o3, ho3, hl⟩ := reads_objs r a ha
      rw [ho2] at ho3; cases ho3
      rcases hl with ⟨_, _, _, h⟩ | ⟨_, _, _, h⟩ <;> rw [hd2] at h <;> cases h
  · subst q
    rw [hop] at e; cases e
    obtain ⟨vs, n, hd⟩ := hd
    rcases hdp with ⟨_, _, h⟩ | ⟨_, h⟩ <;> rw [hd] at h <;> cases h

theorem St.store {i : Nat} {x : Str} {v : Value} {sl : Slot} {as : List Addr} {p : Addr} {h' : Heap} {tk : Nat} (FS : FmS c f) (S : St c f ρ mo val fp s) (hx : f.xs[i]? = some x) (hi : i < ρ.length)
    (hp : Pv f p) (hs : Heap.SameBut p s.heap h') (hns : ∃ m, h'.Ns f.env.locals m) (hcells : ∀ y a, f.env.cells.lookup y = some a → ∃ v, h'.IsCell a v)
    (hload : Loads f.env h' x v) (hother : ∀ y u, y ≠ x → Loads f.env s.heap y u → Loads f.env h' y u)
    (r : Reads s.heap v sl.d as) (hL : f.env.locals ∉ as) (ok : SlotOk f ρ i mo fp s.heap sl.k as) :
    St c f (ρ.set i (some sl)) (moWith mo sl.k as) (upd val i v) (upd fp i as) { s with heap := h', toks := tk } ∧ (∀ b o, ¬ Pv f b → s.heap.get? b = some o → h'.get? b = some o) ∧ (∀ b o, s.heap.get? b = some o → ∃ o', h'.get? b = some o') := by
  have hB : c.hB.get? p = none := FS.base.none (FS.pv p hp)
  have hX := pv_notX S hp
  have slot : ∀ j t, (ρ.set i (some sl))[j]? = some (some t) → (j = i ∧ t = sl) ∨ (j ≠ i ∧ ρ[j]? = some (some t)) := fun j t e => by
    rw [List.getElem?_set] at e
    by_cases q : i = j
    · rw [if_pos q, if_pos hi] at e; cases e; exact .inl ⟨q.symm, rfl⟩
    · rw [if_neg q] at e; exact .inr ⟨fun h => q h.symm, e⟩
  have asmo : ∀ a ∈ as, ¬ mo a := fun a ha => by
    revert ok; unfold SlotOk
    cases sl.k with
    | sh => exact fun q => q a ha
    | lo => exact fun q => (q a ha).1
    | ow => exact fun q => (q.2.1 a ha).1
  have keepB : ∀ b o, b ≠ p → s.heap.get? b = some o → h'.get? b = some o := fun b o hb e => (hs.2 b hb).trans e
  obtain ⟨op, hop, hdp⟩ := pv_obj S hp
  have th : ∀ b o, s.heap.get? b = some o → ∃ o', h'.get? b = some o' := fun b o e => by
    by_cases q : b = p
    · subst q
      rcases hp with rfl | ⟨y, hy⟩
      · obtain ⟨m, o', _, _, ho', _⟩ := hns; exact ⟨o', ho'⟩
      · obtain ⟨_, o', ho', _⟩ := hcells y b hy; exact ⟨o', ho'⟩
    · exact ⟨o, keepB b o q e⟩
  have ldNotPv : ∀ a o, s.heap.get? a = some o → ListOrDict o → a ≠ f.env.locals → a ≠ p := fun a o e hl hn q => by
    subst q
    rcases hp with rfl | ⟨y, hy⟩
    · exact hn rfl
    · obtain ⟨v, o2, ho2, hd2⟩ := S.cells y a hy
      rw [ho2] at e; cases e
      rcases hl with ⟨_, _, _, h⟩ | ⟨_, _, _, h⟩ <;> rw [hd2] at h <;> cases h
  refine ⟨?_, fun b o h2 e => keepB b o (fun q => h2 (q ▸ hp)) e, th⟩
  · refine ⟨S.wf.sameBut hs hB hX, S.ok, ⟨fun b o h e => ?_, fun b o e => ?_⟩, hns, hcells, fun j t e => ?_, fun j t e ho => ?_, fun j t e ho => ?_, fun j t e hl => ?_, fun j j' t t' hne e e' ho ho' => ?_, fun a h => ?_, fun a h => ?_, ?_, fun j t e => ?_⟩
    · exact keepB b o (fun q => by have := FS.pv p hp; rw [← q, e] at this; cases this) (S.keep.kp b o h e)
    · obtain ⟨o', e'⟩ := S.keep.th b o e; exact th b o' e'
    · rcases slot j t e with ⟨rfl, rfl⟩ | ⟨hj, e⟩
      · exact ⟨x, hx, by rw [upd_self]; exact hload, by rw [upd_self, upd_self]; exact reads_pv S hp hs hL r⟩
      · obtain ⟨y, h1, h2, h3⟩ := S.var j t e
        have hyx : y ≠ x := fun q => hj (by
          subst q
          have hl1 : j < f.xs.length := (List.getElem?_eq_some_iff.mp h1).1
          exact (List.getElem?_inj hl1 FS.nd).mp (h1.trans hx.symm))
        exact ⟨y, h1, by rw [upd_ne _ _ _ hj]; exact hother y _ hyx h2, by rw [upd_ne _ _ _ hj, upd_ne _ _ _ hj]; exact reads_pv S hp hs (S.fpL j t e) h3⟩
    · rcases slot j t e with ⟨rfl, rfl⟩ | ⟨hj, e⟩
      · rw [upd_self]; simp only [SlotOk, ho] at ok; exact ⟨ok.1, fun a ha => .inr ⟨ho, ha⟩⟩
      · rw [upd_ne _ _ _ hj]; exact ⟨(S.own j t e ho).1, fun a ha => .inl ((S.own j t e ho).2 a ha)⟩
    · rcases slot j t e with ⟨rfl, rfl⟩ | ⟨hj, e⟩
      · rw [upd_self]; exact fun a ha h => h.elim (asmo a ha) fun q => ho q.1
      · rw [upd_ne _ _ _ hj]
        intro a ha h
        rcases h with h | ⟨h, h'⟩
        · exact S.shr j t e ho a ha h
        · simp only [SlotOk, h] at ok; exact ok.2.2.1 j t hj e a ha h'
    · rcases slot j t e with ⟨rfl, rfl⟩ | ⟨hj, e⟩
      · rw [upd_self]; simp only [SlotOk, hl] at ok; exact fun a ha => (ok a ha).2
      · rw [upd_ne _ _ _ hj]; exact S.loc j t e hl
    · rcases slot j t e with ⟨rfl, rfl⟩ | ⟨hj, e1⟩ <;> rcases slot j' t' e' with ⟨rfl, rfl⟩ | ⟨hj', e1'⟩
      · exact absurd rfl hne
      · rw [upd_self, upd_ne _ _ _ hj']
        simp only [SlotOk, ho] at ok
        exact fun a ha h => ok.2.2.1 j' t' hj' e1' a h ha
      · rw [upd_self, upd_ne _ _ _ hj]
        simp only [SlotOk, ho'] at ok
        exact fun a ha h => ok.2.2.1 j t hj e1 a ha h
      · rw [upd_ne _ _ _ hj, upd_ne _ _ _ hj']; exact S.apart j j' t t' hne e1 e1' ho ho'
    · rcases h with h | ⟨h, ha⟩
      · exact S.moNew a h
      · simp only [SlotOk, h] at ok; exact (ok.2.1 a ha).2
    · have : Pl s.heap a := h.elim (S.moPl a) fun q => by
        have ok' := ok
        simp only [SlotOk, q.1] at ok'; exact ok'.2.2.2 a q.2
      obtain ⟨o, ho, hl, hd⟩ := this
      exact ⟨o, keepB a o (ldNotPv a o ho hl (fun q => h.elim (fun h => S.moL (q ▸ h)) fun h => hL (q ▸ h.2))) ho, hl, hd⟩
    · exact fun h => h.elim S.moL fun q => hL q.2
    · rcases slot j t e with ⟨rfl, rfl⟩ | ⟨hj, e⟩
      · rw [upd_self]; exact hL
      · rw [upd_ne _ _ _ hj]; exact S.fpL j t e
end
end Mine

namespace Mine
open PySem PySem.Spec PySem.Calls PyProof.Rows

inductive Fl where
  | next | brk | cont
  | ret (d : PyData) (u : Bool)

def FlOk (f : Fm) (s' : Shared) : Flow → Fl → Prop
  | .next, .next => True
  | .brk, .brk => True
  | .cont, .cont => True
  | .ret v, .ret d u => ∃ as, Reads s'.heap v d as ∧ (∀ a ∈ as, f.h₀.get? a = none) ∧ (u = true → as.Nodup ∧ ∀ a ∈ as, Pl s'.heap a)
  | _, _ => False

def Post (c : Cx) (f : Fm) (mo : Addr → Prop) (s : Shared) (Q : Fl → Rho → Prop) (fl : Flow) (s' : Shared) : Prop :=
  ∃ fl' ρ' mo' val' fp', FlOk f s' fl fl' ∧ St c f ρ' mo' val' fp' s' ∧ Step c f mo s mo' s' ∧ Q fl' ρ'

def Ex1 (c : Cx) (f : Fm) (st : Stmt) (ρ : Rho) (Q : Fl → Rho → Prop) : Prop :=
  ∀ mo val fp s, St c f ρ mo val fp s → wpAny c.M f.A (exec st f.env) (Post c f mo s Q) (fun _ _ => False) s
def Ex (c : Cx) (f : Fm) (body : List Stmt) (ρ : Rho) (Q : Fl → Rho → Prop) : Prop :=
  ∀ mo val fp s, St c f ρ mo val fp s → wpAny c.M f.A (execs body f.env) (Post c f mo s Q) (fun _ _ => False) s

def seqQ (c : Cx) (f : Fm) (rest : List Stmt) (Q : Fl → Rho → Prop) : Fl → Rho → Prop
  | .next, ρ => Ex c f rest ρ Q
  | fl, ρ => Q fl ρ

section
variable {c : Cx} {f : Fm} {ρ ρ' : Rho} {mo mo' : Addr → Prop} {val val' : Nat → Value} {fp fp' : Nat → List Addr} {s s' : Shared} {E : Value → Shared → Prop}
  {st : Stmt} {rest body orelse : List Stmt} {Q : Fl → Rho → Prop} {e : Expr} {d : PyData} {k : EK} {pos : Pos}

theorem Post.mono {Q' : Fl → Rho → Prop} {fl : Flow} (h : Post c f mo s Q fl s') (hq : ∀ fl ρ, Q fl ρ → Q' fl ρ) : Post c f mo s Q' fl s' :=
  let ⟨a, b, m, v, p, h1, h2, h3, h4⟩ := h; ⟨a, b, m, v, p, h1, h2, h3, hq _ _ h4⟩
theorem Post.later {fl : Flow} {s1 : Shared} (x : Step c f mo s mo' s1) (h : Post c f mo' s1 Q fl s') : Post c f mo s Q fl s' :=
  let ⟨a, b, m, v, p, h1, h2, h3, h4⟩ := h; ⟨a, b, m, v, p, h1, h2, x.trans h3, h4⟩

theorem ex_nil (h : Q .next ρ) : Ex c f [] ρ Q := fun mo val fp s S => wpAny_execs_nil ⟨.next, ρ, mo, val, fp, trivial, S, Step.refl, h⟩
theorem ex_cons (h : Ex1 c f st ρ (seqQ c f rest Q)) : Ex c f (st :: rest) ρ Q := fun mo val fp s S => by
  refine wpAny_execs_cons (wpAny_mono (h mo val fp s S) (fun fl s1 hp => ?_) fun _ _ z => z)
  obtain ⟨fl', ρ', mo', val', fp', h1, h2, h3, h4⟩ := hp
  cases fl <;> cases fl' <;> first | exact h1.elim | skip
  · exact wpAny_mono (h4 mo' val' fp' s1 h2) (fun fl s2 hp => hp.later h3) fun _ _ z => z
  · exact ⟨.brk, ρ', mo', val', fp', h1, h2, h3, h4⟩
  · exact ⟨.cont, ρ', mo', val', fp', h1, h2, h3, h4⟩
  · exact ⟨.ret _ _, ρ', mo', val', fp', h1, h2, h3, h4⟩
theorem Ex1.mono {Q' : Fl → Rho → Prop} (h : Ex1 c f st ρ Q) (hq : ∀ fl ρ, Q fl ρ → Q' fl ρ) : Ex1 c f st ρ Q' := fun mo val fp s S => wpAny_mono (h mo val fp s S) (fun _ _ hp => hp.mono hq) fun _ _ z => z

/-! less knowledge -/
def K.le : K → K → Bool
  | .sh, _ => true
  | .lo, .sh => false
  | .lo, _ => true
  | .ow, .ow => true
  | .ow, _ => false
def Sub (ρ ρ' : Rho) : Prop := ∀ (i : Nat) (sl' : Slot), ρ'[i]? = some (some sl') → ∃ sl : Slot, ρ[i]? = some (some sl) ∧ sl.d = sl'.d ∧ (sl'.k.le sl.k = true ∨ flat sl.d = true)
def moOf (ρ : Rho) (fp : Nat → List Addr) : Addr → Prop := fun a => ∃ (i : Nat) (sl : Slot), ρ[i]? = some (some sl) ∧ sl.k = .ow ∧ a ∈ fp i

/-! a store into a variable -/
theorem store_step {x : Str} {i : Nat} {v : Value} {sl : Slot} {as : List Addr} {Q : Unit → Shared → Prop} (FS : FmS c f) (S : St c f ρ mo val fp s) (hx : f.xs[i]? = some x) (hi : i < ρ.length)
    (r : Reads s.heap v sl.d as) (hL : f.env.locals ∉ as) (ok : SlotOk f ρ i mo fp s.heap sl.k as)
    (hQ : ∀ s', St c f (ρ.set i (some sl)) (moWith mo sl.k as) (upd val i v) (upd fp i as) s' → (∀ b o, ¬ Pv f b → s.heap.get? b = some o → s'.heap.get? b = some o) → (∀ b o, s.heap.get? b = some o → ∃ o', s'.heap.get? b = some o') → Q () s') :
    wpAny c.M f.A (storeName f.env x v) Q E s := by
  rcases FS.kinds i x hx with hl | ⟨hl, a, ha⟩
  · obtain ⟨m, hm⟩ := S.ns
    refine wpAny_storeName_local hl hm (fun h' hn hs => ?_) (by rw [S.ok.kind]; rfl)
    have := S.store (v := v) (sl := sl) (as := as) (p := f.env.locals) (h' := h') (tk := s.toks + 1) FS hx hi (.inl rfl) hs ⟨_, hn⟩ (fun y a e => ?_) (.inl ⟨hl, _, hn, by simp⟩) (fun y u hy ld => ?_) r hL ok
    · exact hQ _ this.1 this.2.1 this.2.2
    · obtain ⟨v0, o, ho, hd⟩ := S.cells y a e
      refine ⟨v0, o, (hs.2 a fun q => ?_).trans ho, hd⟩
      subst q
      obtain ⟨o2, _, _, ho2, hd2, _⟩ := hm
      rw [ho] at ho2; cases ho2; rw [hd] at hd2; cases hd2
    · rcases ld with ⟨h1, m1, h2, h3⟩ | ⟨h1, a, h2, h3⟩
      · refine .inl ⟨h1, _, hn, ?_⟩
        have e1 : m1 y = m y := by
          obtain ⟨o1, es1, _, g1, g2, _, g3⟩ := h2
          obtain ⟨o2, es2, _, g4, g5, _, g6⟩ := hm
          rw [g1] at g4; cases g4
          rw [g2] at g5; cases g5
          rw [← g3, ← g6]
        simp only [hy, if_false, ← e1, h3]
      · obtain ⟨o, ho, hd⟩ := h3
        refine .inr ⟨h1, a, h2, o, (hs.2 a fun q => ?_).trans ho, hd⟩
        subst q
        obtain ⟨o2, _, _, ho2, hd2, _⟩ := hm
        rw [ho] at ho2; cases ho2; rw [hd] at hd2; cases hd2
  · obtain ⟨v0, hv0⟩ := S.cells x a ha
    refine wpAny_storeName_cell S.ok.kind hl ha hv0 fun h' hv hs => ?_
    have := S.store (v := v) (sl := sl) (as := as) (p := a) (h' := h') (tk := s.toks) FS hx hi (.inr ⟨x, ha⟩) hs ?_ (fun y b e => ?_) (.inr ⟨.inl hl, a, ha, hv⟩) (fun y u hy ld => ?_) r hL ok
    · exact hQ _ this.1 this.2.1 this.2.2
    · obtain ⟨m, o, es, ep, ho, hd, q⟩ := S.ns
      refine ⟨m, o, es, ep, (hs.2 _ fun q => ?_).trans ho, hd, q⟩
      obtain ⟨o2, ho2, hd2⟩ := hv0
      rw [q, ho2] at ho; cases ho; rw [hd2] at hd; cases hd
    · by_cases q : b = a
      · subst q; exact ⟨_, hv⟩
      · obtain ⟨v1, o, ho, hd⟩ := S.cells y b e
        exact ⟨v1, o, (hs.2 b q).trans ho, hd⟩
    · rcases ld with ⟨h1, m1, ⟨o, es, ep, ho, hd, h2⟩, h3⟩ | ⟨h1, b, h2, h3⟩
      · refine .inl ⟨h1, m1, ⟨o, es, ep, (hs.2 _ fun q => ?_).trans ho, hd, h2⟩, h3⟩
        obtain ⟨o2, ho2, hd2⟩ := hv0
        rw [q, ho2] at ho; cases ho; rw [hd2] at hd; cases hd
      · obtain ⟨o, ho, hd⟩ := h3
        exact .inr ⟨h1, b, h2, o, (hs.2 b fun q => hy (FS.inj y x a (q ▸ h2) ha)).trans ho, hd⟩

/-- what kind of slot a value of a kind may fill -/
inductive Fills : EK → PyData → K → Prop
  | fr {d : PyData} : Fills .fr d .ow
  | lo {d : PyData} : Fills .lo d .lo
  | frlo {d : PyData} : Fills .fr d .lo
  | sh {d : PyData} : Fills .sh d .sh
  | flat {k : EK} {d : PyData} {k' : K} : flat d = true → Fills k d k'

theorem Fills.ok {k : EK} {d : PyData} {sk : K} {v : Value} {as : List Addr} (h : Fills k d sk) (S : St c f ρ mo val fp s) (x : Ext c s s') (r : Reads s'.heap v d as) (ko : KOk f mo fp s.heap s'.heap k as) {i : Nat} :
    SlotOk f ρ i mo fp s'.heap sk as ∧ (sk = .ow → ∀ a ∈ as, s.heap.get? a = none) := by
  have fpIn : ∀ j sl, ρ[j]? = some (some sl) → ∀ a ∈ fp j, ∃ o, s.heap.get? a = some o := fun j sl e a ha => by
    obtain ⟨_, _, _, r⟩ := S.var j sl e
    obtain ⟨o, ho, _⟩ := reads_objs r a ha; exact ⟨o, ho⟩
  cases h with
  | fr => exact ⟨⟨ko.2.1, (KOk.fr_lo S ko).2, fun j sl _ e a ha h => (by obtain ⟨o, ho⟩ := fpIn j sl e a ha; rw [ko.2.2.1 a h] at ho; cases ho), ko.2.2.2⟩, fun _ => ko.2.2.1⟩
  | lo => exact ⟨ko.2, by nofun⟩
  | frlo => exact ⟨(KOk.fr_lo S ko).2, by nofun⟩
  | sh => exact ⟨ko.2, by nofun⟩
  | flat hf =>
    rw [reads_flat r hf]
    refine ⟨?_, by nofun⟩
    cases sk with
    | sh => exact nofun
    | lo => exact nofun
    | ow => exact ⟨.nil, nofun, fun _ _ _ _ _ _ h => (by cases h), nofun⟩

theorem ex_assign {x : Str} {xp : Pos} {i : Nat} {sk : K} (FS : FmS c f) (hx : f.xs[i]? = some x) (hi : i < ρ.length) (h : Ev c f ρ e d k) (hk : Fills k d sk)
    (hQ : Q .next (ρ.set i (some ⟨sk, d⟩))) (hs : ∀ env, swapsWith e (some (.Name x xp)) pos.line env = pure false := by intro _; rfl) : Ex1 c f (.Assign [.Name x xp] e pos) ρ Q := fun mo val fp s S => by
  refine wpAny_Assign_Name (h.bind S fun v s1 as x1 S1 r1 ko => ?_) (hs _)
  obtain ⟨ok, fresh⟩ := hk.ok S x1 r1 ko (i := i)
  refine store_step (sl := ⟨sk, d⟩) FS S1 hx hi r1 ko.1 ok fun s2 S2 hk2 th2 => ?_
  refine ⟨.next, _, _, _, _, trivial, S2, ⟨fun b o h1 h2 h3 e => hk2 b o h2 (x1.up.kp b o h1 e), fun b o e => let ⟨o', e'⟩ := x1.up.th b o e; th2 b o' e', fun b h => ?_⟩, hQ⟩
  rcases h with h | ⟨h, hb⟩
  · exact .inl h
  · exact .inr (fresh h b hb)

theorem ex_return {u : Bool} (h : Ev c f ρ e d k) (hk : (k = .fr) ∨ (k = .lo ∧ u = false) ∨ (flat d = true) ∨ (∃ is : List Nat, k = .us is ∧ is.Nodup ∧ ∀ i ∈ is, ∃ sl : Slot, ρ[i]? = some (some sl) ∧ sl.k = .ow))
    (hQ : Q (.ret d u) ρ) : Ex1 c f (.Return (some e) pos) ρ Q := fun mo val fp s S => by
  refine wpAny_Return_some (h.bind S fun v s1 as x1 S1 r1 ko => ?_)
  refine ⟨.ret d u, ρ, mo, val, fp, ⟨as, r1, ?_⟩, S1, Step.ext x1, hQ⟩
  rcases hk with rfl | ⟨rfl, rfl⟩ | hf | ⟨is, rfl, hn, hi⟩
  · exact ⟨fun a ha => S.keep.none (ko.2.2.1 a ha), fun _ => ⟨ko.2.1, ko.2.2.2⟩⟩
  · exact ⟨fun a ha => (ko.2 a ha).2, by nofun⟩
  · rw [reads_flat r1 hf]; exact ⟨nofun, fun _ => ⟨.nil, nofun⟩⟩
  · have : as = is.flatMap fp := ko.2
    subst this
    refine ⟨fun a ha => ?_, fun _ => ⟨?_, fun a ha => ?_⟩⟩
    · obtain ⟨i, h1, h2⟩ := List.mem_flatMap.mp ha
      obtain ⟨sl, h3, h4⟩ := hi i h1
      exact S.moNew a ((S.own i sl h3 h4).2 a h2)
    · clear h r1 ko
      induction is with
      | nil => exact .nil
      | cons i is ih =>
        rw [List.flatMap_cons]
        obtain ⟨sl, h3, h4⟩ := hi i (List.mem_cons_self ..)
        refine List.nodup_append.mpr ⟨(S.own i sl h3 h4).1, ih (List.nodup_cons.mp hn).2 fun j hj => hi j (List.mem_cons_of_mem _ hj), fun a ha b hb q => ?_⟩
        subst q
        obtain ⟨j, h5, h6⟩ := List.mem_flatMap.mp hb
        obtain ⟨sl', h7, h8⟩ := hi j (List.mem_cons_of_mem _ h5)
        exact S.apart i j sl sl' (fun q => (List.nodup_cons.mp hn).1 (q ▸ h5)) h3 h7 h4 h8 a ha h6
    · obtain ⟨i, h1, h2⟩ := List.mem_flatMap.mp ha
      obtain ⟨sl, h3, h4⟩ := hi i h1
      exact S1.moPl a ((S.own i sl h3 h4).2 a h2)

theorem ex_if {t : Expr} {q : Bool} (ht : Tst c f ρ t q) (h1 : q = true → Ex c f body ρ Q) (h2 : q = false → Ex c f orelse ρ Q) : Ex1 c f (.If t body orelse pos) ρ Q := fun mo val fp s S => by
  refine wpAny_If (ht.bind S fun s1 x1 S1 => ?_)
  cases q with
  | true => exact wpAny_mono (h1 rfl mo val fp s1 S1) (fun _ _ hp => hp.later (Step.ext x1)) fun _ _ z => z
  | false => exact wpAny_mono (h2 rfl mo val fp s1 S1) (fun _ _ hp => hp.later (Step.ext x1)) fun _ _ z => z
end
end Mine

namespace Mine
open PySem PySem.Spec PySem.Calls PyProof.Rows

/-! changes at the objects of fields that the call itself has made (iterators) -/
theorem oldK_but {h₀ h h' : Heap} {wr : List Addr} (K : OldK h₀ h) (hB : ∀ b ∈ wr, h₀.get? b = none) (hk : ∀ b o, b ∉ wr → h.get? b = some o → h'.get? b = some o) : OldK h₀ h' := by
  have ne : ∀ b o, h₀.get? b = some o → b ∉ wr := fun b o e q => by rw [hB b q] at e; cases e
  refine ⟨fun b o e => ?_, fun b o e => let ⟨o', ho'⟩ := K.there b o e; ⟨o', hk b o' (ne b o e) ho'⟩⟩
  rcases K.old b o e with x | ⟨t, hc, vs, more, hv, x⟩ | ⟨rfl, hc, ⟨o', es, n, ho', r⟩, z⟩
  · exact .inl (hk b o (ne b o e) x)
  · exact .inr (.inl ⟨t, hc, vs, more, hv, hk _ _ (ne b o e) x⟩)
  · have q := hk _ _ (ne _ o e) ho'
    exact .inr (.inr ⟨rfl, hc, ⟨o', es, n, q, r⟩, fun key => by rw [OldK.staticOf_congr (q.trans ho'.symm) key]; exact z key⟩)

section
variable {c : Cx} {f : Fm} {ρ : Rho} {mo : Addr → Prop} {val : Nat → Value} {fp : Nat → List Addr} {s : Shared} {E : Value → Shared → Prop}

theorem reads_soft {h h' : Heap} {wr : List Addr} {v : Value} {d : PyData} {as : List Addr} (hk : ∀ b o, b ∉ wr → h.get? b = some o → h'.get? b = some o)
    (hw : ∀ b ∈ wr, ∃ o vs, h.get? b = some o ∧ o.data = .fields vs) (r : Reads h v d as) : Reads h' v d as := by
  refine reads_upon r (fun a ha o e _ => hk a o (fun q => ?_) e) (fun a o e _ hd => hk a o (fun q => ?_) e)
  · obtain ⟨o1, h1, h2⟩ := reads_objs r a ha
    obtain ⟨o2, vs, h3, h4⟩ := hw a q
    rw [h1] at h3; cases h3
    rcases h2 with ⟨_, _, _, h⟩ | ⟨_, _, _, h⟩ <;> rw [h4] at h <;> cases h
  · obtain ⟨o2, vs, h3, h4⟩ := hw a q
    rw [e] at h3; cases h3
    obtain ⟨_, _, h⟩ := hd
    rw [h4] at h; cases h

theorem St.soft {wr : List Addr} {h' : Heap} {tk : Nat} (S : St c f ρ mo val fp s) (hk : ∀ b o, b ∉ wr → s.heap.get? b = some o → h'.get? b = some o)
    (hw : ∀ b ∈ wr, ∃ o vs, s.heap.get? b = some o ∧ o.data = .fields vs) (hn : ∀ b ∈ wr, f.h₀.get? b = none) (hB : ∀ b ∈ wr, c.hB.get? b = none) (hX : ∀ b ∈ wr, ¬ c.X b) :
    St c f ρ mo val fp { s with heap := h', toks := tk } := by
  have nw : ∀ {b : Addr} {o : Obj}, s.heap.get? b = some o → (∀ vs, o.data ≠ .fields vs) → b ∉ wr := fun {b o} e h q => by
    obtain ⟨o2, vs, h3, h4⟩ := hw b q
    rw [e] at h3; cases h3; exact h vs h4
  have nsK : ∀ {a m}, s.heap.Ns a m → h'.Ns a m := fun ⟨o, es, ep, ho, hd, r⟩ => ⟨o, es, ep, hk _ o (nw ho (by rw [hd]; nofun)) ho, hd, r⟩
  have cellK : ∀ {a v}, s.heap.IsCell a v → h'.IsCell a v := fun ⟨o, ho, hd⟩ => ⟨o, hk _ o (nw ho (by rw [hd]; nofun)) ho, hd⟩
  refine ⟨⟨fun b o h e => ?_, fun b h => ?_, oldK_but S.wf.old hB hk, S.wf.gens, S.wf.os⟩, S.ok, ⟨fun b o h e => ?_, fun b o e => ?_⟩, let ⟨m, n⟩ := S.ns; ⟨m, nsK n⟩,
    fun x a e => let ⟨v, n⟩ := S.cells x a e; ⟨v, cellK n⟩, fun i sl e => ?_, S.own, S.shr, S.loc, S.apart, S.moNew, fun a h => ?_, S.moL, S.fpL⟩
  · exact hk b o (fun q => by rw [hB b q] at e; cases e) (S.wf.base b o h e)
  · obtain ⟨ps, q⟩ := S.wf.tab b h; exact ⟨ps, hk _ _ (fun q => hX b q h) q⟩
  · exact hk b o (fun q => by rw [hn b q] at e; cases e) (S.keep.kp b o h e)
  · obtain ⟨o', e'⟩ := S.keep.th b o e; exact ⟨o', hk b o' (fun q => by rw [hn b q] at e; cases e) e'⟩
  · obtain ⟨x, h1, h2, h3⟩ := S.var i sl e
    refine ⟨x, h1, ?_, reads_soft hk hw h3⟩
    rcases h2 with ⟨g1, m, g2, g3⟩ | ⟨g1, a, g2, g3⟩
    · exact .inl ⟨g1, m, nsK g2, g3⟩
    · exact .inr ⟨g1, a, g2, cellK g3⟩
  · obtain ⟨o, ho, hl, hd⟩ := S.moPl a h
    exact ⟨o, hk a o (nw ho (by rcases hl with ⟨_, _, _, q⟩ | ⟨_, _, _, q⟩ <;> rw [q] <;> nofun)) ho, hl, hd⟩

/-- tuples stand under any step -/
theorem Step.tuple {mo' : Addr → Prop} {s' : Shared} (S : St c f ρ mo val fp s) (x : Step c f mo s mo' s') {a : Addr} {o : Obj} (e : s.heap.get? a = some o) (hc : o.cls = .type "tuple") (hd : ∃ vs n, o.data = .seq vs n) : s'.heap.get? a = some o := by
  obtain ⟨vs, n, hd⟩ := hd
  refine x.kp a o (not_tab S.wf e (by rw [hc]; nofun)) (fun hp => ?_) (fun hm => ?_) e
  · obtain ⟨o2, h2, h3⟩ := pv_obj S hp
    rw [e] at h2; cases h2
    rcases h3 with ⟨_, _, h⟩ | ⟨_, h⟩ <;> rw [hd] at h <;> cases h
  · obtain ⟨o2, h2, h3⟩ := S.moIn a hm
    rw [e] at h2; cases h2
    rcases h3 with ⟨h, _⟩ | ⟨h, _⟩ <;> rw [hc] at h <;> simp at h

def EK.safe : EK → Bool
  | .sh | .lo | .fr => true
  | _ => false

structure Itr (c : Cx) (f : Fm) (mo : Addr → Prop) (fp : Nat → List Addr) (s s2 : Shared) (ds : List PyData) (k : EK) (I : Addr) (Fp wr : List Addr) (P : Nat → Value → Prop) (Sx : Nat → Heap → Prop) (as : List Addr) : Prop where
  walks : Walks c.prog c.w f.A I Fp wr ds.length P Sx
  start : Sx 0 s2.heap
  inH : ∀ b ∈ Fp, ∃ o, s2.heap.get? b = some o
  npv : ∀ b ∈ Fp, ¬ Pv f b
  nX : ∀ b ∈ Fp, ¬ c.X b
  nmo : k.safe = true → ∀ b ∈ Fp, ¬ mo b
  fld : ∀ i h, Sx i h → ∀ b ∈ wr, ∃ o vs, h.get? b = some o ∧ o.data = .fields vs
  new : ∀ b ∈ wr, s.heap.get? b = none
  val : ∀ j v d, P j v → ds[j]? = some d → ∃ bs, bs.Sublist as ∧ Reads s2.heap v d bs
  ok : KOk f mo fp s.heap s2.heap k as
  asIn : ∀ a ∈ as, ∃ o, s2.heap.get? a = some o ∧ ListOrDict o

def It (c : Cx) (f : Fm) (ρ : Rho) (e : Expr) (ds : List PyData) (k : EK) : Prop :=
  ∀ mo val fp s E, St c f ρ mo val fp s → wpAny c.M f.A (eval e f.env) (fun xv s1 => wpAny c.M f.A (pyIter xv) (fun it s2 => Ext c s s2 ∧
    ∃ I Fp wr P Sx as, it = .ref I ∧ Itr c f mo fp s s2 ds k I Fp wr P Sx as) E s1) E s

/-- slots of a loop's name -/
inductive Fills2 : EK → List PyData → K → Prop
  | sh {ds : List PyData} : Fills2 .sh ds .sh
  | lo {ds : List PyData} : Fills2 .lo ds .lo
  | fr {ds : List PyData} : Fills2 .fr ds .lo
  | flat {k : EK} {ds : List PyData} {sk : K} : k.safe = true → (∀ d ∈ ds, flat d = true) → Fills2 k ds sk
theorem Fills2.safe {k : EK} {ds : List PyData} {sk : K} (h : Fills2 k ds sk) : k.safe = true := by cases h <;> first | rfl | assumption

def loopQ (J : Rho → Prop) (Q : Fl → Rho → Prop) : Fl → Rho → Prop
  | .next, ρ => J ρ
  | .cont, ρ => J ρ
  | .brk, ρ => Q .next ρ
  | .ret d u, ρ => Q (.ret d u) ρ

variable {Q : Fl → Rho → Prop} {body : List Stmt} {pos : Pos}

theorem pv_ld (S : St c f ρ mo val fp s) {a : Addr} {o : Obj} (e : s.heap.get? a = some o) (hl : ListOrDict o) (hn : a ≠ f.env.locals) : ¬ Pv f a := fun hp => by
  rcases hp with rfl | ⟨y, hy⟩
  · exact hn rfl
  · obtain ⟨v, o2, ho2, hd2⟩ := S.cells y a hy
    rw [ho2] at e; cases e
    rcases hl with ⟨_, _, _, h⟩ | ⟨_, _, _, h⟩ <;> rw [hd2] at h <;> cases h

theorem ex_for {x : Str} {xp : Pos} {iter : Expr} {i : Nat} {sk : K} {ds : List PyData} {k : EK} (FS : FmS c f) (hx : f.xs[i]? = some x) (h : It c f ρ iter ds k) (hk : Fills2 k ds sk)
    (J : Nat → Rho → Prop) (h0 : J 0 ρ)
    (hb : ∀ j d ρ', ds[j]? = some d → J j ρ' → i < ρ'.length ∧ Ex c f body (ρ'.set i (some ⟨sk, d⟩)) (loopQ (J (j + 1)) Q))
    (hend : ∀ ρ', J ds.length ρ' → Q .next ρ') (hs : ∀ env x, foldedSetIterable iter env x = pure x := by intro _ _; rfl) : Ex1 c f (.For (.Name x xp) iter body [] pos) ρ Q := fun mo val fp s S => by
  refine wpAny_For (wpAny_mono (h mo val fp s _ S) (fun xv s1 h1 => wpAny_mono h1 (fun it s2 ⟨x2, I, Fp, wr, P, Sx, as, e, T⟩ => ?_) fun _ _ z => z) fun _ _ z => z) (hs _)
  subst e
  have hsafe := hk.safe
  have S2 := S.ext x2
  have wrH0 : ∀ b ∈ wr, f.h₀.get? b = none := fun b hb => S.keep.none (T.new b hb)
  have wrHB : ∀ b ∈ wr, c.hB.get? b = none := fun b hb => FS.base.none (wrH0 b hb)
  have wrX : ∀ b ∈ wr, ¬ c.X b := fun b hb => T.nX b (T.walks.sub b hb)
  have asmo : ∀ a ∈ as, ¬ mo a := by
    have ko := T.ok
    cases k <;> first | (cases hsafe; done) | skip
    · exact ko.2
    · exact fun a ha => (ko.2 a ha).1
    · exact fun a ha => ((KOk.fr_lo S ko).2 a ha).1
  have aslo : k ≠ .sh → ∀ a ∈ as, f.h₀.get? a = none := by
    have ko := T.ok
    cases k <;> first | (cases hsafe; done) | skip
    · exact fun q => absurd rfl q
    · exact fun _ a ha => (ko.2 a ha).2
    · exact fun _ a ha => ((KOk.fr_lo S ko).2 a ha).2
  refine codeAny_forLoop_any (fun n s' => ∃ j ρ' mo' val' fp', j ≤ ds.length ∧ n = ds.length + 1 - j ∧ J j ρ' ∧ St c f ρ' mo' val' fp' s' ∧ Step c f mo s mo' s' ∧ Sx j s'.heap ∧
      (∀ b ∈ Fp, ∃ o, s'.heap.get? b = some o) ∧ (∀ b ∈ Fp, ¬ mo' b) ∧ (∀ a ∈ as, ¬ mo' a) ∧ (∀ a ∈ as, ∀ o, s2.heap.get? a = some o → ListOrDict o → s'.heap.get? a = some o) ∧
      (∀ a o, s2.heap.get? a = some o → o.cls = .type "tuple" → (∃ vs n, o.data = .seq vs n) → s'.heap.get? a = some o)) ?_ (ds.length + 1)
    ⟨0, ρ, mo, val, fp, Nat.zero_le _, rfl, h0, S2, Step.ext x2, T.start, T.inH, T.nmo hsafe, asmo, fun _ _ _ e _ => e, fun _ _ e _ _ => e⟩
  rintro n s' ⟨j, ρ', mo', val', fp', hj, rfl, hJ, S', X', hSx, hin, hnm, hasm, hkeep, htup⟩
  by_cases hlt : j < ds.length
  · refine T.walks.item j s' _ _ hlt hSx fun v h3 tk hP hSx3 hk3 => ?_
    obtain ⟨d, hd⟩ : ∃ d, ds[j]? = some d := ⟨_, List.getElem?_eq_getElem hlt⟩
    obtain ⟨bs, hbs, r2⟩ := T.val j v d hP hd
    have wrF := T.fld j s'.heap hSx
    have S3 := S'.soft (h' := h3) (tk := tk) hk3 wrF wrH0 wrHB wrX
    have asW : ∀ a o, s2.heap.get? a = some o → ListOrDict o → s'.heap.get? a = some o → h3.get? a = some o := fun a o e hl e' => hk3 a o (fun q => by
      obtain ⟨o2, vs, g1, g2⟩ := wrF a q
      rw [e'] at g1; cases g1
      rcases hl with ⟨_, _, _, h⟩ | ⟨_, _, _, h⟩ <;> rw [g2] at h <;> cases h) e'
    have tupW : ∀ a o, s2.heap.get? a = some o → o.cls = .type "tuple" → (∃ vs n, o.data = .seq vs n) → h3.get? a = some o := fun a o e hc hd => hk3 a o (fun q => by
      obtain ⟨o2, vs, g1, g2⟩ := wrF a q
      rw [htup a o e hc hd] at g1; cases g1
      obtain ⟨_, _, h⟩ := hd; rw [g2] at h; cases h) (htup a o e hc hd)
    have r3 : Reads h3 v d bs := reads_upon r2 (fun a ha o e _ => by
        obtain ⟨o1, g1, g2⟩ := reads_objs r2 a ha
        rw [e] at g1; cases g1
        exact asW a o e g2 (hkeep a (hbs.subset ha) o e g2)) tupW
    show wpAny _ _ (letOwnedTupleGo (.Name x xp) (.ref I) v) _ _ _
    refine wpAny_pure (wpAny_assign_Name ?_)
    obtain ⟨hil, hB⟩ := hb j d ρ' hd hJ
    have hL : f.env.locals ∉ bs := fun h => T.ok.1 (hbs.subset h)
    have fl : flat d = true → bs = [] := fun hf => reads_flat r2 hf
    have ok : SlotOk f ρ' i mo' fp' h3 sk bs := by
      cases hk with
      | sh => exact fun a ha => hasm a (hbs.subset ha)
      | lo => exact fun a ha => ⟨hasm a (hbs.subset ha), aslo (by nofun) a (hbs.subset ha)⟩
      | fr => exact fun a ha => ⟨hasm a (hbs.subset ha), aslo (by nofun) a (hbs.subset ha)⟩
      | flat _ hf =>
        rw [fl (hf d (List.mem_of_getElem? hd))]
        cases sk with
        | sh => exact nofun
        | lo => exact nofun
        | ow => exact ⟨.nil, nofun, fun _ _ _ _ _ _ h => (by cases h), nofun⟩
    refine store_step (sl := ⟨sk, d⟩) FS S3 hx hil r3 hL ok fun s4 S4 hk4 th4 => ?_
    -- what lies at the loop's own places stands under the store
    have mo4 : ∀ b, moWith mo' sk bs b → mo' b ∨ b ∈ bs := fun b h => h.imp id And.right
    have bsFlat : sk = .ow → bs = [] := by
      cases hk with
      | sh => nofun
      | lo => nofun
      | fr => nofun
      | flat _ hf => exact fun _ => fl (hf d (List.mem_of_getElem? hd))
    have mo4' : ∀ b, moWith mo' sk bs b → mo' b := fun b h => h.elim id fun ⟨q, hb⟩ => by rw [bsFlat q] at hb; cases hb
    have Fp3 : ∀ b ∈ Fp, ∃ o, h3.get? b = some o := fun b hb => by
      obtain ⟨o, e⟩ := hin b hb
      by_cases q : b ∈ wr
      · obtain ⟨o2, vs, g1, _⟩ := T.fld _ h3 hSx3 b q; exact ⟨o2, g1⟩
      · exact ⟨o, hk3 b o q e⟩
    have X4 : Step c f mo s (moWith mo' sk bs) s4 := ⟨fun b o h1 h2 h3' e => by
        have e1 := X'.kp b o h1 h2 h3' e
        have e2 := hk3 b o (fun q => by rw [T.new b q] at e; cases e) e1
        exact hk4 b o h2 e2, fun b o e => by
        obtain ⟨o1, e1⟩ := X'.th b o e
        have e2 := hk3 b o1 (fun q => by rw [T.new b q] at e; cases e) e1
        exact th4 b o1 e2, fun b h => X'.mo b (mo4' b h)⟩
    have hSx4 : Sx (j + 1) s4.heap := T.walks.frame _ _ _ hSx3 fun b hb o e => hk4 b o (T.npv b hb) e
    have Fp4 : ∀ b ∈ Fp, ∃ o, s4.heap.get? b = some o := fun b hb => let ⟨o, e⟩ := Fp3 b hb; ⟨o, hk4 b o (T.npv b hb) e⟩
    refine wpAny_mono (hB _ _ _ s4 S4) (fun fl s5 hp => ?_) fun _ _ z => z.elim
    obtain ⟨fl', ρ5, mo5, val5, fp5, hfl, S5, X5, hq⟩ := hp
    have X05 := X4.trans X5
    cases fl <;> cases fl' <;> first | exact hfl.elim | skip
    all_goals first
      | exact ⟨.next, ρ5, mo5, val5, fp5, trivial, S5, X05, hq⟩
      | exact ⟨.ret _ _, ρ5, mo5, val5, fp5, hfl, S5, X05, hq⟩
      | skip
    all_goals (
      have keep45 : ∀ b o, ¬ c.X b → ¬ Pv f b → ¬ mo' b → s4.heap.get? b = some o → s5.heap.get? b = some o := fun b o h1 h2 h3' e => X5.kp b o h1 h2 (fun q => h3' (mo4' b q)) e
      refine ⟨ds.length + 1 - (j + 1), by omega, j + 1, ρ5, mo5, val5, fp5, by omega, rfl, hq, S5, X05, ?_, ?_, ?_, ?_, ?_, ?_⟩
      · exact T.walks.frame _ _ _ hSx4 fun b hb o e => keep45 b o (T.nX b hb) (T.npv b hb) (hnm b hb) e
      · exact fun b hb => let ⟨o, e⟩ := Fp4 b hb; ⟨o, keep45 b o (T.nX b hb) (T.npv b hb) (hnm b hb) e⟩
      · intro b hb h
        rcases X5.mo b h with q | q
        · exact hnm b hb (mo4' b q)
        · obtain ⟨o, e⟩ := Fp4 b hb; rw [q] at e; cases e
      · intro a ha h
        rcases X5.mo a h with q | q
        · exact hasm a ha (mo4' a q)
        · rcases X05.mo a h with q' | q'
          · exact asmo a ha q'
          · obtain ⟨o, g1, g2⟩ := T.asIn a ha
            have g3 := hkeep a ha o g1 g2
            have g4 := asW a o g1 g2 g3
            have hnl : a ≠ f.env.locals := fun q => T.ok.1 (q ▸ ha)
            have g5 := hk4 a o (pv_ld S2 g1 g2 hnl) g4
            rw [q] at g5; cases g5
      · intro a ha o e hl
        have g3 := hkeep a ha o e hl
        have g4 := asW a o e hl g3
        have hnl : a ≠ f.env.locals := fun q => T.ok.1 (q ▸ ha)
        have hnp := pv_ld S2 e hl hnl
        have hnX : ¬ c.X a := not_tab S2.wf e (by rcases hl with ⟨q, _⟩ | ⟨q, _⟩ <;> rw [q] <;> nofun)
        exact keep45 a o hnX hnp (hasm a ha) (hk4 a o hnp g4)
      · intro a o e hc hd'
        have g4 := tupW a o e hc hd'
        have hnp : ¬ Pv f a := fun hp => by
          obtain ⟨o2, h2, h3'⟩ := pv_obj S3 hp
          rw [show ({ s' with heap := h3, toks := tk } : Shared).heap.get? a = some o from g4] at h2; cases h2
          obtain ⟨_, _, hd'⟩ := hd'
          rcases h3' with ⟨_, _, h⟩ | ⟨_, h⟩ <;> rw [hd'] at h <;> cases h
        have g5 := hk4 a o hnp g4
        exact X5.tuple S4 g5 hc hd')
  · have hj' : j = ds.length := by omega
    subst hj'
    refine T.walks.done s' _ _ hSx fun h3 tk hk3 => ?_
    refine wpAny_execs_nil ?_
    have wrF := T.fld _ s'.heap hSx
    exact ⟨.next, ρ', mo', val', fp', trivial, S'.soft hk3 wrF wrH0 wrHB wrX, ⟨fun b o h1 h2 h3' e => hk3 b o (fun q => by rw [T.new b q] at e; cases e) (X'.kp b o h1 h2 h3' e),
      fun b o e => let ⟨o1, e1⟩ := X'.th b o e; ⟨o1, hk3 b o1 (fun q => by rw [T.new b q] at e; cases e) e1⟩, X'.mo⟩, hend ρ' hJ⟩

theorem ex_while {t : Expr} (J : Nat → Rho → Prop) {n : Nat} (h0 : J n ρ)
    (hb : ∀ n ρ', J n ρ' → ∃ q, Tst c f ρ' t q ∧ (q = true → Ex c f body ρ' (loopQ (fun ρ'' => ∃ m, m < n ∧ J m ρ'') Q)) ∧ (q = false → Q .next ρ')) : Ex1 c f (.While t body [] pos) ρ Q := fun mo val fp s S => by
  refine wpAny_While ?_
  refine codeAny_whileLoop (fun n s' => ∃ ρ' mo' val' fp', J n ρ' ∧ St c f ρ' mo' val' fp' s' ∧ Step c f mo s mo' s') ?_ n ⟨ρ, mo, val, fp, h0, S, Step.refl⟩
  rintro n s' ⟨ρ', mo', val', fp', hJ, S', X'⟩
  obtain ⟨q, ht, h1, h2⟩ := hb n ρ' hJ
  refine ht.bind S' fun s1 x1 S1 => ?_
  cases q with
  | true =>
    refine wpAny_mono (h1 rfl _ _ _ s1 S1) (fun fl s5 hp => ?_) fun _ _ z => z.elim
    obtain ⟨fl', ρ5, mo5, val5, fp5, hfl, S5, X5, hq⟩ := hp
    have X05 := (X'.trans (Step.ext x1)).trans X5
    cases fl <;> cases fl' <;> first | exact hfl.elim | skip
    · obtain ⟨m, h3, h4⟩ := hq; exact ⟨m, h3, ρ5, mo5, val5, fp5, h4, S5, X05⟩
    · exact ⟨.next, ρ5, mo5, val5, fp5, trivial, S5, X05, hq⟩
    · obtain ⟨m, h3, h4⟩ := hq; exact ⟨m, h3, ρ5, mo5, val5, fp5, h4, S5, X05⟩
    · exact ⟨.ret _ _, ρ5, mo5, val5, fp5, hfl, S5, X05, hq⟩
  | false => exact wpAny_execs_nil ⟨.next, ρ', mo', val', fp', trivial, S1, X'.trans (Step.ext x1), h2 rfl⟩

/-! what may be walked -/
theorem it_list {e : Expr} {ds : List PyData} {k : EK} (h : Ev c f ρ e (.list ds) k) : It c f ρ e ds k.sub := fun mo val fp s E S => by
  refine h.bind S fun v s1 as x1 S1 r1 ko => ?_
  cases r1 with
  | list g1 g2 g3 g4 =>
    rename_i a o vs n bs
    refine wpAny_pyIter_list ⟨_, g1, g2, _, g3⟩ ?_
    have x2 : Ext c s1 { s1 with heap := s1.heap.push { cls := .type "list_iterator", data := .fields #[.ref a, .int 0 0] } } := Ext.push S1.wf _ _
    have hne : a ≠ s1.heap.objs.size := Nat.ne_of_lt (Heap.lt_size g1)
    have hnL : a ≠ f.env.locals := fun q => ko.1 (q ▸ List.mem_cons_self ..)
    have hlen := readsAll_length g4
    have hIn := get_size_none s1.heap
    have g4' := x2.readsAll S1.wf g4
    have hsz : vs.size = ds.length := by simpa using hlen
    refine ⟨x1.trans x2, s1.heap.objs.size, [s1.heap.objs.size, a], [s1.heap.objs.size], _, _, a :: bs, rfl, ⟨hsz ▸ Walks.list S.ok.room.hand s1.heap.objs.size a hne vs,
      ⟨⟨_, Heap.get?_push_size _ rfl, rfl, rfl⟩, ⟨_, x2.up.kp a _ (not_tab S1.wf g1 (by rw [g2]; nofun)) g1, g2, _, g3⟩⟩, fun b hb => ?_, fun b hb => ?_, fun b hb => ?_, fun hs b hb => ?_, fun i h st b hb => ?_, fun b hb => ?_, fun j v d hP hd => ?_, ?_, fun b hb => ?_⟩⟩
    · rcases List.mem_cons.mp hb with rfl | hb
      · exact ⟨_, Heap.get?_push_size _ rfl⟩
      · rw [List.mem_singleton.mp hb]; exact ⟨_, Heap.get?_push_of_some _ g1⟩
    · rcases List.mem_cons.mp hb with rfl | hb
      · intro hp
        obtain ⟨o2, h2, _⟩ := pv_obj S1 hp
        rw [hIn] at h2; cases h2
      · rw [List.mem_singleton.mp hb]; exact pv_ld S1 g1 (.inl ⟨g2, _, _, g3⟩) hnL
    · rcases List.mem_cons.mp hb with rfl | hb
      · intro hx
        obtain ⟨ps, q⟩ := S1.wf.tab _ hx
        rw [hIn] at q; cases q
      · rw [List.mem_singleton.mp hb]; exact not_tab S1.wf g1 (by rw [g2]; nofun)
    · rcases List.mem_cons.mp hb with rfl | hb
      · intro hm
        obtain ⟨o2, h2, _⟩ := S1.moIn _ hm
        rw [hIn] at h2; cases h2
      · rw [List.mem_singleton.mp hb]
        cases k <;> first | (cases hs; done) | skip
        · exact ko.2 a (List.mem_cons_self ..)
        · exact (ko.2 a (List.mem_cons_self ..)).1
        · exact ((KOk.fr_lo S ko).2 a (List.mem_cons_self ..)).1
    · rw [List.mem_singleton.mp hb]
      obtain ⟨o2, h2, _, h3⟩ := st.1
      exact ⟨o2, _, h2, h3⟩
    · rw [List.mem_singleton.mp hb]; exact x1.up.none hIn
    · obtain ⟨v', cs, q1, q2, q3⟩ := readsAll_item g4' hd
      have : v' = v := by
        have h1 : vs.toList[j]? = some v := by simpa using hP
        rw [q1] at h1; exact Option.some.inj h1
      subst this
      exact ⟨cs, q3.trans (List.sublist_cons_self ..), q2⟩
    · exact KOk.sub (ko.later S1.wf x2) (List.Sublist.refl _)
    · rcases List.mem_cons.mp hb with rfl | hb
      · exact ⟨_, Heap.get?_push_of_some _ g1, .inl ⟨g2, _, _, g3⟩⟩
      · exact readsAll_objs g4' b hb

/-- the builtin stands under its name -/
structure Bi (c : Cx) (x : Str) (v : Value) : Prop where
  no : c.mg x = none
  is : bootBuiltins x = some v
  ne : x ≠ "__name__"
theorem builtin_name {x : Str} {v : Value} {pos : Pos} {Q : Value → Shared → Prop} (C : CxOk c) (B : Bi c x v) (hx : f.env.kindOf x = some .globalImplicit) (S : St c f ρ mo val fp s) (h : Q v s)
    (hd : (x == ("__debug__" : Str)) = false := by decide +kernel) : wpAny c.M f.A (eval (.Name x pos) f.env) Q E s :=
  Name_function_global S.ok.kind hx (loadGlobal_builtin (mg := c.mg) (mb := c.mb) (by rw [S.ok.glob]; exact Ns.base S.wf C.g C.gX) B.no (by rw [S.ok.bi]; exact Ns.base S.wf C.b C.bX) ((C.builtins x B.ne).trans B.is) h) hd

def intsL (a : Int) (n : Nat) : List PyData := (List.range n).map fun (i : Nat) => PyData.int (a + (i : Int))
theorem intsL_get {a : Int} {n i : Nat} {d : PyData} (h : (intsL a n)[i]? = some d) : i < n ∧ d = .int (a + i) := by
  unfold intsL at h
  rw [List.getElem?_map] at h
  rcases Nat.lt_or_ge i n with q | q
  · rw [List.getElem?_range q] at h; simp at h; exact ⟨q, h.symm⟩
  · rw [List.getElem?_eq_none (by simpa using q)] at h; simp at h
theorem intsL_length (a : Int) (n : Nat) : (intsL a n).length = n := by simp [intsL]
theorem intsL_flat {a : Int} {n : Nat} : ∀ d ∈ intsL a n, flat d = true := fun d hd => by
  unfold intsL at hd
  obtain ⟨i, _, rfl⟩ := List.mem_map.mp hd
  rfl

theorem itr_range {s1 : Shared} {a : Int} {n : Nat} {o : Obj} {tk : Nat} (S : St c f ρ mo val fp s) (x1 : Ext c s s1) (S1 : St c f ρ mo val fp s1)
    : let s2 : Shared := { s1 with heap := (s1.heap.push o).push { cls := .type "range_iterator", data := .fields #[rawInt a, rawInt n, rawInt 1] }, toks := tk }
      Ext c s s2 ∧ ∃ I Fp wr P Sx as, (Value.ref (s1.heap.push o).objs.size) = .ref I ∧ Itr c f mo fp s s2 (intsL a n) .fr I Fp wr P Sx as := by
  intro s2
  have xs : Ext c s1 s2 := Ext.of S1.wf fun _ _ e => Heap.get?_push_of_some _ (Heap.get?_push_of_some _ e)
  have x2 : Ext c s s2 := x1.trans xs
  have hIn : s1.heap.get? (s1.heap.push o).objs.size = none := by
    cases e : s1.heap.get? (s1.heap.push o).objs.size with
    | none => rfl
    | some o' => have := Heap.lt_size e; rw [Heap.size_push] at this; exact absurd this (Nat.not_lt.mpr (Nat.le_succ _))
  refine ⟨x2, (s1.heap.push o).objs.size, [(s1.heap.push o).objs.size], [(s1.heap.push o).objs.size], _, _, [], rfl, ⟨by rw [intsL_length]; exact Walks.range S.ok.room.hand _ a 1 n, ?_, fun b hb => ?_, fun b hb => ?_, fun b hb => ?_, fun hs b hb => ?_, fun i h st b hb => ?_, fun b hb => ?_, fun j v d hP hd => ?_, ?_, nofun⟩⟩
  · have e1 : (a + ((0 : Nat) : Int) * 1) = a := by simp
    have e2 : ((n : Int) - ((0 : Nat) : Int)) = n := by simp
    rw [e1, e2]
    exact Heap.get?_push_size _ rfl
  · rw [List.mem_singleton.mp hb]; exact ⟨_, Heap.get?_push_size _ rfl⟩
  · rw [List.mem_singleton.mp hb]; intro hp
    obtain ⟨o2, h2, _⟩ := pv_obj S1 hp
    rw [hIn] at h2; cases h2
  · rw [List.mem_singleton.mp hb]; intro hx
    obtain ⟨ps, q⟩ := S1.wf.tab _ hx
    rw [hIn] at q; cases q
  · rw [List.mem_singleton.mp hb]; intro hm
    obtain ⟨o2, h2, _⟩ := S1.moIn _ hm
    rw [hIn] at h2; cases h2
  · rw [List.mem_singleton.mp hb]; exact ⟨_, _, st, rfl⟩
  · rw [List.mem_singleton.mp hb]; exact x1.up.none hIn
  · obtain ⟨h1, rfl⟩ := intsL_get hd
    obtain ⟨t, rfl⟩ := hP
    exact ⟨[], List.Sublist.refl _, by rw [Int.mul_one]; exact .int _ _⟩
  · exact frOk S .nil nofun nofun

theorem it_range1 {e : Expr} {n : Int} {k : EK} {rp : Pos} (C : CxOk c) (B : Bi c "range" (.type "range")) (hx : f.env.kindOf "range" = some .globalImplicit) (h : Ev c f ρ e (.int n) k) (hn : n < 2 ^ 62) (hn' : -(2 ^ 62) ≤ n)
    (he : ∀ env rest, starEach (e :: rest) env = (false, eval e env) :: starEach rest env := by intros; rfl) :
    It c f ρ (.Call (.Name "range" rp) [e] [] pos) (intsL 0 n.toNat) .fr := fun mo val fp s E S => by
  refine Call_ (builtin_name C B hx S ?_)
  refine PySem.callWith_type (by rw [he]; rfl) ?_
  rw [he]
  refine evalArgs_plain (spliced_cons (h.bind S fun v s1 as x1 S1 r1 ko => spliced_nil ?_))
  cases r1
  refine call_range_1 ?_
  refine wpAny_pyIter_range (IsRange.new ..) (small_one (by decide) (by decide) hn' hn) ?_
  have hsz : Builtin.Range.rangeSize 0 n 1 = (n.toNat : Int) := by rw [rangeSize_one]; split <;> omega
  rw [hsz]
  exact itr_range S x1 S1
end
end Mine

namespace Mine
open PySem PySem.Spec PySem.Calls PyProof.Rows

theorem bindL_notin (kindOf : Str → Option NameKind) {x : Str} : ∀ (binds : List (Str × Value)) (m : Str → Option Value), x ∉ binds.map (·.1) → bindL kindOf binds m x = m x
  | [], m, _ => rfl
  | (n, w) :: r, m, h => by
    have h1 : x ≠ n := fun q => h (by simp [q])
    rw [bindL, bindL_notin kindOf r _ fun q => h (by simp at q ⊢; exact .inr q)]
    split <;> simp [h1]
theorem bindL_get (kindOf : Str → Option NameKind) {x : Str} {v : Value} (hk : kindOf x = some .local) : ∀ (binds : List (Str × Value)) (m : Str → Option Value), (binds.map (·.1)).Nodup → (x, v) ∈ binds → bindL kindOf binds m x = some v
  | [], m, _, h => by cases h
  | (n, w) :: r, m, hn, h => by
    rw [List.map_cons, List.nodup_cons] at hn
    rw [bindL]
    rcases List.mem_cons.mp h with q | q
    · cases q
      rw [bindL_notin kindOf r _ hn.1, if_pos hk]; simp
    · exact bindL_get kindOf hk r _ hn.2 q
theorem bindC_notin (kindOf : Str → Option NameKind) {x : Str} : ∀ (binds : List (Str × Value)) (m : Str → Option Value), x ∉ binds.map (·.1) → bindC kindOf binds m x = m x
  | [], m, _ => rfl
  | (n, w) :: r, m, h => by
    have h1 : x ≠ n := fun q => h (by simp [q])
    rw [bindC, bindC_notin kindOf r _ fun q => h (by simp at q ⊢; exact .inr q)]
    split <;> simp [h1]
theorem bindC_get (kindOf : Str → Option NameKind) {x : Str} {v : Value} (hk : kindOf x ≠ some .local) : ∀ (binds : List (Str × Value)) (m : Str → Option Value), (binds.map (·.1)).Nodup → (x, v) ∈ binds → bindC kindOf binds m x = some v
  | [], m, _, h => by cases h
  | (n, w) :: r, m, hn, h => by
    rw [List.map_cons, List.nodup_cons] at hn
    rw [bindC]
    rcases List.mem_cons.mp h with q | q
    · cases q
      rw [bindC_notin kindOf r _ hn.1, if_neg hk]; simp
    · exact bindC_get kindOf hk r _ hn.2 q
theorem cellsFrom_has {x : Str} : ∀ (names : List (Str × NameKind)) (n : Nat) (acc : List (Str × Addr)), names.lookup x = some .cell ∨ (acc.lookup x).isSome = true → ((cellsFrom n names acc).lookup x).isSome = true
  | [], _, _, h => h.elim (fun e => by cases e) id
  | (y, k) :: r, n, acc, h => by
    unfold cellsFrom
    by_cases hk : (k == .cell) = true
    · rw [if_pos hk]
      refine cellsFrom_has r (n + 1) ((y, n) :: acc) ?_
      by_cases hy : (x == y) = true
      · exact .inr (by rw [List.lookup_cons, hy]; rfl)
      · refine h.imp (fun e => ?_) fun e => ?_
        · rw [List.lookup_cons] at e; simpa only [hy] using e
        · rw [List.lookup_cons]; simpa only [hy] using e
    · rw [if_neg hk]
      refine cellsFrom_has r n acc ?_
      by_cases hy : (x == y) = true
      · refine .inr (h.elim (fun e => ?_) id)
        rw [List.lookup_cons, hy] at e
        exact absurd (by rw [Option.some.inj e]; rfl) hk
      · refine h.imp (fun e => ?_) id
        rw [List.lookup_cons] at e; simpa only [hy] using e

theorem readsAll_fps {h : Heap} : ∀ {vs : List Value} {ds : List PyData} {as : List Addr}, ReadsAll h vs ds as → ∃ fp : Nat → List Addr, ∀ (i : Nat) (d : PyData), ds[i]? = some d → ∃ v, vs[i]? = some v ∧ Reads h v d (fp i)
  | _, _, _, .nil => ⟨fun _ => [], fun i d e => by simp at e⟩
  | _, _, _, .cons (as := as) r rs => by
    obtain ⟨fp, h⟩ := readsAll_fps rs
    refine ⟨fun i => match i with | 0 => as | i + 1 => fp i, fun i d e => ?_⟩
    cases i with
    | zero => simp at e; subst e; exact ⟨_, rfl, r⟩
    | succ i => simpa using h i d (by simpa using e)

def RetQ (res : PyData) (u : Bool) : Fl → Rho → Prop
  | .ret d u', _ => d = res ∧ (u = true → u' = true)
  | .next, _ => res = .none
  | _, _ => False

def startRho (args : List PyData) (rest : List Str) : Rho := args.map (fun a => some ⟨.sh, a⟩) ++ rest.map fun _ => none
theorem startRho_get {args : List PyData} {rest : List Str} {i : Nat} {sl : Slot} (e : (startRho args rest)[i]? = some (some sl)) : args[i]? = some sl.d ∧ sl.k = .sh := by
  unfold startRho at e
  rw [List.getElem?_append] at e
  split at e
  · rw [List.getElem?_map] at e
    cases h : args[i]? with
    | none => rw [h] at e; cases e
    | some a => rw [h] at e; cases e; exact ⟨rfl, rfl⟩
  · rw [List.getElem?_map] at e
    cases h : rest[i - (args.map fun a => (some ⟨.sh, a⟩ : Option Slot)).length]? with
    | none => rw [h] at e; cases e
    | some a => rw [h] at e; cases e

theorem fn_enterC {c : Cx} {d : FnD} {args : List PyData} {res : PyData} {u : Bool} {lv : Nat} (ps rest : List Str) (C : CxOk c)
    (hbind : ∀ pm cd doc (vals : List Value), vals.length = args.length → bindArgs (docDef d.name d.params d.body d.scope pm cd doc) ⟨vals, []⟩ = pure (ps.zip vals))
    (hlen : ps.length = args.length) (nd : (ps ++ rest).Nodup)
    (hk : ((ps ++ rest).all fun x => d.scope.names.lookup x == some .local || d.scope.names.lookup x == some .cell) = true)
    (h1 : d.scope.isCoroutine = false) (h2 : d.scope.isGenerator = false) (h3 : d.scope.kind = .function)
    (h : ∀ f : Fm, f.env.scope = d.scope → f.xs = ps ++ rest → f.lv = lv → (∃ fa o pm doc, Has c d fa o pm f.env.code doc) → FmS c f → Ex c f d.body (startRho args rest) (RetQ res u)) : Fn c (lv + 1) d args res u := by
  intro A s vals ass E fa o pm code doc H R W r
  have hvl := readsAll_length r
  have kinds : ∀ x ∈ ps ++ rest, d.scope.names.lookup x = some .local ∨ d.scope.names.lookup x = some .cell := fun x hx => by
    have := List.all_eq_true.mp hk x hx
    simpa using this
  have hmem : ∀ y ∈ ps.zip vals, y.1 ∈ ps := fun y hy => (List.of_mem_zip hy).1
  refine wpAny_call (call_cells_ret (by have := R.depth; omega) (W.base _ _ H.nX H.obj) H.data (NoLimit.base W C) (H.codeRec W) (hbind pm code doc vals hvl) (fun x hx => ?_) (fun h₁ tk F X => ?_) h1 h2 h3)
  · rcases kinds x.1 (List.mem_append_left _ (hmem x hx)) with q | q
    · exact .inl q
    · exact .inr ⟨q, cellsFrom_has _ _ _ (.inl q)⟩
  · generalize hL : s.heap.objs.size = L at F X ⊢
    have hLn : s.heap.get? L = none := by rw [← hL]; exact get_size_none _
    obtain ⟨fp, hfp⟩ := readsAll_fps r
    let f : Fm := ⟨envOfC d.name d.scope L fa code, A.deeper (envOfC d.name d.scope L fa code), s.heap, ps ++ rest, lv⟩
    have hUB : Up c.X c.hB s.heap := ⟨W.base, fun b o e => W.old.there b o e⟩
    have x1 : Ext c s { s with heap := h₁, toks := tk } := Ext.of W F.keep
    have zipNd : ((ps.zip vals).map (·.1)).Nodup := by
      rw [List.map_fst_zip (by omega)]
      exact (List.nodup_append.mp nd).1
    have FS : FmS c f := by
      refine ⟨fun i x hx => ?_, nd, fun x y a hx hy => name_of_addr X.apart (mem_of_lookup hx) (mem_of_lookup hy), fun a hp => ?_, hUB⟩
      · rcases kinds x (List.mem_of_getElem? hx) with q | q
        · exact .inl q
        · exact .inr ⟨q, Option.isSome_iff_exists.mp (cellsFrom_has _ _ _ (.inl q))⟩
      · rcases hp with rfl | ⟨x, hx⟩
        · exact hLn
        · have := X.above x a (mem_of_lookup hx)
          cases e : s.heap.get? a with
          | none => rfl
          | some o' => exact absurd (Heap.lt_size e) (Nat.not_lt.mpr (by rw [hL]; exact Nat.le_of_lt this))
    have S : St c f (startRho args rest) (fun _ => False) (fun i => vals.getD i .none) fp { s with heap := h₁, toks := tk } := by
      refine ⟨x1.wf, ⟨h3, rfl, rfl, ⟨R.hand, ?_, ?_, ?_⟩, hUB⟩, Up.of F.keep, ⟨_, F.ns⟩, fun x a e => ⟨_, X.cell x a e⟩, fun i sl e => ?_, fun i sl e q => ?_, fun _ _ _ _ _ _ q => q, fun i sl e q => ?_, fun i j sl sl' _ e _ q => ?_, fun _ q => q.elim, fun _ q => q.elim, fun q => q, fun i sl e q => ?_⟩
      · have := R.depth; show A.depth + 1 + 10 * lv + 10 < _; omega
      · have := R.units; show A.units + 3 + 100 * lv + 200 < _; omega
      · exact R.guards
      · obtain ⟨e1, e2⟩ := startRho_get e
        obtain ⟨v, e3, e4⟩ := hfp i sl.d e1
        have hil : i < args.length := (List.getElem?_eq_some_iff.mp e1).1
        obtain ⟨x, hx⟩ : ∃ x, ps[i]? = some x := ⟨_, List.getElem?_eq_getElem (by omega)⟩
        have hvi : vals.getD i .none = v := by rw [List.getD_eq_getElem?_getD, e3]; rfl
        have hmz : (x, v) ∈ ps.zip vals := by
          refine List.mem_of_getElem? (i := i) ?_
          rw [List.getElem?_zip_eq_some]; exact ⟨hx, e3⟩
        have hxm : x ∈ ps ++ rest := List.mem_append_left _ (List.mem_of_getElem? hx)
        refine ⟨x, by show (ps ++ rest)[i]? = some x; rw [List.getElem?_append_left (by omega)]; exact hx, ?_, by show Reads h₁ (vals.getD i .none) sl.d (fp i); rw [hvi]; exact x1.reads W e4⟩
        show Loads f.env h₁ x (vals.getD i .none)
        rw [hvi]
        rcases kinds x hxm with q | q
        · exact .inl ⟨q, _, F.ns, bindL_get _ q _ _ zipNd hmz⟩
        · obtain ⟨a, ha⟩ := Option.isSome_iff_exists.mp (cellsFrom_has (x := x) d.scope.names (L + 1) [] (.inl q))
          refine .inr ⟨.inl q, a, ha, ?_⟩
          have := X.cell x a ha
          rwa [bindC_get _ (by show d.scope.names.lookup x ≠ _; rw [q]; nofun) _ _ zipNd hmz] at this
      · rw [(startRho_get e).2] at q; cases q
      · rw [(startRho_get e).2] at q; cases q
      · rw [(startRho_get e).2] at q; cases q
      · obtain ⟨e1, _⟩ := startRho_get e
        obtain ⟨v, _, e4⟩ := hfp i sl.d e1
        obtain ⟨o', ho', _⟩ := reads_objs e4 _ q
        have : s.heap.get? L = some o' := ho'
        rw [hLn] at this; cases this
    refine wpAny_mono (h f rfl rfl rfl ⟨fa, o, pm, doc, H⟩ FS _ _ _ _ S) (fun fl s' hp => ?_) fun _ _ z => z
    obtain ⟨fl', ρ', mo', val', fp', hfl, S', X', hq⟩ := hp
    have x2 : Ext c s s' := ⟨S'.keep, S'.wf⟩
    cases fl <;> cases fl' <;> first | exact hfl.elim | exact hq.elim | skip
    · have : res = .none := hq
      subst this
      exact ⟨x2, [], .none, nofun, fun _ => ⟨.nil, nofun⟩⟩
    · obtain ⟨as, r1, n1, u1⟩ := hfl
      obtain ⟨e1, e2⟩ := hq
      exact ⟨x2, as, e1 ▸ r1, n1, fun q => u1 (e2 q)⟩
theorem fn_enter {c : Cx} {d : FnD} {args : List PyData} {res : PyData} {u : Bool} {lv : Nat} (ps rest : List Str) (C : CxOk c)
    (hbind : ∀ pm cd doc (vals : List Value), vals.length = args.length → bindArgs (docDef d.name d.params d.body d.scope pm cd doc) ⟨vals, []⟩ = pure (ps.zip vals))
    (hlen : ps.length = args.length) (nd : (ps ++ rest).Nodup)
    (hk : ((ps ++ rest).all fun x => d.scope.names.lookup x == some .local || d.scope.names.lookup x == some .cell) = true)
    (h1 : d.scope.isCoroutine = false) (h2 : d.scope.isGenerator = false) (h3 : d.scope.kind = .function)
    (h : ∀ f : Fm, f.env.scope = d.scope → f.xs = ps ++ rest → f.lv = lv → FmS c f → Ex c f d.body (startRho args rest) (RetQ res u)) : Fn c (lv + 1) d args res u :=
  fn_enterC ps rest C hbind hlen nd hk h1 h2 h3 fun f a b e _ => h f a b e
end Mine

namespace Mine
open PySem PySem.Spec PySem.Calls PyProof.Rows

def VRes (c : Cx) (s : Shared) (res : PyData) (v : Value) (s' : Shared) : Prop := Ext c s s' ∧ ∃ as, Reads s'.heap v res as ∧ as.Nodup ∧ (∀ a ∈ as, s.heap.get? a = none) ∧ ∀ a ∈ as, Pl s'.heap a
/-- what a call of a value gives: a datum of new objects -/
def VC (c : Cx) (n : Nat) (fv : Value) (args : List PyData) (res : PyData) : Prop :=
  ∀ A s vals ass E, Room n A → Wf c s → ReadsAll s.heap vals args ass →
    wpAny c.M A (call fv vals) (VRes c s res) E s

section
variable {c : Cx} {f : Fm} {ρ : Rho} {mo : Addr → Prop} {val : Nat → Value} {fp : Nat → List Addr} {s : Shared} {E : Value → Shared → Prop}
  {e e1 e2 : Expr} {d d1 d2 : PyData} {k k1 k2 : EK} {pos np : Pos} {x : Str}

theorem ev_vcall1 {fv : Value} (hv : (∃ id, fv = .builtin id) ∨ ∃ T, fv = .type T) (C : CxOk c) (B : Bi c x fv) (hx : f.env.kindOf x = some .globalImplicit) (h1 : Ev c f ρ e d1 k1) (h : VC c f.lv fv [d1] d)
    (he : ∀ env rest, starEach (e :: rest) env = (false, eval e env) :: starEach rest env := by intros; rfl) (hd : (x == ("__debug__" : Str)) = false := by decide +kernel) :
    Ev c f ρ (.Call (.Name x np) [e] [] pos) d .fr := fun mo val fp s E S => by
  refine Call_ (builtin_name C B hx S ?_ hd)
  have fin : wpAny c.M f.A (evalArgs fv true (backTo pos (starEach [e] f.env)) []) (fun a s₁ => wpAny c.M f.A (call fv ([] ++ a.pos) a.kw) (fun v s' => Ext c s s' ∧ ∃ as, Reads s'.heap v d as ∧ KOk f mo fp s.heap s'.heap .fr as) E s₁) E s := by
    rw [he]
    refine evalArgs_plain (spliced_cons (h1.bind S fun v s1 as x1 S1 r1 ko => spliced_nil ?_))
    refine wpAny_mono (h f.A s1 [v] _ E S.ok.room S1.wf (.cons r1 .nil)) (fun v s' ⟨x2, bs, r2, n2, q2, p2⟩ => ⟨x1.trans x2, bs, r2, frOk S n2 (fun a ha => x1.up.none (q2 a ha)) p2⟩) fun _ _ z => z
  rcases hv with ⟨id, rfl⟩ | ⟨T, rfl⟩
  · exact callWith_builtin (by rw [he]; rfl) fin
  · exact PySem.callWith_type (by rw [he]; rfl) fin
end

section
variable {c : Cx} {n : Nat} {a b : Int} {xs : List PyData} {ns : List Int}

theorem vc_len (hfit : xs.length < 2 ^ 63) : VC c n (.builtin "len") [.list xs] (.int xs.length) := fun A s vals ass E R W r => by
  cases r with | cons r1 r2 => cases r2; cases r1 with
  | list g1 g2 g3 g4 =>
    have hl := readsAll_length g4
    rename_i o vs _ _
    have hsz : vs.size = xs.length := by simpa using hl
    refine call_len_list ⟨_, g1, g2, _, g3⟩ (by rw [hsz]; omega) ⟨Ext.toks W _, [], by rw [hsz]; exact .int _ _, .nil, nofun, nofun⟩
theorem vc_abs : VC c n (.builtin "abs") [.int a] (.int (a.natAbs : Int)) := fun A s vals ass E R W r => by
  cases r with | cons r1 r2 => cases r2; cases r1 with
  | int i t => exact call_abs_int fun u tk => ⟨Ext.toks W _, [], by rw [show (if a < 0 then -a else a) = (a.natAbs : Int) by split <;> omega]; exact .int _ _, .nil, nofun, nofun⟩

def lmin : List Int → Int
  | [] => 0
  | [x] => x
  | x :: y :: r => min x (lmin (y :: r))
def lmax : List Int → Int
  | [] => 0
  | [x] => x
  | x :: y :: r => max x (lmax (y :: r))
theorem vc_list (hf : flats xs = true) (hsz : xs.length ≤ sizeLine) : VC c n (.type "list") [.list xs] (.list xs) := fun A s vals ass E R W r => by
  cases r with | cons r1 r2 => cases r2; cases r1 with
  | list g1 g2 g3 g4 =>
    rename_i a o vs m bs
    have hl : vs.size = xs.length := by simpa using readsAll_length g4
    refine call_list_seq (T := "list") a (.inl rfl) g1 g2 g3 (fun h' c' hk hD => ?_) (by omega)
    have x1 : Ext c s { s with heap := h' } := Ext.of W hk
    have g4' := x1.readsAll W g4
    have hb := readsAll_flat g4 hf
    subst hb
    refine ⟨x1, [s.heap.objs.size], .list hD rfl rfl g4', by simp, fun b hb => ?_, fun b hb => ?_⟩
    · rw [List.mem_singleton.mp hb]; exact get_size_none _
    · rw [List.mem_singleton.mp hb]; exact ⟨_, hD, .inl ⟨rfl, _, _, rfl⟩, rfl, rfl⟩

end
end Mine

namespace Mine
open PySem PySem.Spec PySem.Calls PyProof.Rows

theorem Pl.isL {h : Heap} {a : Addr} {o : Obj} {vs : Array Value} {n : Nat} (p : Pl h a) (e : h.get? a = some o) (hc : o.cls = .type "list") (hd : o.data = .seq vs n) : IsL h a vs n := by
  obtain ⟨o', e', _, q1, q2⟩ := p
  rw [e] at e'; cases e'
  obtain ⟨cl, di, da, sl⟩ := o
  simp only at hc hd q1 q2
  subst hc hd q1 q2
  exact e
theorem Pl.of_isL {h : Heap} {a : Addr} {vs : Array Value} {n : Nat} (e : IsL h a vs n) : Pl h a := ⟨_, e, .inl ⟨rfl, _, _, rfl⟩, rfl, rfl⟩

section
variable {c : Cx} {f : Fm} {ρ : Rho} {mo : Addr → Prop} {val : Nat → Value} {fp : Nat → List Addr} {s : Shared} {E : Value → Shared → Prop}

/-- a change at an object that a variable owns -/
theorem St.mut {i : Nat} {d d' : PyData} {b : Addr} {h' : Heap} {tk : Nat} {as' extra : List Addr} (FS : FmS c f) (S : St c f ρ mo val fp s) (e : ρ[i]? = some (some ⟨.ow, d⟩)) (hb : b ∈ fp i)
    (hs : Heap.SameBut b s.heap h') (hpl : Pl h' b) (r : Reads h' (val i) d' as') (nd : as'.Nodup) (hin : ∀ a ∈ as', a ∈ fp i ∨ a ∈ extra)
    (ex1 : ∀ a ∈ extra, ¬ mo a ∧ f.h₀.get? a = none ∧ Pl s.heap a) (ex2 : ∀ j sl, j ≠ i → ρ[j]? = some (some sl) → ∀ a ∈ fp j, a ∉ extra) (ex3 : f.env.locals ∉ extra) :
    St c f (ρ.set i (some ⟨.ow, d'⟩)) (fun a => mo a ∨ a ∈ extra) val (upd fp i as') { s with heap := h', toks := tk } ∧
      (∀ x o, ¬ mo x → s.heap.get? x = some o → h'.get? x = some o) ∧ (∀ x o, s.heap.get? x = some o → ∃ o', h'.get? x = some o') := by
  have hmo : mo b := (S.own i _ e rfl).2 b hb
  have hi : i < ρ.length := (List.getElem?_eq_some_iff.mp e).1
  obtain ⟨ob, hob, hlb, _⟩ := S.moPl b hmo
  have hbL : b ≠ f.env.locals := fun q => S.fpL i _ e (q ▸ hb)
  have hnp : ¬ Pv f b := pv_ld S hob hlb hbL
  have hX : ¬ c.X b := not_tab S.wf hob (by rcases hlb with ⟨q, _⟩ | ⟨q, _⟩ <;> rw [q] <;> nofun)
  have h0b := S.moNew b hmo
  have hBb := FS.base.none h0b
  have keep : ∀ x o, x ≠ b → s.heap.get? x = some o → h'.get? x = some o := fun x o hx q => (hs.2 x hx).trans q
  have hpv : ∀ x, Pv f x → x ≠ b := fun x hx q => hnp (q ▸ hx)
  have notTup : ∀ a o, s.heap.get? a = some o → o.cls = .type "tuple" → a ≠ b := fun a o q hc hab => by
    subst hab; rw [hob] at q; cases q
    rcases hlb with ⟨h, _⟩ | ⟨h, _⟩ <;> rw [hc] at h <;> simp at h
  have slot : ∀ j t, (ρ.set i (some ⟨.ow, d'⟩))[j]? = some (some t) → (j = i ∧ t = ⟨.ow, d'⟩) ∨ (j ≠ i ∧ ρ[j]? = some (some t)) := fun j t e => by
    rw [List.getElem?_set] at e
    by_cases q : i = j
    · rw [if_pos q, if_pos hi] at e; cases e; exact .inl ⟨q.symm, rfl⟩
    · rw [if_neg q] at e; exact .inr ⟨fun h => q h.symm, e⟩
  have other : ∀ j t, j ≠ i → ρ[j]? = some (some t) → b ∉ fp j := fun j t hj ej hm => by
    by_cases ho : t.k = .ow
    · exact S.apart i j _ t (fun q => hj q.symm) e ej rfl ho b hb hm
    · exact S.shr j t ej ho b hm hmo
  have nsK : ∀ {a m}, a ≠ b → s.heap.Ns a m → h'.Ns a m := fun ha ⟨o, es, ep, ho, q⟩ => ⟨o, es, ep, keep _ o ha ho, q⟩
  have cellNe : ∀ {a v}, s.heap.IsCell a v → a ≠ b := fun ⟨o, ho, hd⟩ q => by
    subst q; rw [hob] at ho; cases ho
    rcases hlb with ⟨_, _, _, h⟩ | ⟨_, _, _, h⟩ <;> rw [hd] at h <;> cases h
  have th : ∀ x o, s.heap.get? x = some o → ∃ o', h'.get? x = some o' := fun x o q => by
    by_cases hx : x = b
    · subst hx; obtain ⟨o', q', _⟩ := hpl; exact ⟨o', q'⟩
    · exact ⟨o, keep x o hx q⟩
  have plK : ∀ a, Pl s.heap a → Pl h' a := fun a ⟨o, q, r⟩ => by
    by_cases ha : a = b
    · subst ha; exact hpl
    · exact ⟨o, keep a o ha q, r⟩
  refine ⟨⟨S.wf.sameBut hs hBb hX, S.ok, ⟨fun x o hx q => keep x o (fun h => by rw [h, h0b] at q; cases q) (S.keep.kp x o hx q), fun x o q => let ⟨o', q'⟩ := S.keep.th x o q; th x o' q'⟩,
    let ⟨m, n⟩ := S.ns; ⟨m, nsK (fun q => hbL q.symm) n⟩, fun x a q => ?_, fun j t ej => ?_, fun j t ej ho => ?_, fun j t ej ho => ?_, fun j t ej hl => ?_, fun j j' t t' hne ej ej' ho ho' => ?_, fun a h => ?_, fun a h => ?_, ?_, fun j t ej => ?_⟩, fun x o hx q => keep x o (fun h => hx (h ▸ hmo)) q, th⟩
  · obtain ⟨v, n⟩ := S.cells x a q
    have hne := cellNe n
    obtain ⟨o, ho, hd⟩ := n
    exact ⟨v, o, keep a o hne ho, hd⟩
  · have ld : ∀ {y u}, Loads f.env s.heap y u → Loads f.env h' y u := fun l => by
      rcases l with ⟨g1, m, g2, g3⟩ | ⟨g1, a, g2, g3⟩
      · exact .inl ⟨g1, m, nsK (fun q => hbL q.symm) g2, g3⟩
      · have hne := cellNe g3
        obtain ⟨o, ho, hd⟩ := g3
        exact .inr ⟨g1, a, g2, o, keep a o hne ho, hd⟩
    rcases slot j t ej with ⟨rfl, rfl⟩ | ⟨hj, ej⟩
    · obtain ⟨y, h1, h2, _⟩ := S.var j _ e
      exact ⟨y, h1, ld h2, by rw [upd_self]; exact r⟩
    · obtain ⟨y, h1, h2, h3⟩ := S.var j t ej
      refine ⟨y, h1, ld h2, by
        rw [upd_ne _ _ _ hj]
        exact reads_upon h3 (fun a ha o q _ => keep a o (fun h => other j t hj ej (h ▸ ha)) q) (fun a o q hc _ => keep a o (notTup a o q hc) q)⟩
  · rcases slot j t ej with ⟨rfl, rfl⟩ | ⟨hj, ej⟩
    · rw [upd_self]; exact ⟨nd, fun a ha => (hin a ha).imp ((S.own j _ e rfl).2 a) id⟩
    · rw [upd_ne _ _ _ hj]; exact ⟨(S.own j t ej ho).1, fun a ha => .inl ((S.own j t ej ho).2 a ha)⟩
  · rcases slot j t ej with ⟨rfl, rfl⟩ | ⟨hj, ej⟩
    · exact absurd rfl ho
    · rw [upd_ne _ _ _ hj]; exact fun a ha h => h.elim (S.shr j t ej ho a ha) (ex2 j t hj ej a ha)
  · rcases slot j t ej with ⟨rfl, rfl⟩ | ⟨hj, ej⟩
    · cases hl
    · rw [upd_ne _ _ _ hj]; exact S.loc j t ej hl
  · rcases slot j t ej with ⟨rfl, rfl⟩ | ⟨hj, e1⟩ <;> rcases slot j' t' ej' with ⟨rfl, rfl⟩ | ⟨hj', e1'⟩
    · exact absurd rfl hne
    · rw [upd_self, upd_ne _ _ _ hj']
      exact fun a ha h => (hin a ha).elim (fun q => S.apart j j' _ t' hne e e1' rfl ho' a q h) (ex2 j' t' hj' e1' a h)
    · rw [upd_self, upd_ne _ _ _ hj]
      exact fun a ha h => (hin a h).elim (fun q => S.apart j j' t _ hne e1 e ho rfl a ha q) (ex2 j t hj e1 a ha)
    · rw [upd_ne _ _ _ hj, upd_ne _ _ _ hj']; exact S.apart j j' t t' hne e1 e1' ho ho'
  · exact h.elim (S.moNew a) fun q => (ex1 a q).2.1
  · exact plK a (h.elim (S.moPl a) fun q => (ex1 a q).2.2)
  · exact fun h => h.elim S.moL ex3
  · rcases slot j t ej with ⟨rfl, rfl⟩ | ⟨hj, ej⟩
    · rw [upd_self]; exact fun h => (hin _ h).elim (S.fpL j _ e) ex3
    · rw [upd_ne _ _ _ hj]; exact S.fpL j t ej

theorem reads_but {h h' : Heap} {a : Addr} {v : Value} {d : PyData} {as : List Addr} (hs : Heap.SameBut a h h') (ha : ∀ o, h.get? a = some o → o.cls ≠ .type "tuple") (hn : a ∉ as) (r : Reads h v d as) : Reads h' v d as :=
  reads_upon r (fun b hb o q _ => (hs.2 b fun h => hn (h ▸ hb)).trans q) (fun b o q hc _ => (hs.2 b fun h => ha o (h ▸ q) hc).trans q)
theorem readsAll_but {h h' : Heap} {a : Addr} {v : List Value} {d : List PyData} {as : List Addr} (hs : Heap.SameBut a h h') (ha : ∀ o, h.get? a = some o → o.cls ≠ .type "tuple") (hn : a ∉ as) (r : ReadsAll h v d as) : ReadsAll h' v d as :=
  readsAll_upon r (fun b hb o q _ => (hs.2 b fun h => hn (h ▸ hb)).trans q) (fun b o q hc _ => (hs.2 b fun h => ha o (h ▸ q) hc).trans q)
theorem isL_notTup {h : Heap} {a : Addr} {vs : Array Value} {n : Nat} (l : IsL h a vs n) : ∀ o, h.get? a = some o → o.cls ≠ .type "tuple" := fun o q hc => by
  rw [l] at q; cases q; simp at hc
theorem readsAll_snoc {h : Heap} : ∀ {vs : List Value} {ds : List PyData} {as : List Addr} {v : Value} {d : PyData} {bs : List Addr}, ReadsAll h vs ds as → Reads h v d bs → ReadsAll h (vs ++ [v]) (ds ++ [d]) (as ++ bs)
  | _, _, _, _, _, bs, .nil, r => by simpa using ReadsAll.cons r .nil
  | _, _, _, _, _, bs, .cons (as := as1) (bs := as2) h1 h2, r => by
    have := ReadsAll.cons h1 (readsAll_snoc h2 r)
    simpa using this
theorem readsAll_set {h : Heap} : ∀ {vs : List Value} {ds : List PyData} {as : List Addr} {i : Nat} {v : Value} {d d0 : PyData}, ReadsAll h vs ds as → ds[i]? = some d0 → flat d0 = true → Reads h v d [] → ReadsAll h (vs.set i v) (ds.set i d) as
  | _, _, _, i, v, d, d0, .nil, e, _, _ => by simp at e
  | _, _, _, 0, v, d, d0, .cons h1 h2, e, hf, r => by
    simp at e; subst e
    rw [reads_flat h1 hf]
    exact .cons r h2
  | _, _, _, i + 1, v, d, d0, .cons h1 h2, e, hf, r => by
    exact .cons h1 (readsAll_set h2 (by simpa using e) hf r)
theorem readsAll_mem {h : Heap} : ∀ {vs : List Value} {ds : List PyData} {as : List Addr} {i : Nat} {b : Addr} {cs : List PyData}, ReadsAll h vs ds as → vs[i]? = some (.ref b) → ds[i]? = some (.list cs) → b ∈ as
  | _, _, _, i, b, cs, .nil, e, _ => by simp at e
  | _, _, _, 0, b, cs, .cons h1 h2, e, e' => by
    simp at e e'; subst e e'
    cases h1; simp
  | _, _, _, i + 1, b, cs, .cons h1 h2, e, e' => List.mem_append_right _ (readsAll_mem h2 (by simpa using e) (by simpa using e'))
theorem readsAll_row {h h' : Heap} {b : Addr} {cells cells' : List PyData} (hf : flats cells = true) (hs : ∀ x, x ≠ b → h'.get? x = h.get? x) (hb : ∀ o, h.get? b = some o → o.cls ≠ .type "tuple") (new : Reads h' (.ref b) (.list cells') [b]) :
    ∀ {vs : List Value} {ds : List PyData} {as : List Addr} {i : Nat}, ReadsAll h vs ds as → as.Nodup → vs[i]? = some (.ref b) → ds[i]? = some (.list cells) → ReadsAll h' vs (ds.set i (.list cells')) as
  | _, _, _, i, .nil, _, e, _ => by simp at e
  | _, _, _, 0, .cons (as := as1) (bs := as2) h1 h2, nd, e, e' => by
    simp at e e'; subst e e'
    cases h1 with
    | list g1 g2 g3 g4 =>
      rw [readsAll_flat g4 hf] at nd ⊢
      have hb2 : b ∉ as2 := fun q => by simp at nd; exact nd.1 q
      exact .cons new (readsAll_upon h2 (fun a ha o q _ => (hs a (fun h => hb2 (h ▸ ha))).trans q) (fun a o q hc _ => (hs a (fun h => hb o (h ▸ q) hc)).trans q))
  | _, _, _, i + 1, .cons (as := as1) (bs := as2) h1 h2, nd, e, e' => by
    rw [List.nodup_append] at nd
    have hb2 : b ∈ as2 := readsAll_mem h2 (by simpa using e) (by simpa using e')
    have hb1 : b ∉ as1 := fun q => nd.2.2 b q b hb2 rfl
    exact .cons (reads_upon h1 (fun a ha o q _ => (hs a (fun h => hb1 (h ▸ ha))).trans q) (fun a o q hc _ => (hs a (fun h => hb o (h ▸ q) hc)).trans q))
      (readsAll_row hf hs hb new h2 nd.2.1 (by simpa using e) (by simpa using e'))

/-- the list that a variable owns -/
theorem owned_list {i : Nat} {xs : List PyData} (S : St c f ρ mo val fp s) (e : ρ[i]? = some (some ⟨.ow, .list xs⟩)) :
    ∃ a vs n as, val i = .ref a ∧ fp i = a :: as ∧ IsL s.heap a vs n ∧ ReadsAll s.heap vs.toList xs as ∧ mo a := by
  obtain ⟨x, _, _, r⟩ := S.var i _ e
  obtain ⟨nd, hm⟩ := S.own i _ e rfl
  generalize val i = v at r
  generalize hfp : fp i = as at r nd hm
  simp only at r
  cases r with
  | list g1 g2 g3 g4 =>
    have hma := hm _ (List.mem_cons_self ..)
    exact ⟨_, _, _, _, rfl, rfl, (S.moPl _ hma).isL g1 g2 g3, g4, hma⟩

variable {Q : Fl → Rho → Prop} {e : Expr} {d : PyData} {k : EK} {pos : Pos} {x : Str} {xp ap cp : Pos} {i : Nat} {xs : List PyData}

theorem sameBut_update (h : Heap) (a : Addr) (g : Obj → Obj) : Heap.SameBut a h (h.update a g) := Heap.SameBut.update ..

/-- x.append(e) -/
theorem ex_append (FS : FmS c f) (hat : At f.xs ρ x ⟨.ow, .list xs⟩ i) (h : Ev c f ρ e d k) (hk : k = .fr ∨ flat d = true) (hsz : xs.length ≤ sizeLine) (hQ : Q .next (ρ.set i (some ⟨.ow, .list (xs ++ [d])⟩)))
    (hd : (x == ("__debug__" : Str)) = false := by decide +kernel) (hn : (x == ("__classdict__" : Str)) = false := by decide +kernel)
    (hbase : ∀ env, attributeBase (.Name x xp) "append" env (eval (.Name x xp) env) = eval (.Name x xp) env := by intro _; rfl) (hline : (ap.endLine == cp.line) = true := by rfl)
    (htrees : ∀ env, backTo cp (starEach [e] env) = [(false, eval e env)] := by intro _; rfl) (hi : ∀ env, interactive env = false → True := by intros; trivial)
    (hsw : ∀ env, swapsWith (.Call (.Attribute (.Name x xp) "append" ap) [e] [] cp) none pos.line env = pure false := by intro _; rfl) :
    Ex1 c f (.Expr (.Call (.Attribute (.Name x xp) "append" ap) [e] [] cp) pos) ρ Q := fun mo val fp s S => by
  have hint : interactive f.env = false := by unfold interactive; rw [S.ok.kind]; rfl
  refine wpAny_Expr_any ?_ hint (hsw _)
  refine wpAny_Call_method1_late (hbase _) hline (htrees _) (name_step S hat (fun _ => ?_) hd hn)
  have e0 := hat.slot
  obtain ⟨a, vs, n, as, hv, hfp, hl, hr, hma⟩ := owned_list S e0
  rw [hv]
  refine ⟨"list", "list.append", F.plainAttrs_list, F.slot_list_append, F.type_list_append, ⟨_, hl, rfl⟩, fun a' q => by cases q; exact ⟨_, hl, rfl⟩, ?_⟩
  refine P.append_list (h.bind S fun v s1 as1 x1 S1 r1 ko => ?_)
  have hl1 : IsL s1.heap a vs n := listOrDict_ext S.wf x1 hl (.inl ⟨rfl, _, _, rfl⟩)
  have hr1 := x1.readsAll S.wf hr
  have hlen : vs.size = xs.length := by simpa using readsAll_length hr
  refine ⟨vs, n, by omega, hl1, ?_⟩
  have hl2 := hl1.update (fun xs => xs.push v)
  have hsb : Heap.SameBut a s1.heap (s1.heap.update a (Obj.mapSeq fun xs => xs.push v)) := sameBut_update ..
  obtain ⟨nd, hm⟩ := S1.own i _ e0 rfl
  rw [hfp] at nd
  have haas : a ∉ as := (List.nodup_cons.mp nd).1
  have haas1 : a ∉ as1 := fun q => by
    rcases hk with rfl | hf
    · have := ko.2.2.1 a q; rw [hl] at this; cases this
    · rw [reads_flat r1 hf] at q; cases q
  have hr2 := readsAll_but hsb (isL_notTup hl1) haas hr1
  have r2 := reads_but hsb (isL_notTup hl1) haas1 r1
  have key : Reads (s1.heap.update a (Obj.mapSeq fun xs => xs.push v)) (val i) (.list (xs ++ [d])) (a :: (as ++ as1)) := by
    rw [hv]
    exact .list hl2 rfl rfl (by rw [Array.toList_push]; exact readsAll_snoc hr2 r2)
  have frs : ∀ b ∈ as1, s.heap.get? b = none := fun b hb => by
    rcases hk with rfl | hf
    · exact ko.2.2.1 b hb
    · rw [reads_flat r1 hf] at hb; cases hb
  have fpIn : ∀ j sl, ρ[j]? = some (some sl) → ∀ b ∈ fp j, ∃ o, s.heap.get? b = some o := fun j sl ej b hb => by
    obtain ⟨_, _, _, rj⟩ := S.var j sl ej
    obtain ⟨o, ho, _⟩ := reads_objs rj b hb; exact ⟨o, ho⟩
  have as1nd : as1.Nodup := by
    rcases hk with rfl | hf
    · exact ko.2.1
    · rw [reads_flat r1 hf]; exact .nil
  have as1pl : ∀ b ∈ as1, Pl s1.heap b := fun b hb => by
    rcases hk with rfl | hf
    · exact ko.2.2.2 b hb
    · rw [reads_flat r1 hf] at hb; cases hb
  have asfp : ∀ b ∈ as, b ∈ fp i := fun b hb => by rw [hfp]; exact List.mem_cons_of_mem _ hb
  have := S1.mut (tk := s1.toks) (as' := a :: (as ++ as1)) (extra := as1) FS e0 (by rw [hfp]; exact List.mem_cons_self ..) hsb (Pl.of_isL hl2) key
    (List.nodup_cons.mpr ⟨fun q => (List.mem_append.mp q).elim haas haas1, List.nodup_append.mpr ⟨(List.nodup_cons.mp nd).2, as1nd, fun p hp q hq h => by
      subst h; obtain ⟨o, ho⟩ := fpIn i _ e0 p (asfp p hp); rw [frs p hq] at ho; cases ho⟩⟩)
    (fun b hb => by
      rw [hfp]
      rcases List.mem_cons.mp hb with q | q
      · exact .inl (q ▸ List.mem_cons_self ..)
      · exact (List.mem_append.mp q).imp (List.mem_cons_of_mem _) id)
    (fun b hb => ⟨fun q => (by obtain ⟨o, ho, _⟩ := S.moIn b q; rw [frs b hb] at ho; cases ho), S.keep.none (frs b hb), as1pl b hb⟩)
    (fun j sl _ ej b hb q => by obtain ⟨o, ho⟩ := fpIn j sl ej b hb; rw [frs b q] at ho; cases ho)
    (fun q => ko.1 q)
  refine ⟨.next, _, _, _, _, trivial, this.1, ⟨fun b o h1 h2 h3 q => this.2.1 b o h3 (x1.up.kp b o h1 q), fun b o q => let ⟨o', q'⟩ := x1.up.th b o q; this.2.2 b o' q', fun b h => h.imp id (frs b)⟩, hQ⟩
end
end Mine

namespace Mine
open PySem PySem.Spec PySem.Calls PyProof.Rows

section
variable {prog : Program} {w : World} {A : Around} {E : Value → Shared → Prop} {s : Shared}
/-- a store into a plain list leaves a plain list -/
theorem setItem_isL {l : Addr} {items : Array Value} {n : Nat} {k : Int} {t : Tok} {v : Value} {Q : Unit → Shared → Prop} (hl : IsL s.heap l items n) (h0 : 0 ≤ k) (hfit : k < 2 ^ 63) (hn : k < items.size)
    (hQ : IsL (s.heap.update l (Obj.mapSeq (·.setIfInBounds k.toNat v))) l (items.setIfInBounds k.toNat v) n → Q () { s with heap := s.heap.update l (Obj.mapSeq (·.setIfInBounds k.toNat v)) }) :
    wpAny (model prog w) A (setItem (.ref l) (.int k t) v) Q E s := by
  have hT : s.TypeIs (.ref l) "list" := ⟨_, hl, rfl⟩
  have hq := hQ (by
    have := hl.update (fun xs => xs.setIfInBounds k.toNat v)
    have e : ((items.setIfInBounds k.toNat v).size == items.size) = true := by simp
    simpa [e] using this)
  clear hQ
  unfold setItem
  try with_reducible refine wpAny_holding ?_
  first | refine wpAny_bind (wpAny_pure ?_) | skip
  refine wpAny_bind (wpAny_sequenceKey hT (by decide) ?_)
  refine wpAny_bind (wpAny_callSpecial?_slot (name := Str.ofString "__setitem__") hT slot_list_setitem
    (wpAny_call_entry slot_list_setitem hT entry_list_setitem ?_ (args_list_setitem _ _ _)))
  show wpAny _ _ (Builtin.List.listSubscript? (.int k t) >>= _) _ _ s
  refine wpAny_bind (wpAny_listSubscript_int (fitsIndex_of h0 hfit) ?_)
  clear hfit
  obtain ⟨j, rfl⟩ := Int.eq_ofNat_of_zero_le h0
  have hj : j < items.size := by omega
  show wpAny _ _ ((seqItemAt l j >>= fun r => pure (r.map (j, ·))) >>= _) _ _ s
  refine wpAny_bind (wpAny_bind (wpAny_seqItemAt hl rfl (wpAny_pure ?_)))
  rw [Array.getElem?_eq_getElem hj]
  show wpAny _ _ (setSeqItemAt l j v >>= _) _ _ s
  refine wpAny_bind (wpAny_setSeqItemAt hl rfl ?_)
  first
    | exact wpAny_bind (wpAny_pure (wpAny_pure ⟨.none, rfl, wpAny_pure hq⟩))
    | exact wpAny_pure ⟨.none, rfl, wpAny_pure hq⟩
end

section
variable {c : Cx} {f : Fm} {ρ : Rho} {mo : Addr → Prop} {val : Nat → Value} {fp : Nat → List Addr} {s : Shared} {E : Value → Shared → Prop}
variable {Q : Fl → Rho → Prop} {e ei er : Expr} {d d0 : PyData} {k k2 k3 : EK} {pos : Pos} {x : Str} {xp ap cp sp sp2 : Pos} {i : Nat} {xs : List PyData}

theorem mut0 {d d' : PyData} {b : Addr} {h' : Heap} {tk : Nat} {s1 : Shared} (FS : FmS c f) (S : St c f ρ mo val fp s) (x1 : Ext c s s1) (e : ρ[i]? = some (some ⟨.ow, d⟩)) (hb : b ∈ fp i)
    (hs : Heap.SameBut b s1.heap h') (hpl : Pl h' b) (r : Reads h' (val i) d' (fp i)) (hQ : Q .next (ρ.set i (some ⟨.ow, d'⟩))) : Post c f mo s Q .next { s1 with heap := h', toks := tk } := by
  have S1 := S.ext x1
  have := S1.mut (tk := tk) (as' := fp i) (extra := []) FS e hb hs hpl r (S.own i _ e rfl).1 (fun a ha => .inl ha) nofun (fun _ _ _ _ _ _ h => by cases h) nofun
  exact ⟨.next, _, _, _, _, trivial, this.1, ⟨fun b o h1 h2 h3 q => this.2.1 b o h3 (x1.up.kp b o h1 q), fun b o q => let ⟨o', q'⟩ := x1.up.th b o q; this.2.2 b o' q', fun b h => h.elim .inl (fun q => by cases q)⟩, hQ⟩

/-- x[i] = e, a flat item in the place of a flat item -/
theorem ex_setitem {j : Int} (FS : FmS c f) (hat : At f.xs ρ x ⟨.ow, .list xs⟩ i) (hv : Ev c f ρ e d k) (hi : Ev c f ρ ei (.int j) k2) (hd : flat d = true) (h0 : 0 ≤ j) (hfit : j < 2 ^ 63) (hx : xs[j.toNat]? = some d0) (hd0 : flat d0 = true)
    (hQ : Q .next (ρ.set i (some ⟨.ow, .list (xs.set j.toNat d)⟩)))
    (hdb : (x == ("__debug__" : Str)) = false := by decide +kernel) (hn : (x == ("__classdict__" : Str)) = false := by decide +kernel)
    (hs : ∀ env, swapsWith e (some (.Subscript (.Name x xp) ei sp)) pos.line env = pure false := by intro _; rfl) : Ex1 c f (.Assign [.Subscript (.Name x xp) ei sp] e pos) ρ Q := fun mo val fp s S => by
  refine wpAny_Assign_Subscript (hv.bind S fun v s1 as1 x1 S1 r1 _ => name_step S1 hat (fun _ => hi.bind S1 fun iv s3 as3 x3 S3 r3 _ => ?_) hdb hn) (hs _)
  have e0 := hat.slot
  obtain ⟨a, vs, n, as, hva, hfp, hl, hr, hma⟩ := owned_list S3 e0
  cases r3
  rw [hva]
  have hlen : vs.size = xs.length := by simpa using readsAll_length hr
  have hjl : j.toNat < xs.length := (List.getElem?_eq_some_iff.mp hx).1
  refine setItem_isL hl h0 hfit (by omega) fun hl2 => ?_
  have hsb : Heap.SameBut a s3.heap (s3.heap.update a (Obj.mapSeq (·.setIfInBounds j.toNat v))) := sameBut_update ..
  have nd := (S3.own i _ e0 rfl).1
  rw [hfp] at nd
  have r1' := reads_but hsb (isL_notTup hl) (by rw [reads_flat r1 hd]; nofun) (x3.reads S1.wf r1)
  rw [reads_flat r1 hd] at r1'
  have hr2 := readsAll_but hsb (isL_notTup hl) (List.nodup_cons.mp nd).1 hr
  refine mut0 (d' := .list (xs.set j.toNat d)) FS S (x1.trans x3) e0 (by rw [hfp]; exact List.mem_cons_self ..) hsb (Pl.of_isL hl2) ?_ hQ
  rw [hva, hfp]
  exact .list hl2 rfl rfl (by rw [Array.toList_setIfInBounds]; exact readsAll_set hr2 hx hd0 r1')

/-- the row of a table that a variable owns -/
theorem owned_row {j : Nat} {rows cells : List PyData} (S : St c f ρ mo val fp s) (e : ρ[i]? = some (some ⟨.ow, .list rows⟩)) (hj : rows[j]? = some (.list cells)) :
    ∃ a vs n as b ws m cs, val i = .ref a ∧ fp i = a :: as ∧ IsL s.heap a vs n ∧ ReadsAll s.heap vs.toList rows as ∧ vs.toList[j]? = some (.ref b) ∧ IsL s.heap b ws m ∧ ReadsAll s.heap ws.toList cells cs ∧ b ∈ as := by
  obtain ⟨a, vs, n, as, hva, hfp, hl, hr, hma⟩ := owned_list S e
  obtain ⟨v, bs, h1, h2, h3⟩ := readsAll_item hr hj
  cases h2 with
  | list g1 g2 g3 g4 =>
    have hb : _ ∈ as := h3.subset (List.mem_cons_self ..)
    have hmb := (S.own i _ e rfl).2 _ (by rw [hfp]; exact List.mem_cons_of_mem _ hb)
    exact ⟨a, vs, n, as, _, _, _, _, hva, hfp, hl, hr, h1, (S.moPl _ hmb).isL g1 g2 g3, g4, hb⟩

/-- the value of a row: x[i] of a table owned by x -/
theorem row_step {j : Int} {rows cells : List PyData} {K : Value → Shared → Prop} (S : St c f ρ mo val fp s) (hat : At f.xs ρ x ⟨.ow, .list rows⟩ i) (hi : Ev c f ρ ei (.int j) k2) (h0 : 0 ≤ j) (hfit : j < 2 ^ 63) (hj : rows[j.toNat]? = some (.list cells))
    (hdb : (x == ("__debug__" : Str)) = false) (hn : (x == ("__classdict__" : Str)) = false) (hs : ∀ o i, subscripted ei false o i = operate [o, i] (getItem o i))
    (hK : ∀ b s', Ext c s s' → St c f ρ mo val fp s' → (∃ a vs n as, val i = .ref a ∧ fp i = a :: as ∧ IsL s'.heap a vs n ∧ ReadsAll s'.heap vs.toList rows as ∧ vs.toList[j.toNat]? = some (.ref b) ∧ b ∈ as) → K (.ref b) s') :
    wpAny c.M f.A (eval (.Subscript (.Name x xp) ei sp) f.env) K E s := by
  refine Subscript_ (name_step S hat (fun r0 => hi.bind S fun iv s2 as2 x2 S2 r2 _ => ?_) hdb hn)
  cases r2
  obtain ⟨a, vs, n, as, b, ws, m, cs, hva, hfp, hl, hr, hv, hlb, hrb, hb⟩ := owned_row S2 hat.slot hj
  rw [hva]
  refine tail_any (T := "list") ⟨_, hl, rfl⟩ slot_list_getitem.lookup ?_ (hs _ _)
  exact wpAny_getItem_list ⟨_, hl, rfl, _, rfl⟩ h0 hfit (by simpa using hv) (hK b s2 x2 S2 ⟨a, vs, n, as, hva, hfp, hl, hr, hv, hb⟩)

/-- x[i].append(e), flat rows -/
theorem ex_append2 {j1 : Int} {rows cells : List PyData} (FS : FmS c f) (hat : At f.xs ρ x ⟨.ow, .list rows⟩ i) (hi1 : Ev c f ρ er (.int j1) k2) (h : Ev c f ρ e d k) (hd : flat d = true)
    (h01 : 0 ≤ j1) (hfit1 : j1 < 2 ^ 63) (hrow : rows[j1.toNat]? = some (.list cells)) (hcf : flats cells = true) (hsz : cells.length ≤ sizeLine)
    (hQ : Q .next (ρ.set i (some ⟨.ow, .list (rows.set j1.toNat (.list (cells ++ [d])))⟩)))
    (hdb : (x == ("__debug__" : Str)) = false := by decide +kernel) (hn : (x == ("__classdict__" : Str)) = false := by decide +kernel) (hs2 : ∀ o i, subscripted er false o i = operate [o, i] (getItem o i) := by intros; rfl)
    (hbase : ∀ env, attributeBase (.Subscript (.Name x xp) er sp) "append" env (eval (.Subscript (.Name x xp) er sp) env) = eval (.Subscript (.Name x xp) er sp) env := by intro _; rfl) (hline : (ap.endLine == cp.line) = true := by rfl)
    (htrees : ∀ env, backTo cp (starEach [e] env) = [(false, eval e env)] := by intro _; rfl)
    (hsw : ∀ env, swapsWith (.Call (.Attribute (.Subscript (.Name x xp) er sp) "append" ap) [e] [] cp) none pos.line env = pure false := by intro _; rfl) :
    Ex1 c f (.Expr (.Call (.Attribute (.Subscript (.Name x xp) er sp) "append" ap) [e] [] cp) pos) ρ Q := fun mo val fp s S => by
  have hint : interactive f.env = false := by unfold interactive; rw [S.ok.kind]; rfl
  refine wpAny_Expr_any ?_ hint (hsw _)
  refine wpAny_Call_method1_late (hbase _) hline (htrees _) (row_step S hat hi1 h01 hfit1 hrow hdb hn hs2 fun b s2 x2 S2 hrb => ?_)
  have e0 := hat.slot
  obtain ⟨a2, vs2, n2, as2, hva2, hfp2, hl2, hr2, hvb2, hb2⟩ := hrb
  have hbfp : b ∈ fp i := by rw [hfp2]; exact List.mem_cons_of_mem _ hb2
  obtain ⟨ob, hob, hlob, hdn, _⟩ := S2.moPl b ((S2.own i _ e0 rfl).2 b hbfp)
  obtain ⟨a, vs, n, as, b', ws, m, cs, hva, hfp, hl, hr, hvb, hlb, hrb, hb⟩ := owned_row S2 e0 hrow
  have hbb : b' = b := by
    rw [hva2] at hva; cases hva
    have q' := Option.some.inj (hl2.symm.trans hl)
    cases q'
    rw [hvb2] at hvb; cases hvb; rfl
  subst hbb
  refine ⟨"list", "list.append", F.plainAttrs_list, F.slot_list_append, F.type_list_append, ⟨_, hlb, rfl⟩, fun a' q => by cases q; exact ⟨_, hlb, rfl⟩, ?_⟩
  refine P.append_list (h.bind S2 fun v s3 as1 x3 S3 r1 ko => ?_)
  have hlb3 : IsL s3.heap b' ws m := listOrDict_ext S2.wf x3 hlb (.inl ⟨rfl, _, _, rfl⟩)
  have hla3 : IsL s3.heap a vs n := listOrDict_ext S2.wf x3 hl (.inl ⟨rfl, _, _, rfl⟩)
  have hlen : ws.size = cells.length := by simpa using readsAll_length hrb
  refine ⟨ws, m, by omega, hlb3, ?_⟩
  have hl4 := hlb3.update (fun xs => xs.push v)
  have hsb : Heap.SameBut b' s3.heap (s3.heap.update b' (Obj.mapSeq fun xs => xs.push v)) := sameBut_update ..
  have nd := (S3.own i _ e0 rfl).1
  rw [hfp] at nd
  have hab : b' ≠ a := fun q => (List.nodup_cons.mp nd).1 (q ▸ hb)
  have r1' := reads_but hsb (isL_notTup hlb3) (by rw [reads_flat r1 hd]; nofun) r1
  rw [reads_flat r1 hd] at r1'
  have hcs := readsAll_flat hrb hcf
  subst hcs
  have hrb2 := readsAll_but hsb (isL_notTup hlb3) (by simp) (x3.readsAll S2.wf hrb)
  have new : Reads (s3.heap.update b' (Obj.mapSeq fun xs => xs.push v)) (.ref b') (.list (cells ++ [d])) [b'] :=
    .list hl4 rfl rfl (by rw [Array.toList_push]; exact readsAll_snoc hrb2 r1')
  refine mut0 (d' := .list (rows.set j1.toNat (.list (cells ++ [d])))) (tk := s3.toks) FS S (x2.trans x3) e0 (by rw [hfp]; exact List.mem_cons_of_mem _ hb) hsb (Pl.of_isL hl4) ?_ hQ
  rw [hva, hfp]
  have hla : IsL (s3.heap.update b' (Obj.mapSeq fun xs => xs.push v)) a vs n := (hsb.2 a (fun q => hab q.symm)).trans hla3
  exact .list hla rfl rfl (readsAll_row hcf hsb.2 (isL_notTup hlb3) new (x3.readsAll S2.wf hr) (List.nodup_cons.mp nd).2 hvb hrow)
end
end Mine

namespace Mine
open PySem PySem.Spec PySem.Calls PyProof.Rows

def clOf (env : Env) : List (Str × NameKind) → List (Str × Addr) → List (Str × Addr)
  | [], acc => acc
  | (n, k) :: r, acc => if k == .free then clOf env r ((n, (env.cells.lookup n).getD 0) :: acc) else clOf env r acc

theorem closureFor_eq {scope : Scope} {env : Env} (h : ∀ x ∈ scope.names, x.2 = .free → ∃ a, env.cells.lookup x.1 = some a) : closureFor scope env = pure (clOf env scope.names []) := by
  simp only [closureFor]
  have key : ∀ (l : List (Str × NameKind)) (acc : List (Str × Addr)), (∀ x ∈ l, x.2 = .free → ∃ a, env.cells.lookup x.1 = some a) →
      (forIn l acc fun x (r : List (Str × Addr)) => if (x.2 == NameKind.free) = true then do let a ← cellOf env x.1; pure (ForInStep.yield ((x.1, a) :: r)) else pure (ForInStep.yield r) : Sem (List (Str × Addr))) = pure (clOf env l acc) := by
    intro l
    induction l with
    | nil => intro acc _; rfl
    | cons y l ih =>
      intro acc hy
      obtain ⟨n, kd⟩ := y
      rw [List.forIn_cons, clOf]
      by_cases hk : (kd == NameKind.free) = true
      · obtain ⟨a, ha⟩ := hy (n, kd) (List.mem_cons_self ..) (by simpa using hk)
        simp only at ha
        simp only [hk, if_true, cellOf, ha, pure_bind, Option.getD_some]
        exact ih _ fun x hx => hy x (List.mem_cons_of_mem _ hx)
      · simp only [hk, if_false, pure_bind, Bool.false_eq_true]
        exact ih _ fun x hx => hy x (List.mem_cons_of_mem _ hx)
  have := key scope.names [] h
  first
    | (rw [show (forIn scope.names ([] : List (Str × Addr)) _ : Sem _) = _ from this]; rfl)
    | (simp only [bind_pure]; exact this)
    | (simpa using this)

theorem clOf_lookup {env : Env} {x : Str} {a : Addr} (hx : env.cells.lookup x = some a) : ∀ (names : List (Str × NameKind)) (acc : List (Str × Addr)), ((x, NameKind.free) ∈ names ∨ acc.lookup x = some a) → (∀ b, acc.lookup x = some b → b = a) → (clOf env names acc).lookup x = some a
  | [], acc, h, _ => h.elim (fun q => by cases q) id
  | (n, k) :: r, acc, h, hc => by
    rw [clOf]
    by_cases hk : (k == NameKind.free) = true
    · rw [if_pos hk]
      by_cases hn : x = n
      · subst hn
        refine clOf_lookup hx r _ (.inr ?_) fun b q => ?_
        · rw [List.lookup_cons_self, hx]; rfl
        · rw [List.lookup_cons_self, hx] at q; cases q; rfl
      · have hb : (x == n) = false := beq_eq_false_iff_ne.mpr hn
        refine clOf_lookup hx r _ (h.imp (fun q => ?_) fun q => ?_) fun b q => ?_
        · rcases List.mem_cons.mp q with q | q
          · cases q; exact absurd rfl hn
          · exact q
        · rw [List.lookup_cons, hb]; exact q
        · rw [List.lookup_cons, hb] at q; exact hc b q
    · rw [if_neg hk]
      refine clOf_lookup hx r _ (h.imp (fun q => ?_) id) hc
      rcases List.mem_cons.mp q with q | q
      · cases q; exact absurd rfl hk
      · exact q
theorem clOf_sound {env : Env} {x : Str} {a : Addr} : ∀ (names : List (Str × NameKind)) (acc : List (Str × Addr)), (∀ y ∈ names, y.2 = .free → ∃ a, env.cells.lookup y.1 = some a) → (∀ b, acc.lookup x = some b → env.cells.lookup x = some b) → (clOf env names acc).lookup x = some a → env.cells.lookup x = some a
  | [], acc, _, h, e => h a e
  | (n, k) :: r, acc, hy, h, e => by
    rw [clOf] at e
    have hy' : ∀ y ∈ r, y.2 = .free → ∃ a, env.cells.lookup y.1 = some a := fun y q => hy y (List.mem_cons_of_mem _ q)
    by_cases hk : (k == NameKind.free) = true
    · rw [if_pos hk] at e
      refine clOf_sound r _ hy' (fun b q => ?_) e
      by_cases hn : x = n
      · subst hn
        rw [List.lookup_cons_self] at q
        obtain ⟨a', ha'⟩ := hy (x, k) (List.mem_cons_self ..) (by simpa using hk)
        simp only at ha'
        rw [ha'] at q ⊢; simpa using q
      · have hb : (x == n) = false := beq_eq_false_iff_ne.mpr hn
        rw [List.lookup_cons, hb] at q; exact h b q
    · rw [if_neg hk] at e
      exact clOf_sound r _ hy' h e
theorem cellsFrom_not {x : Str} : ∀ (names : List (Str × NameKind)) (n : Nat) (acc : List (Str × Addr)), (x, NameKind.cell) ∉ names → (cellsFrom n names acc).lookup x = acc.lookup x
  | [], _, _, _ => rfl
  | (y, k) :: r, n, acc, h => by
    rw [cellsFrom]
    have h' : (x, NameKind.cell) ∉ r := fun q => h (List.mem_cons_of_mem _ q)
    by_cases hk : (k == NameKind.cell) = true
    · rw [if_pos hk, cellsFrom_not r _ _ h']
      have hb : (x == y) = false := beq_eq_false_iff_ne.mpr fun q => h (by
        have : k = .cell := by simpa using hk
        rw [q, this]; exact List.mem_cons_self ..)
      rw [List.lookup_cons, hb]
    · rw [if_neg hk, cellsFrom_not r _ _ h']
theorem cellsFrom_own {x : Str} : ∀ (names : List (Str × NameKind)) (h : Heap) (acc : List (Str × Addr)), (x, NameKind.cell) ∈ names →
    ∃ a, (cellsFrom h.objs.size names acc).lookup x = some a ∧ (pushCells h names).IsCell a none ∧ h.get? a = none
  | [], _, _, h => by cases h
  | (y, k) :: r, h, acc, hm => by
    rw [cellsFrom, pushCells]
    by_cases hr : (x, NameKind.cell) ∈ r
    · by_cases hk : (k == NameKind.cell) = true
      · rw [if_pos hk, if_pos hk]
        obtain ⟨a, h1, h2, h3⟩ := cellsFrom_own r (h.push { cls := .type "cell", data := .cell none }) ((y, h.objs.size) :: acc) hr
        rw [Heap.size_push] at h1
        refine ⟨a, h1, h2, ?_⟩
        cases e : h.get? a with
        | none => rfl
        | some o => rw [Heap.get?_push_of_some _ e] at h3; cases h3
      · rw [if_neg hk, if_neg hk]; exact cellsFrom_own r h acc hr
    · rcases List.mem_cons.mp hm with q | q
      · cases q
        have hcc : (NameKind.cell == NameKind.cell) = true := by decide
        rw [if_pos hcc, if_pos hcc]
        refine ⟨h.objs.size, ?_, ?_, get_size_none h⟩
        · rw [cellsFrom_not r _ _ hr, List.lookup_cons_self]
        · exact ⟨_, pushCells_keeps r _ _ _ (Heap.get?_push_size _ rfl), rfl⟩
      · exact absurd q hr

theorem relabel_lookup {env : Env} {x : Str} {k : NameKind} : ∀ {names : List (Str × NameKind)}, names.lookup x = some k →
    ((names.map fun (n, k) => if (k == NameKind.free && env.scope.kind == .function && env.kindOf n == some .cell) then (n, NameKind.cell) else (n, k)).lookup x = some k) ∨
      (k = .free ∧ (names.map fun (n, k) => if (k == NameKind.free && env.scope.kind == .function && env.kindOf n == some .cell) then (n, NameKind.cell) else (n, k)).lookup x = some .cell)
  | [], h => by simp at h
  | (n, k') :: r, h => by
    have ih := @relabel_lookup env x k r
    simp only [List.map_cons]
    cases hx : x == n with
    | true =>
      simp only [List.lookup_cons, hx] at h
      cases h
      by_cases hc : (k == NameKind.free && env.scope.kind == .function && env.kindOf n == some .cell) = true
      · rw [if_pos hc]
        have hkf : k = .free := by
          have := (Bool.and_eq_true_iff.mp (Bool.and_eq_true_iff.mp hc).1).1
          simpa using this
        exact .inr ⟨hkf, by simp [List.lookup_cons, hx]⟩
      · rw [if_neg hc]
        exact .inl (by simp [List.lookup_cons, hx])
    | false =>
      simp only [List.lookup_cons, hx] at h
      have := ih h
      by_cases hc : (k' == NameKind.free && env.scope.kind == .function && env.kindOf n == some .cell) = true
      · rw [if_pos hc]; simp only [List.lookup_cons, hx]; exact this
      · rw [if_neg hc]; simp only [List.lookup_cons, hx]; exact this

def chEnv (scope : Scope) (C : Addr) (env : Env) : Env :=
  { scope := relabel scope env, locals := C, globals := env.globals, cells := cellsFrom (C + 1) scope.names (clOf env scope.names []), qual := env.qual, func := none, code := env.code, frame := env.frame, builtins := env.builtins }

theorem newEnv_comp {M : Model} {A : Around} {E : Value → Shared → Prop} {s : Shared} {scope : Scope} {env : Env} {cl : List (Str × Addr)} {Q : Env → Shared → Prop}
    (h : Q { scope := scope, locals := s.heap.objs.size, globals := env.globals, cells := cellsFrom (s.heap.objs.size + 1) scope.names cl, qual := env.qual, func := none, code := env.code, frame := env.frame, builtins := env.builtins }
      { s with heap := pushCells (s.heap.push { cls := .type "dict", data := .dict #[] }) scope.names }) :
    wpAny M A (newFunctionEnv scope env.globals cl [] env.qual none .none (some env)) Q E s := by
  simp only [newFunctionEnv, Option.isSome_some, if_true]
  refine wpAny_bind (wpAny_alloc ?_)
  refine wpAny_bind (wpAny_layCells _ (fun name kind cells => by cases hkc : kind == NameKind.cell <;> simp [hkc]) _ _ _ _ ?_)
  rw [show ({ s with heap := s.heap.push { cls := .type "dict", data := .dict #[] } } : Shared).heap.objs.size = s.heap.objs.size + 1 from Heap.size_push ..]
  simp only [List.forIn_nil]
  first
    | exact wpAny_bind (wpAny_pure (wpAny_pure h))
    | exact wpAny_pure (wpAny_pure h)
    | exact wpAny_pure h

/-- the frame of a comprehension: its own name, and those that it takes from around -/
def chFm (f : Fm) (scope : Scope) (C : Addr) (x : Str) (cp : List Nat) : Fm := ⟨chEnv scope C f.env, f.A, f.h₀, x :: cp.map (fun j => f.xs.getD j default), f.lv⟩
def chRho (ρ : Rho) (cp : List Nat) (sl : Slot) : Rho := some sl :: cp.map fun j => (ρ[j]?).join

structure CompOk (c : Cx) (f : Fm) (ρ : Rho) (scope : Scope) (x : Str) (cp : List Nat) : Prop where
  kind : scope.kind = .function
  names : ∀ y ∈ scope.names, y.2 = .local → scope.names.lookup y.1 = some .local
  loopv : scope.names.lookup x = some .local ∨ (scope.names.lookup x = some .cell ∧ (x, NameKind.cell) ∈ scope.names)
  free : ∀ y ∈ scope.names, y.2 = .free → ∃ a, f.env.cells.lookup y.1 = some a
  nd : cp.Nodup
  cap : ∀ j ∈ cp, ∃ y, f.xs[j]? = some y ∧ scope.names.lookup y = some .free ∧ (y, NameKind.free) ∈ scope.names ∧ (y, NameKind.cell) ∉ scope.names ∧ (f.env.kindOf y = some .cell ∨ f.env.kindOf y = some .free)

def Ifs (c : Cx) (f : Fm) (ρ : Rho) (ifs : List Expr) (b : Bool) : Prop :=
  ∀ mo val fp s E, St c f ρ mo val fp s → wpAny c.M f.A (forIn ifs true fun c r => if r = true then do let ok ← isTrue c f.env (eval c f.env); pure (ForInStep.yield ok) else pure (ForInStep.yield r))
    (fun ok s' => ok = b ∧ Ext c s s') E s
theorem ifs_nil {c : Cx} {f : Fm} {ρ : Rho} : Ifs c f ρ [] true := fun mo val fp s E S => by
  rw [List.forIn_nil]; exact wpAny_pure ⟨rfl, Ext.refl S.wf⟩
/-- the value that a comprehension's own name may have: how its slot is filled -/
inductive Fills3 : EK → List PyData → K → Prop
  | sh {ds : List PyData} : Fills3 .sh ds .sh
  | lo {ds : List PyData} : Fills3 .lo ds .lo
  | fr {ds : List PyData} : Fills3 .fr ds .lo
  | flat {k : EK} {ds : List PyData} {sk : K} : (∀ d ∈ ds, flat d = true) → sk ≠ .ow → Fills3 k ds sk
theorem Fills3.ne {k : EK} {ds : List PyData} {sk : K} (h : Fills3 k ds sk) : sk ≠ .ow := by cases h <;> first | assumption | (intro q; cases q)

theorem Wf.but {c : Cx} {s : Shared} {h' : Heap} {tk : Nat} {wr : List Addr} (W : Wf c s) (hk : ∀ b o, b ∉ wr → s.heap.get? b = some o → h'.get? b = some o) (hB : ∀ b ∈ wr, c.hB.get? b = none) (hX : ∀ b ∈ wr, ¬ c.X b) : Wf c { s with heap := h', toks := tk } where
  base := fun b o n e => hk b o (fun q => by rw [hB b q] at e; cases e) (W.base b o n e)
  tab := fun b x => let ⟨ps, e⟩ := W.tab b x; ⟨ps, hk b _ (fun q => hX b q x) e⟩
  old := oldK_but W.old hB hk
  gens := W.gens
  os := W.os

section
variable {c : Cx} {f : Fm} {ρ : Rho} {mo : Addr → Prop} {val : Nat → Value} {fp : Nat → List Addr} {s : Shared} {E : Value → Shared → Prop}

/-- the state of a comprehension's frame -/
theorem child_St {scope : Scope} {x : Str} {cp : List Nat} {C : Addr} {sk : K} {d : PyData} {v : Value} {bs : List Addr} {s' : Shared} (CO : CompOk c f ρ scope x cp) (S : St c f ρ mo val fp s) (x1 : Ext c s s')
    (hC : s.heap.get? C = none) (hns : ∃ m, s'.heap.Ns C m) (hown : ∀ y, (y, NameKind.cell) ∈ scope.names → ∀ a, (chEnv scope C f.env).cells.lookup y = some a → ∃ v, s'.heap.IsCell a v)
    (hld : Loads (chEnv scope C f.env) s'.heap x v) (r : Reads s'.heap v d bs) (hsk : sk ≠ .ow) (hbs : ∀ a ∈ bs, ¬ mo a) (hlo : sk = .lo → ∀ a ∈ bs, f.h₀.get? a = none) (hCb : C ∉ bs) :
    St c (chFm f scope C x cp) (chRho ρ cp ⟨sk, d⟩) mo (fun i => match i with | 0 => v | i + 1 => val (cp.getD i 0)) (fun i => match i with | 0 => bs | i + 1 => fp (cp.getD i 0)) s' := by
  have S' := S.ext x1
  have slot : ∀ i sl, (chRho ρ cp ⟨sk, d⟩)[i]? = some (some sl) → (i = 0 ∧ sl = ⟨sk, d⟩) ∨ ∃ i', i = i' + 1 ∧ ∃ j, cp[i']? = some j ∧ cp.getD i' 0 = j ∧ ρ[j]? = some (some sl) := fun i sl e => by
    cases i with
    | zero => simp [chRho] at e; exact .inl ⟨rfl, e.symm⟩
    | succ i =>
      refine .inr ⟨i, rfl, ?_⟩
      simp only [chRho, List.getElem?_cons_succ, List.getElem?_map] at e
      cases hj : cp[i]? with
      | none => rw [hj] at e; simp at e
      | some j =>
        rw [hj] at e
        simp only [Option.map_some, Option.some.injEq] at e
        refine ⟨j, rfl, by rw [List.getD_eq_getElem?_getD, hj]; rfl, ?_⟩
        cases hr : ρ[j]? with
        | none => rw [hr] at e; simp at e
        | some o => rw [hr] at e; simp at e; rw [e]
  refine ⟨x1.wf, ⟨?_, S.ok.glob, S.ok.bi, S.ok.room, S.ok.base⟩, S'.keep, hns, fun y a e => ?_, fun i sl e => ?_, fun i sl e ho => ?_, fun i sl e ho => ?_, fun i sl e hl => ?_, fun i j sl sl' hne e e' ho ho' => ?_, S'.moNew, S'.moPl, fun h => ?_, fun i sl e => ?_⟩
  · show (relabel scope f.env).kind = .function
    exact CO.kind
  · by_cases hy : (y, NameKind.cell) ∈ scope.names
    · exact hown y hy a e
    · have e' : (cellsFrom (C + 1) scope.names (clOf f.env scope.names [])).lookup y = some a := e
      rw [cellsFrom_not _ _ _ hy] at e'
      have := clOf_sound scope.names [] CO.free (fun b q => by simp at q) e'
      exact S'.cells y a this
  · rcases slot i sl e with ⟨rfl, rfl⟩ | ⟨i', rfl, j, h1, h2, h3⟩
    · exact ⟨x, rfl, hld, r⟩
    · obtain ⟨y, g1, g2, g3⟩ := S'.var j sl h3
      obtain ⟨y', q1, q2, q3, q4, q5⟩ := CO.cap j (List.mem_of_getElem? h1)
      obtain rfl : y' = y := by rw [q1] at g1; exact Option.some.inj g1
      refine ⟨y', ?_, ?_, by simp only [h2]; exact g3⟩
      · simp only [chFm, List.getElem?_cons_succ, List.getElem?_map, h1, Option.map_some, List.getD_eq_getElem?_getD, q1, Option.getD_some]
      · simp only [h2]
        rcases g2 with ⟨k1, _⟩ | ⟨k1, a, k2, k3⟩
        · rcases q5 with q5 | q5 <;> rw [k1] at q5 <;> cases q5
        · refine .inr ⟨?_, a, ?_, k3⟩
          · rcases relabel_lookup (env := f.env) q2 with h | ⟨_, h⟩
            · exact .inr h
            · exact .inl h
          · show (cellsFrom (C + 1) scope.names (clOf f.env scope.names [])).lookup y' = some a
            rw [cellsFrom_not _ _ _ q4]
            exact clOf_lookup k2 scope.names [] (.inl q3) (fun b q => by simp at q)
  · rcases slot i sl e with ⟨rfl, rfl⟩ | ⟨i', rfl, j, h1, h2, h3⟩
    · exact absurd ho hsk
    · simp only [h2]; exact S.own j sl h3 ho
  · rcases slot i sl e with ⟨rfl, rfl⟩ | ⟨i', rfl, j, h1, h2, h3⟩
    · exact hbs
    · simp only [h2]; exact S.shr j sl h3 ho
  · rcases slot i sl e with ⟨rfl, rfl⟩ | ⟨i', rfl, j, h1, h2, h3⟩
    · exact hlo hl
    · simp only [h2]; exact S.loc j sl h3 hl
  · rcases slot i sl e with ⟨rfl, rfl⟩ | ⟨i', rfl, ji, h1, h2, h3⟩ <;> rcases slot j sl' e' with ⟨rfl, rfl⟩ | ⟨j', rfl, jj, h1', h2', h3'⟩
    · exact absurd rfl hne
    · exact absurd ho hsk
    · exact absurd ho' hsk
    · simp only [h2, h2']
      refine S.apart ji jj sl sl' (fun q => hne ?_) h3 h3' ho ho'
      subst q
      have hl1 : i' < cp.length := (List.getElem?_eq_some_iff.mp h1).1
      rw [(List.getElem?_inj hl1 CO.nd).mp (h1.trans h1'.symm)]
  · obtain ⟨o, q, _⟩ := S.moIn C h; rw [hC] at q; cases q
  · rcases slot i sl e with ⟨rfl, rfl⟩ | ⟨i', rfl, j, h1, h2, h3⟩
    · exact hCb
    · simp only [h2]
      intro q
      obtain ⟨_, _, _, rj⟩ := S.var j sl h3
      obtain ⟨o, ho, _⟩ := reads_objs rj _ q
      have : s.heap.get? C = some o := ho
      rw [hC] at this; cases this

theorem comp_core {elt iter : Expr} {x : Str} {xp : Pos} {ifs : List Expr} {scope : Scope} {pos : Pos} {cp : List Nat} {α : Type} {enc : α → PyData} {xs : List α} {k0 : EK} {sk : K} {p : α → Bool} {g : α → PyData}
    (CO : CompOk c f ρ scope x cp) (h : It c f ρ iter (xs.map enc) k0) (hk : Fills3 k0 (xs.map enc) sk) (hsz : xs.length ≤ sizeLine)
    (ht : ∀ C, ∀ el ∈ xs, Ifs c (chFm f scope C x cp) (chRho ρ cp ⟨sk, enc el⟩) ifs (p el))
    (he : ∀ C, ∀ el ∈ xs, p el = true → Ev c (chFm f scope C x cp) (chRho ρ cp ⟨sk, enc el⟩) elt (g el) .fr)
    {RR : Value → Addr → Result → Shared → Prop} (S : St c f ρ mo val fp s)
    (hRR : ∀ D C s' as, Ext c s s' → s.heap.get? D = none → s.heap.get? C = none → D ≠ C → (∃ m, s'.heap.Ns C m) → Reads s'.heap (.ref D) (.list ((xs.filter p).map g)) (D :: as) → (D :: as).Nodup → (∀ a ∈ D :: as, s.heap.get? a = none) → (∀ a ∈ D :: as, Pl s'.heap a) → C ∉ as →
      RR (.ref D) C (.ok .next) s') :
    wpAny c.M f.A (eval iter f.env) (fun xv s₁ => wpAny c.M f.A (pyIter xv) (fun it s₂ => wpAny c.M f.A (newList []) (fun acc s₃ =>
      wpAny c.M f.A (newFunctionEnv scope f.env.globals (clOf f.env scope.names []) [] f.env.qual none .none (some f.env)) (fun cenv s₄ =>
        codeAny c.M f.A (.compStart (.ListComp elt [⟨.Name x xp, iter, ifs, 0⟩] scope pos) 0 it acc { cenv with scope := relabel scope f.env }) (RR acc cenv.locals) s₄) E s₃) E s₂) E s₁) E s := by
  have base := S.ok.base
  refine wpAny_mono (h mo val fp s E S) (fun xv s1 h1 => wpAny_mono h1 (fun it s2 ⟨x2, I, Fp, wr, P, Sx, as0, e, T⟩ => ?_) fun _ _ z => z) fun _ _ z => z
  subst e
  have hW := T.walks
  rw [List.length_map] at hW
  have S2 := S.ext x2
  have wrH0 : ∀ b ∈ wr, f.h₀.get? b = none := fun b hb => S.keep.none (T.new b hb)
  have wrHB : ∀ b ∈ wr, c.hB.get? b = none := fun b hb => base.none (wrH0 b hb)
  have wrX : ∀ b ∈ wr, ¬ c.X b := fun b hb => T.nX b (hW.sub b hb)
  refine wpAny_newList ?_ (by simp)
  refine newEnv_comp ?_
  -- the places
  generalize hD : s2.heap.objs.size = D
  have hDs2 : s2.heap.get? D = none := by rw [← hD]; exact get_size_none _
  have hDs : s.heap.get? D = none := x2.up.none hDs2
  generalize hH3 : s2.heap.push { cls := .type "list", data := .seq ([] : List Value).toArray } = H3
  have hC' : H3.objs.size = D + 1 := by rw [← hH3, Heap.size_push, hD]
  generalize hC : H3.objs.size = C
  have hk3 : ∀ b o, s2.heap.get? b = some o → H3.get? b = some o := fun b o e => by rw [← hH3]; exact Heap.get?_push_of_some _ e
  have hCs3 : H3.get? C = none := by rw [← hC]; exact get_size_none _
  have hCs2 : s2.heap.get? C = none := by
    cases q : s2.heap.get? C with
    | none => rfl
    | some o => rw [hk3 C o q] at hCs3; cases hCs3
  have hCs : s.heap.get? C = none := x2.up.none hCs2
  have hDC : D ≠ C := by rw [← hC, hC']; exact Nat.ne_of_lt (Nat.lt_succ_self _)
  have hDin : H3.get? D = some { cls := .type "list", data := .seq ([] : List Value).toArray } := by rw [← hH3, ← hD]; exact Heap.get?_push_size _ rfl
  show codeAny c.M f.A (.compStart (.ListComp elt [⟨.Name x xp, iter, ifs, 0⟩] scope pos) 0 (.ref I) (.ref D)
    { scope := relabel scope f.env, locals := C, globals := f.env.globals, cells := cellsFrom (C + 1) scope.names (clOf f.env scope.names []), qual := f.env.qual, func := none, code := f.env.code, frame := f.env.frame, builtins := f.env.builtins }) (RR (.ref D) C) _
  change codeAny c.M f.A (.compStart (.ListComp elt [⟨.Name x xp, iter, ifs, 0⟩] scope pos) 0 (.ref I) (.ref D) (chEnv scope C f.env)) (RR (.ref D) C) { s2 with heap := pushCells (H3.push { cls := .type "dict", data := .dict #[] }) scope.names }
  generalize hH4 : pushCells (H3.push { cls := .type "dict", data := .dict #[] }) scope.names = H4
  have hk4 : ∀ b o, H3.get? b = some o → H4.get? b = some o := fun b o e => by rw [← hH4]; exact pushCells_keeps _ _ _ _ (Heap.get?_push_of_some _ e)
  have hk24 : ∀ b o, s2.heap.get? b = some o → H4.get? b = some o := fun b o e => hk4 b o (hk3 b o e)
  have ns4 : H4.Ns C fun _ => none := by rw [← hH4, ← hC]; exact (Heap.Ns.new H3 (.type "dict")).keeps (pushCells_keeps _ _)
  have own4 : ∀ y, (y, NameKind.cell) ∈ scope.names → ∃ a, (chEnv scope C f.env).cells.lookup y = some a ∧ H4.IsCell a none ∧ s2.heap.get? a = none ∧ a ≠ D ∧ a ≠ C := fun y hy => by
    obtain ⟨a, q1, q2, q3⟩ := cellsFrom_own scope.names (H3.push { cls := .type "dict", data := .dict #[] }) (clOf f.env scope.names []) hy
    rw [Heap.size_push, hC] at q1
    rw [hH4] at q2
    have n3 : H3.get? a = none := by
      cases q : H3.get? a with
      | none => rfl
      | some o => rw [Heap.get?_push_of_some _ q] at q3; cases q3
    refine ⟨a, q1, q2, ?_, ?_, ?_⟩
    · cases q : s2.heap.get? a with
      | none => rfl
      | some o => rw [hk3 a o q] at n3; cases n3
    · rintro rfl; rw [hDin] at n3; cases n3
    · rintro rfl
      obtain ⟨o, ho, hd⟩ := q2
      obtain ⟨o2, es, ep, ho2, hd2, _⟩ := ns4
      rw [ho] at ho2; cases ho2; rw [hd] at hd2; cases hd2
  have asIn2 : ∀ a ∈ as0, ∃ o, s2.heap.get? a = some o := fun a ha => let ⟨o, q, _⟩ := T.asIn a ha; ⟨o, q⟩
  -- the loop
  have loop : codeAny c.M f.A (.compLoop (.ListComp elt [⟨.Name x xp, iter, ifs, 0⟩] scope pos) 0 (.ref I) (.ref D) (chEnv scope C f.env)) (RR (.ref D) C) { s2 with heap := H4 } := by
    refine codeAny_compLoop_tests (fun n s' => ∃ j ys m as, j ≤ xs.length ∧ n = xs.length + 1 - j ∧ Wf c s' ∧ (∀ b o, b ∉ wr → ¬ c.X b → s2.heap.get? b = some o → s'.heap.get? b = some o) ∧ (∀ b o, b ∉ wr → s2.heap.get? b = some o → ∃ o', s'.heap.get? b = some o') ∧ Sx j s'.heap ∧ (∃ m, s'.heap.Ns C m) ∧
        (∀ y, (y, NameKind.cell) ∈ scope.names → ∀ a, (chEnv scope C f.env).cells.lookup y = some a → ∃ v, s'.heap.IsCell a v) ∧ IsL s'.heap D ys m ∧ ReadsAll s'.heap ys.toList (((xs.take j).filter p).map g) as ∧ as.Nodup ∧
        (∀ a ∈ as, s2.heap.get? a = none ∧ a ≠ D ∧ a ≠ C) ∧ (∀ a ∈ as, Pl s'.heap a)) ?_ (xs.length + 1)
      ⟨0, #[], 0, [], Nat.zero_le _, rfl, (Ext.of S2.wf (s' := { s2 with heap := H4 }) hk24).wf, fun b o _ _ q => hk24 b o q, fun b o _ q => ⟨o, hk24 b o q⟩, hW.frame _ _ _ T.start (fun b _ o q => hk24 b o q), ⟨_, ns4⟩,
        fun y hy a q => by obtain ⟨a', q1, q2, _⟩ := own4 y hy; rw [q] at q1; cases q1; exact ⟨_, q2⟩, hk4 _ _ hDin, .nil, .nil, nofun, nofun⟩
    rintro n s' ⟨j, ys, m, as, hj, rfl, W', hk', th', hSx, hnsC, hcells, hlD, hrD, hnd, hfr, hpl⟩
    have wrF := T.fld j s'.heap hSx
    have notWr : ∀ b o, s'.heap.get? b = some o → (∀ vs, o.data ≠ .fields vs) → b ∉ wr := fun b o q hd hb => by
      obtain ⟨o2, vs, g1, g2⟩ := wrF b hb
      rw [q] at g1; cases g1; exact hd vs g2
    have hDw : D ∉ wr := notWr D _ hlD (by nofun)
    have xs' : Ext c s s' := ⟨⟨fun b o hX q => hk' b o (fun hb => by rw [T.new b hb] at q; cases q) hX (x2.up.kp b o hX q), fun b o q => by
        obtain ⟨o', q'⟩ := x2.up.th b o q
        exact th' b o' (fun hb => by rw [T.new b hb] at q; cases q) q'⟩, W'⟩
    by_cases hlt : j < xs.length
    · refine hW.item j s' _ _ hlt hSx fun v h3 tk hP hSx3 hk3' => ?_
      obtain ⟨el, hel⟩ : ∃ el, xs[j]? = some el := ⟨_, List.getElem?_eq_getElem hlt⟩
      have hd : (xs.map enc)[j]? = some (enc el) := by rw [List.getElem?_map, hel]; rfl
      have hdm := List.mem_of_getElem? hel
      obtain ⟨bs, hbs, r2⟩ := T.val j v (enc el) hP hd
      have W3 : Wf c { s' with heap := h3, toks := tk } := W'.but hk3' wrHB wrX
      have r3 : Reads h3 v (enc el) bs := by
        refine reads_upon r2 (fun a ha o q hpp => ?_) (fun a o q hc hdd => ?_)
        · have hX := not_tab S2.wf q (plainish_cls hpp)
          obtain ⟨o1, g1, g2⟩ := reads_objs r2 a ha
          rw [q] at g1; cases g1
          have hne : ∀ vs, o.data ≠ .fields vs := fun vs h => by rcases g2 with ⟨_, _, _, q⟩ | ⟨_, _, _, q⟩ <;> rw [h] at q <;> cases q
          have hw : a ∉ wr := fun hb => by
            obtain ⟨o2, vs, g3, g4⟩ := T.fld 0 s2.heap T.start a hb
            rw [q] at g3; cases g3; exact hne vs g4
          exact hk3' a o hw (hk' a o hw hX q)
        · have hX := not_tab S2.wf q (by rw [hc]; nofun)
          obtain ⟨vs', n', hdd⟩ := hdd
          have hw : a ∉ wr := fun hb => by
            obtain ⟨o2, vs, g3, g4⟩ := T.fld 0 s2.heap T.start a hb
            rw [q] at g3; cases g3; rw [hdd] at g4; cases g4
          exact hk3' a o hw (hk' a o hw hX q)
      obtain ⟨mC, hmC⟩ := hnsC
      have ns3 : h3.Ns C mC := by
        obtain ⟨o, es, ep, ho, hd', q⟩ := hmC
        exact ⟨o, es, ep, hk3' C o (notWr C o ho (by rw [hd']; nofun)) ho, hd', q⟩
      have cell3 : ∀ {a v}, s'.heap.IsCell a v → h3.IsCell a v := fun ⟨o, ho, hd'⟩ => ⟨o, hk3' _ o (notWr _ o ho (by rw [hd']; nofun)) ho, hd'⟩
      have hlD3 : IsL h3 D ys m := hk3' D _ hDw hlD
      -- the store of the loop's own name
      have hCbs : C ∉ bs := fun q => by obtain ⟨o, ho⟩ := asIn2 C (hbs.subset q); rw [hCs2] at ho; cases ho
      have hDbs : D ∉ bs := fun q => by obtain ⟨o, ho⟩ := asIn2 D (hbs.subset q); rw [hDs2] at ho; cases ho
      -- a state behind the store: one place pc has been changed, C or the cell of x
      have after : ∀ h4 tk4 pc, (pc = C ∨ ((x, NameKind.cell) ∈ scope.names ∧ (chEnv scope C f.env).cells.lookup x = some pc)) → Heap.SameBut pc h3 h4 → (∃ m, h4.Ns C m) → (∀ y, (y, NameKind.cell) ∈ scope.names → ∀ a, (chEnv scope C f.env).cells.lookup y = some a → ∃ v, h4.IsCell a v) →
          Loads (chEnv scope C f.env) h4 x v →
          wpAny c.M f.A (forIn ifs true fun c r => if r = true then do let ok ← isTrue c (chEnv scope C f.env) (eval c (chEnv scope C f.env)); pure (ForInStep.yield ok) else pure (ForInStep.yield r)) (fun ok s₃ =>
            if ok = true then wpAny c.M f.A (eval elt (chEnv scope C f.env)) (fun x s₄ =>
              wpAny c.M f.A (call (.builtin "list.append") [.ref D, x]) (fun _ s₅ => ∃ m, m < xs.length + 1 - j ∧ ∃ j ys m_1 as, j ≤ xs.length ∧ m = xs.length + 1 - j ∧ Wf c s₅ ∧ (∀ b o, b ∉ wr → ¬ c.X b → s2.heap.get? b = some o → s₅.heap.get? b = some o) ∧ (∀ b o, b ∉ wr → s2.heap.get? b = some o → ∃ o', s₅.heap.get? b = some o') ∧ Sx j s₅.heap ∧ (∃ m, s₅.heap.Ns C m) ∧
        (∀ y, (y, NameKind.cell) ∈ scope.names → ∀ a, (chEnv scope C f.env).cells.lookup y = some a → ∃ v, s₅.heap.IsCell a v) ∧ IsL s₅.heap D ys m_1 ∧ ReadsAll s₅.heap ys.toList (((xs.take j).filter p).map g) as ∧ as.Nodup ∧
        (∀ a ∈ as, s2.heap.get? a = none ∧ a ≠ D ∧ a ≠ C) ∧ (∀ a ∈ as, Pl s₅.heap a)) (notedBy c.M f.A (chEnv scope C f.env) fun e s' => RR (.ref D) C (.error e) s') s₄) (notedBy c.M f.A (chEnv scope C f.env) fun e s' => RR (.ref D) C (.error e) s') s₃
            else ∃ m, m < xs.length + 1 - j ∧ ∃ j ys m_1 as, j ≤ xs.length ∧ m = xs.length + 1 - j ∧ Wf c s₃ ∧ (∀ b o, b ∉ wr → ¬ c.X b → s2.heap.get? b = some o → s₃.heap.get? b = some o) ∧ (∀ b o, b ∉ wr → s2.heap.get? b = some o → ∃ o', s₃.heap.get? b = some o') ∧ Sx j s₃.heap ∧ (∃ m, s₃.heap.Ns C m) ∧
        (∀ y, (y, NameKind.cell) ∈ scope.names → ∀ a, (chEnv scope C f.env).cells.lookup y = some a → ∃ v, s₃.heap.IsCell a v) ∧ IsL s₃.heap D ys m_1 ∧ ReadsAll s₃.heap ys.toList (((xs.take j).filter p).map g) as ∧ as.Nodup ∧
        (∀ a ∈ as, s2.heap.get? a = none ∧ a ≠ D ∧ a ≠ C) ∧ (∀ a ∈ as, Pl s₃.heap a)) (notedBy c.M f.A (chEnv scope C f.env) fun e s' => RR (.ref D) C (.error e) s') { s' with heap := h4, toks := tk4 } := by
        intro h4 tk4 pc hpc hsb ns4' cells4 ld4
        have pcObj : ∃ o, h3.get? pc = some o ∧ ((∃ es n, o.data = .dict es n) ∨ ∃ v, o.data = .cell v) := by
          rcases hpc with rfl | ⟨hx, hl⟩
          · obtain ⟨o, es, ep, ho, hd', _⟩ := ns3; exact ⟨o, ho, .inl ⟨es, ep, hd'⟩⟩
          · obtain ⟨v0, q⟩ := hcells x hx pc hl
            obtain ⟨o, ho, hd'⟩ := cell3 q; exact ⟨o, ho, .inr ⟨v0, hd'⟩⟩
        have pcNew : s2.heap.get? pc = none := by
          rcases hpc with rfl | ⟨hx, hl⟩
          · exact hCs2
          · obtain ⟨a, q1, _, q3, _⟩ := own4 x hx; rw [hl] at q1; cases q1; exact q3
        have pcD : pc ≠ D := by
          rcases hpc with rfl | ⟨hx, hl⟩
          · exact hDC.symm
          · obtain ⟨a, q1, _, _, q4, _⟩ := own4 x hx; rw [hl] at q1; cases q1; exact q4
        have pcX : ¬ c.X pc := fun hx => by
          obtain ⟨o, ho, hd'⟩ := pcObj
          obtain ⟨ps, q⟩ := W3.tab pc hx
          rw [show ({ s' with heap := h3, toks := tk } : Shared).heap.get? pc = some o from ho] at q; cases q
          rcases hd' with ⟨_, _, h⟩ | ⟨_, h⟩ <;> cases h
        have pcB : c.hB.get? pc = none := base.none (S.keep.none (x2.up.none pcNew))
        have W4 : Wf c { s' with heap := h4, toks := tk4 } := W3.sameBut hsb pcB pcX
        have k34 : ∀ b o, b ≠ pc → h3.get? b = some o → h4.get? b = some o := fun b o hb q => (hsb.2 b hb).trans q
        have k24 : ∀ b o, b ∉ wr → ¬ c.X b → s2.heap.get? b = some o → h4.get? b = some o := fun b o hb hX q => k34 b o (fun h => by rw [h, pcNew] at q; cases q) (hk3' b o hb (hk' b o hb hX q))
        have th24 : ∀ b o, b ∉ wr → s2.heap.get? b = some o → ∃ o', h4.get? b = some o' := fun b o hb q => by
          obtain ⟨o', q'⟩ := th' b o hb q
          exact ⟨o', k34 b o' (fun h => by rw [h, pcNew] at q; cases q) (hk3' b o' hb q')⟩
        have x4 : Ext c s { s' with heap := h4, toks := tk4 } := ⟨⟨fun b o hX q => k24 b o (fun hb => by rw [T.new b hb] at q; cases q) hX (x2.up.kp b o hX q), fun b o q => by
            obtain ⟨o', q'⟩ := x2.up.th b o q
            exact th24 b o' (fun hb => by rw [T.new b hb] at q; cases q) q'⟩, W4⟩
        have pcbs : pc ∉ bs := fun q => by obtain ⟨o, ho⟩ := asIn2 pc (hbs.subset q); rw [pcNew] at ho; cases ho
        have pcT : ∀ o, h3.get? pc = some o → ¬ (∃ vs n, o.data = .seq vs n) := fun o q ⟨vs, n, hd2⟩ => by
          obtain ⟨o2, ho2, hd3⟩ := pcObj
          rw [q] at ho2; cases ho2
          rcases hd3 with ⟨_, _, h⟩ | ⟨_, h⟩ <;> rw [hd2] at h <;> cases h
        have rd4 : ∀ {v d bs}, pc ∉ bs → Reads h3 v d bs → Reads h4 v d bs := fun hn r =>
          reads_upon r (fun b hb o q _ => k34 b o (fun h => hn (h ▸ hb)) q) (fun b o q _ hdd => k34 b o (fun h => pcT o (h ▸ q) hdd) q)
        have r4 := rd4 pcbs r3
        have hsk := hk.ne
        have okBs : (∀ a ∈ bs, ¬ mo a) ∧ (sk = .lo → ∀ a ∈ bs, f.h₀.get? a = none) := by
          have ko := T.ok
          cases hk with
          | sh => exact ⟨fun a ha => ko.2 a (hbs.subset ha), by nofun⟩
          | lo => exact ⟨fun a ha => (ko.2 a (hbs.subset ha)).1, fun _ a ha => (ko.2 a (hbs.subset ha)).2⟩
          | fr => exact ⟨fun a ha => ((KOk.fr_lo S ko).2 a (hbs.subset ha)).1, fun _ a ha => ((KOk.fr_lo S ko).2 a (hbs.subset ha)).2⟩
          | flat hf _ => rw [reads_flat r2 (hf (enc el) (List.mem_map_of_mem hdm))]; exact ⟨nofun, fun _ => nofun⟩
        have CS := child_St (sk := sk) CO S x4 hCs ns4' cells4 ld4 r4 hsk okBs.1 okBs.2 hCbs
        have hSx4 : Sx (j + 1) h4 := hW.frame _ _ _ hSx3 fun b hb o q => k34 b o (fun h => by obtain ⟨o', q'⟩ := T.inH b hb; rw [h, pcNew] at q'; cases q') q
        have hlD4 : IsL h4 D ys m := k34 D _ (Ne.symm pcD) hlD3
        have wrF3 := T.fld (j + 1) h3 hSx3
        have rD4 : ReadsAll h4 ys.toList (((xs.take j).filter p).map g) as := by
          have hrD3 : ReadsAll h3 ys.toList (((xs.take j).filter p).map g) as := readsAll_upon hrD (fun a ha o q hpl' => hk3' a o (notWr a o q (by
              obtain ⟨o1, g1, g2⟩ := readsAll_objs hrD a ha
              rw [q] at g1; cases g1
              rcases g2 with ⟨_, _, _, h⟩ | ⟨_, _, _, h⟩ <;> rw [h] <;> nofun)) q) (fun a o q _ hdd => hk3' a o (notWr a o q (by obtain ⟨_, _, h⟩ := hdd; rw [h]; nofun)) q)
          refine readsAll_upon hrD3 (fun a ha o q _ => k34 a o (fun h => ?_) q) (fun b o q _ hdd => k34 b o (fun h => pcT o (h ▸ q) hdd) q)
          subst h
          obtain ⟨o1, g1, g2⟩ := readsAll_objs hrD3 a ha
          obtain ⟨o2, ho2, hd3⟩ := pcObj
          rw [g1] at ho2; cases ho2
          rcases hpc with rfl | ⟨hx, hl⟩
          · exact (hfr _ ha).2.2 rfl
          · obtain ⟨v0, q0⟩ := hcells x hx a hl
            obtain ⟨o3, g3, g4⟩ := cell3 q0
            rw [g1] at g3; cases g3
            rcases g2 with ⟨_, _, _, h⟩ | ⟨_, _, _, h⟩ <;> rw [g4] at h <;> cases h
        have pl4 : ∀ a ∈ as, Pl h4 a := fun a ha => by
          obtain ⟨o, q, ql, qd⟩ := hpl a ha
          have hne : ∀ vs, o.data ≠ .fields vs := fun vs h => by rcases ql with ⟨_, _, _, q⟩ | ⟨_, _, _, q⟩ <;> rw [h] at q <;> cases q
          have q3 := hk3' a o (notWr a o q hne) q
          refine ⟨o, k34 a o (fun h => ?_) q3, ql, qd⟩
          subst h
          rcases hpc with rfl | ⟨hx, hl⟩
          · exact (hfr _ ha).2.2 rfl
          · obtain ⟨v0, q0⟩ := hcells x hx a hl
            obtain ⟨o3, g3, g4⟩ := cell3 q0
            rw [q3] at g3; cases g3
            rcases ql with ⟨_, _, _, h⟩ | ⟨_, _, _, h⟩ <;> rw [g4] at h <;> cases h
        have tk1 : xs.take (j + 1) = xs.take j ++ [el] := by rw [List.take_add_one, hel]; rfl
        refine wpAny_mono (ht C el hdm _ _ _ _ _ CS) (fun ok s5 ⟨e5, x5⟩ => ?_) fun _ _ z => z
        subst e5
        have inv5 : ∀ s6 : Shared, Ext c { s' with heap := h4, toks := tk4 } s6 → (∀ b o, b ∉ wr → ¬ c.X b → s2.heap.get? b = some o → s6.heap.get? b = some o) ∧ (∀ b o, b ∉ wr → s2.heap.get? b = some o → ∃ o', s6.heap.get? b = some o') ∧ Sx (j + 1) s6.heap ∧ (∃ m, s6.heap.Ns C m) ∧
            (∀ y, (y, NameKind.cell) ∈ scope.names → ∀ a, (chEnv scope C f.env).cells.lookup y = some a → ∃ v, s6.heap.IsCell a v) ∧ IsL s6.heap D ys m ∧ ReadsAll s6.heap ys.toList (((xs.take j).filter p).map g) as ∧ (∀ a ∈ as, Pl s6.heap a) := fun s6 x6 =>
          ⟨fun b o hb hX q => x6.up.kp b o hX (k24 b o hb hX q), fun b o hb q => let ⟨o', q'⟩ := th24 b o hb q; x6.up.th b o' q', hW.frame _ _ _ hSx4 fun b hb o q => x6.up.kp b o (T.nX b hb) q, let ⟨m, n⟩ := ns4'; ⟨m, Ns.ext W4 x6 n⟩, fun y hy a q => let ⟨v, n⟩ := cells4 y hy a q; ⟨v, IsCell.ext W4 x6 n⟩, listOrDict_ext W4 x6 hlD4 (.inl ⟨rfl, _, _, rfl⟩), x6.readsAll W4 rD4, fun a ha => (pl4 a ha).ext W4 x6⟩
        cases hpd : p el with
        | false =>
          rw [if_neg (by simp)]
          obtain ⟨i1, i2, i3, i4, i5, i6, i7, i8⟩ := inv5 s5 x5
          refine ⟨xs.length + 1 - (j + 1), by omega, j + 1, ys, m, as, by omega, rfl, x5.wf, i1, i2, i3, i4, i5, i6, ?_, hnd, hfr, i8⟩
          rw [tk1, List.filter_append, List.filter_cons_of_neg (by simp [hpd])]
          simpa using i7
        | true =>
          rw [if_pos rfl]
          have CS5 := CS.ext x5
          refine (he C el hdm hpd).bind CS5 fun w s6 cs x6 _ r6 ko6 => ?_
          have x46 := x5.trans x6
          obtain ⟨i1, i2, i3, i4, i5, i6, i7, i8⟩ := inv5 s6 x46
          have hysz : ys.size ≤ sizeLine := by
            have e1 := readsAll_length i7
            have e2 : ((xs.take j).filter p).length ≤ (xs.take j).length := List.length_filter_le _ _
            have e3 : (xs.take j).length ≤ xs.length := by rw [List.length_take]; omega
            simp at e1
            omega
          refine wpAny_list_append_plain (hsz := hysz) ⟨m, i6⟩ fun h7 hl7 hs7 => ?_
          obtain ⟨m7, hl7⟩ := hl7
          have cs6 : ∀ a ∈ cs, h4.get? a = none := fun a ha => x5.up.none (ko6.2.2.1 a ha)
          have csD : D ∉ cs := fun q => by have := cs6 D q; rw [hlD4] at this; cases this
          have hDas : D ∉ as := fun q => (hfr D q).2.1 rfl
          have nd6 : (as ++ cs).Nodup := List.nodup_append.mpr ⟨hnd, ko6.2.1, fun a ha b hb q => by
            subst q; obtain ⟨o, q, _⟩ := pl4 a ha; rw [cs6 a hb] at q; cases q⟩
          have keep7 : ∀ b o, b ≠ D → s6.heap.get? b = some o → h7.get? b = some o := fun b o hb q => (hs7.2 b hb).trans q
          have wrD : ∀ b ∈ Fp, b ≠ D := fun b hb q => by obtain ⟨o, q'⟩ := T.inH b hb; rw [q, hDs2] at q'; cases q'
          have hX6 : ¬ c.X D := not_tab x46.wf i6 (by nofun)
          refine ⟨xs.length + 1 - (j + 1), by omega, j + 1, ys.push w, m7, as ++ cs, by omega, rfl, ?_, fun b o hb hX q => keep7 b o (fun h => by rw [h, hDs2] at q; cases q) (i1 b o hb hX q),
            fun b o hb q => let ⟨o', q'⟩ := i2 b o hb q; ⟨o', keep7 b o' (fun h => by rw [h, hDs2] at q; cases q) q'⟩, hW.frame _ _ _ i3 fun b hb o q => keep7 b o (wrD b hb) q, ?_, ?_, hl7, ?_, nd6, fun a ha => ?_, fun a ha => ?_⟩
          · exact x46.wf.sameBut (tk := s6.toks) hs7 (base.none (S.keep.none hDs)) hX6
          · obtain ⟨m', n'⟩ := i4; exact ⟨m', n'.sameBut hs7 hDC.symm⟩
          · intro y hy a q
            obtain ⟨v', n'⟩ := i5 y hy a q
            obtain ⟨a', q1, _, _, q4, _⟩ := own4 y hy
            rw [q] at q1; cases q1
            exact ⟨v', n'.sameBut hs7 q4⟩
          · have e1 : (((xs.take (j + 1)).filter p).map g) = ((xs.take j).filter p).map g ++ [g el] := by
              rw [tk1, List.filter_append, List.filter_cons_of_pos hpd, List.map_append]; rfl
            rw [e1, Array.toList_push]
            exact readsAll_snoc (readsAll_but hs7 (isL_notTup i6) hDas i7) (reads_but hs7 (isL_notTup i6) csD r6)
          · rcases List.mem_append.mp ha with q | q
            · exact hfr a q
            · refine ⟨?_, fun h => csD (h ▸ q), fun h => ?_⟩
              · cases e2 : s2.heap.get? a with
                | none => rfl
                | some o =>
                  by_cases hw : a ∈ wr
                  · obtain ⟨o2, vs, g1, _⟩ := T.fld (j + 1) h4 hSx4 a hw
                    have := cs6 a q; rw [g1] at this; cases this
                  · obtain ⟨o', g1⟩ := th24 a o hw e2
                    have := cs6 a q; rw [g1] at this; cases this
              · obtain ⟨m', o, _, _, ho, _⟩ := ns4'
                have := cs6 a q; rw [h, ho] at this; cases this
          · have q : Pl s6.heap a := (List.mem_append.mp ha).elim (i8 a) (ko6.2.2.2 a)
            obtain ⟨o, q1, q2⟩ := q
            exact ⟨o, keep7 a o (fun h => (List.mem_append.mp ha).elim (fun q => hDas (h ▸ q)) fun q => csD (h ▸ q)) q1, q2⟩
      rcases CO.loopv with hxl | ⟨hxl, hxm⟩
      · have hkl : (chEnv scope C f.env).kindOf x = some .local := lookup_relabel_local hxl
        refine wpAny_assign_Name (wpAny_storeName_local hkl ns3 (fun h4 hn4 hs4 => ?_) (by show ((relabel scope f.env).kind == .class || ((relabel scope f.env).kind == .module && _)) = false; rw [show (relabel scope f.env).kind = .function from CO.kind]; rfl))
        refine after h4 _ C (.inl rfl) hs4 ⟨_, hn4⟩ (fun y hy a q => ?_) (.inl ⟨hkl, _, hn4, by simp⟩)
        obtain ⟨v0, n0⟩ := hcells y hy a q
        obtain ⟨a', q1, _, _, _, q5⟩ := own4 y hy
        rw [q] at q1; cases q1
        exact ⟨v0, (cell3 n0).sameBut hs4 q5⟩
      · have hkl : (chEnv scope C f.env).kindOf x = some .cell := by
          rcases relabel_lookup (env := f.env) hxl with h | ⟨_, h⟩ <;> exact h
        obtain ⟨a, q1, _, _, q4, q5⟩ := own4 x hxm
        obtain ⟨v0, n0⟩ := hcells x hxm a q1
        refine wpAny_assign_Name (wpAny_storeName_cell (show (relabel scope f.env).kind = .function from CO.kind) hkl q1 (cell3 n0) fun h4 hv4 hs4 => ?_)
        refine after h4 _ a (.inr ⟨hxm, q1⟩) hs4 ⟨_, ns3.sameBut hs4 q5.symm⟩ (fun y hy b q => ?_) (.inr ⟨.inl hkl, a, q1, hv4⟩)
        by_cases hb : b = a
        · subst hb; exact ⟨_, hv4⟩
        · obtain ⟨v1, n1⟩ := hcells y hy b q
          exact ⟨v1, (cell3 n1).sameBut hs4 hb⟩
    · have hj' : j = xs.length := by omega
      subst hj'
      refine hW.done s' _ _ hSx fun h3 tk hk3' => ?_
      rw [List.take_length] at hrD
      have W3 : Wf c { s' with heap := h3, toks := tk } := W'.but hk3' wrHB wrX
      have x3 : Ext c s { s' with heap := h3, toks := tk } := ⟨⟨fun b o hX q => hk3' b o (fun hb => by rw [T.new b hb] at q; cases q) (xs'.up.kp b o hX q), fun b o q => by
          obtain ⟨o', q'⟩ := xs'.up.th b o q
          exact ⟨o', hk3' b o' (fun hb => by rw [T.new b hb] at q; cases q) q'⟩⟩, W3⟩
      have nsE : ∃ m, h3.Ns C m := by
        obtain ⟨mC, o, es, ep, ho, hd', q⟩ := hnsC
        exact ⟨mC, o, es, ep, hk3' C o (notWr C o ho (by rw [hd']; nofun)) ho, hd', q⟩
      have hlD3 : IsL h3 D ys m := hk3' D _ hDw hlD
      have hrD3 : ReadsAll h3 ys.toList ((xs.filter p).map g) as := readsAll_upon hrD (fun a ha o q hpl' => hk3' a o (notWr a o q (by
          obtain ⟨o1, g1, g2⟩ := readsAll_objs hrD a ha
          rw [q] at g1; cases g1
          rcases g2 with ⟨_, _, _, h⟩ | ⟨_, _, _, h⟩ <;> rw [h] <;> nofun)) q) (fun a o q _ hdd => hk3' a o (notWr a o q (by obtain ⟨_, _, h⟩ := hdd; rw [h]; nofun)) q)
      refine hRR D C _ as x3 hDs hCs hDC nsE (.list hlD3 rfl rfl hrD3) (List.nodup_cons.mpr ⟨fun q => (hfr D q).2.1 rfl, hnd⟩) (fun a ha => ?_) (fun a ha => ?_) (fun q => (hfr C q).2.2 rfl)
      · rcases List.mem_cons.mp ha with rfl | ha
        · exact hDs
        · exact x2.up.none (hfr a ha).1
      · rcases List.mem_cons.mp ha with rfl | ha
        · exact Pl.of_isL hlD3
        · obtain ⟨o, q, ql, qd⟩ := hpl a ha
          exact ⟨o, hk3' a o (notWr a o q (fun vs h => by rcases ql with ⟨_, _, _, q⟩ | ⟨_, _, _, q⟩ <;> rw [h] at q <;> cases q)) q, ql, qd⟩
  exact codeAny_compStart_list loop (hW.self 0 _ _ _ (hW.frame _ _ _ T.start fun b _ o q => hk24 b o q) loop)

theorem ns_notSeq {h : Heap} {C : Addr} {m : Str → Option Value} (n : h.Ns C m) {o : Obj} (q : h.get? C = some o) : ¬ ∃ vs n, o.data = .seq vs n := by
  obtain ⟨o2, es, ep, ho, hd, _⟩ := n
  rw [q] at ho; cases ho
  rintro ⟨vs, n, h⟩; rw [hd] at h; cases h

theorem ev_comp {elt iter : Expr} {x : Str} {xp : Pos} {ifs : List Expr} {scope : Scope} {pos : Pos} {cp : List Nat} {α : Type} {enc : α → PyData} {xs : List α} {k0 : EK} {sk : K} {p : α → Bool} {g : α → PyData}
    (CO : CompOk c f ρ scope x cp) (h : It c f ρ iter (xs.map enc) k0) (hk : Fills3 k0 (xs.map enc) sk) (hsz : xs.length ≤ sizeLine)
    (ht : ∀ C, ∀ el ∈ xs, Ifs c (chFm f scope C x cp) (chRho ρ cp ⟨sk, enc el⟩) ifs (p el))
    (he : ∀ C, ∀ el ∈ xs, p el = true → Ev c (chFm f scope C x cp) (chRho ρ cp ⟨sk, enc el⟩) elt (g el) .fr)
    (hs : ∀ env x, foldedSetIterable iter env x = pure x := by intro _ _; rfl) :
    Ev c f ρ (.ListComp elt [⟨.Name x xp, iter, ifs, 0⟩] scope pos) (.list ((xs.filter p).map g)) .fr := fun mo val fp s E S => by
  rw [eval_ListComp]
  refine wpAny_comprehension_free (use := none) rfl (hs _) (closureFor_eq CO.free) CO.kind CO.names (comp_core (RR := fun acc C => compPost c.M f.A E none _ acc C) CO h hk hsz ht he S ?_)
  intro D C s' as x1 hD hC hDC hns r nd fr pl hCas
  obtain ⟨m, hm⟩ := hns
  refine ⟨m, hm, fun h' hs' => ?_⟩
  have hCD : C ∉ D :: as := fun q => (List.mem_cons.mp q).elim (fun h => hDC h.symm) hCas
  have hX : ¬ c.X C := fun hx => by
    obtain ⟨ps, q⟩ := x1.wf.tab C hx
    obtain ⟨o, es, ep, ho, hd, _⟩ := hm
    rw [q] at ho; cases ho; cases hd
  refine ⟨⟨⟨fun b o hXb q => (hs'.2 b fun h => by rw [h, hC] at q; cases q).trans (x1.up.kp b o hXb q), fun b o q => by
      obtain ⟨o', q'⟩ := x1.up.th b o q
      exact ⟨o', (hs'.2 b fun h => by rw [h, hC] at q; cases q).trans q'⟩⟩, x1.wf.sameBut hs' (S.ok.base.none (S.keep.none hC)) hX⟩, D :: as, ?_, frOk S nd fr fun a ha => ?_⟩
  · exact reads_upon r (fun b hb o q _ => (hs'.2 b fun h => hCD (h ▸ hb)).trans q) (fun b o q _ hdd => (hs'.2 b fun h => ns_notSeq hm (h ▸ q) hdd).trans q)
  · obtain ⟨o, q, r⟩ := pl a ha
    exact ⟨o, (hs'.2 a fun h => hCD (h ▸ ha)).trans q, r⟩

/-- x = [..]: the store comes ahead of the comprehension's end -/
theorem ex_assign_comp {elt iter : Expr} {x y : Str} {xp yp : Pos} {ifs : List Expr} {scope : Scope} {pos spos : Pos} {cp : List Nat} {α : Type} {enc : α → PyData} {xs : List α} {k0 : EK} {sk : K} {p : α → Bool} {g : α → PyData} {i : Nat} {Q : Fl → Rho → Prop}
    (FS : FmS c f) (hy : f.xs[i]? = some y) (hi : i < ρ.length) (CO : CompOk c f ρ scope x cp) (h : It c f ρ iter (xs.map enc) k0) (hk : Fills3 k0 (xs.map enc) sk) (hsz : xs.length ≤ sizeLine)
    (ht : ∀ C, ∀ el ∈ xs, Ifs c (chFm f scope C x cp) (chRho ρ cp ⟨sk, enc el⟩) ifs (p el))
    (he : ∀ C, ∀ el ∈ xs, p el = true → Ev c (chFm f scope C x cp) (chRho ρ cp ⟨sk, enc el⟩) elt (g el) .fr)
    (hsw : swapsWith (.ListComp elt [⟨.Name x xp, iter, ifs, 0⟩] scope pos) (some (.Name y yp)) spos.line f.env = pure true)
    (hQ : Q .next (ρ.set i (some ⟨.ow, .list ((xs.filter p).map g)⟩)))
    (hs : ∀ env x, foldedSetIterable iter env x = pure x := by intro _ _; rfl) :
    Ex1 c f (.Assign [.Name y yp] (.ListComp elt [⟨.Name x xp, iter, ifs, 0⟩] scope pos) spos) ρ Q := fun mo val fp s S => by
  rw [exec_Assign_Name_used _ _ _ _ hsw]
  refine wpAny_bind (wpAny_standAt (wpAny_bind ?_))
  show wpAny _ f.A (do let _ ← comprehension (.ListComp elt [⟨.Name x xp, iter, ifs, 0⟩] scope pos) scope f.env _ (newList []) false (eval iter f.env) (some (assign (.Name y yp) f.env))) _ _ s
  refine wpAny_bind (wpAny_mono (wpAny_comprehension_free (use := some (assign (.Name y yp) f.env)) (Q := fun _ s' => Post c f mo s Q .next s') rfl (hs _) (closureFor_eq CO.free) CO.kind CO.names
    (comp_core (RR := fun acc C => compPost c.M f.A _ (some (assign (.Name y yp) f.env)) _ acc C) CO h hk hsz ht he S ?_)) (fun _ s' hq => wpAny_pure (wpAny_pure hq)) fun _ _ z => z)
  intro D C s' as x1 hD hC hDC hns r nd fr pl hCas
  obtain ⟨m, hm⟩ := hns
  have S1 := S.ext x1
  have hCD : C ∉ D :: as := fun q => (List.mem_cons.mp q).elim (fun h => hDC h.symm) hCas
  have fpIn : ∀ j sl, ρ[j]? = some (some sl) → ∀ a ∈ fp j, ∃ o, s.heap.get? a = some o := fun j sl e a ha => by
    obtain ⟨_, _, _, r⟩ := S.var j sl e
    obtain ⟨o, ho, _⟩ := reads_objs r a ha; exact ⟨o, ho⟩
  have hCL : C ≠ f.env.locals := fun q => by obtain ⟨_, o, _, _, ho, _⟩ := S.ns; rw [← q, hC] at ho; cases ho
  have hCP : ¬ Pv f C := fun hp => by obtain ⟨o, q, _⟩ := pv_obj S hp; rw [hC] at q; cases q
  have hL : f.env.locals ∉ D :: as := fun q => by obtain ⟨_, o, _, _, ho, _⟩ := S.ns; rw [fr _ q] at ho; cases ho
  have hX : ¬ c.X C := fun hx => by
    obtain ⟨ps, q⟩ := x1.wf.tab C hx
    obtain ⟨o, es, ep, ho, hd, _⟩ := hm
    rw [q] at ho; cases ho; cases hd
  show wpAny c.M f.A (assign (.Name y yp) f.env (.ref D)) _ _ _
  refine wpAny_assign_Name (store_step (sl := ⟨.ow, .list ((xs.filter p).map g)⟩) FS S1 hy hi r hL ?_ fun s2 S2 hk2 th2 => ?_)
  · refine ⟨nd, fun a ha => ⟨fun hm => ?_, S.keep.none (fr a ha)⟩, fun j sl _ e a ha q => ?_, pl⟩
    · obtain ⟨o, q, _⟩ := S.moIn a hm; rw [fr a ha] at q; cases q
    · obtain ⟨o, q'⟩ := fpIn j sl e a ha; rw [fr a q] at q'; cases q'
  · obtain ⟨oC, esC, epC, hoC, hdC, rC⟩ := hm
    have hoC2 := hk2 C oC hCP hoC
    refine ⟨m, ⟨oC, esC, epC, hoC2, hdC, rC⟩, fun h' hs' => ?_⟩
    have nm : (C : Addr) ∉ D :: as := hCD
    have notSeq : ∀ {b o}, s2.heap.get? b = some o → (∃ vs n, o.data = .seq vs n) → b ≠ C := fun {b o} q hd h => by
      rw [h, hoC2] at q; cases q; obtain ⟨_, _, hd⟩ := hd; rw [hdC] at hd; cases hd
    have mo2 : ∀ a, moWith mo .ow (D :: as) a → a ≠ C := fun a ha h => by
      rcases ha with ha | ⟨_, ha⟩
      · obtain ⟨o, q, _⟩ := S.moIn a ha; rw [h, hC] at q; cases q
      · exact hCD (h ▸ ha)
    have fp2 : ∀ j sl, (ρ.set i (some ⟨.ow, .list ((xs.filter p).map g)⟩))[j]? = some (some sl) → C ∉ upd fp i (D :: as) j := fun j sl e => by
      by_cases hj : j = i
      · subst hj; rw [upd_self]; exact hCD
      · rw [upd_ne _ _ _ hj]
        rw [List.getElem?_set, if_neg (fun q => hj q.symm)] at e
        intro q; obtain ⟨o, q'⟩ := fpIn j sl e C q; rw [hC] at q'; cases q'
    have keep' : ∀ b o, b ≠ C → s2.heap.get? b = some o → h'.get? b = some o := fun b o hb q => (hs'.2 b hb).trans q
    have cellNe : ∀ {a v}, s2.heap.IsCell a v → a ≠ C := fun ⟨o, ho, hd⟩ q => by
      rw [q, hoC2] at ho; cases ho; rw [hdC] at hd; cases hd
    refine ⟨.next, _, _, _, _, trivial, (?_ : St c f (ρ.set i (some ⟨.ow, .list ((xs.filter p).map g)⟩)) (moWith mo .ow (D :: as)) (upd val i (.ref D)) (upd fp i (D :: as)) { s2 with heap := h' }), ⟨fun b o h1 h2 h3 q => ?_, fun b o q => ?_, fun b h => ?_⟩, hQ⟩
    · refine ⟨S2.wf.sameBut (tk := s2.toks) hs' (S.ok.base.none (S.keep.none hC)) hX, S2.ok, ⟨fun b o hXb q => ?_, fun b o q => ?_⟩, ?_, fun z a q => ?_, fun j sl e => ?_, S2.own, S2.shr, S2.loc, S2.apart, S2.moNew, fun a ha => ?_, S2.moL, S2.fpL⟩
      · exact keep' b o (fun h => by have := S.keep.none hC; rw [← h, q] at this; cases this) (S2.keep.kp b o hXb q)
      · obtain ⟨o', q'⟩ := S2.keep.th b o q
        exact ⟨o', keep' b o' (fun h => by have := S.keep.none hC; rw [← h, q] at this; cases this) q'⟩
      · obtain ⟨m2, o, es, ep, ho, q⟩ := S2.ns
        exact ⟨m2, o, es, ep, keep' _ o hCL.symm ho, q⟩
      · obtain ⟨v0, n0⟩ := S2.cells z a q
        have hne := cellNe n0
        obtain ⟨o, ho, hd⟩ := n0
        exact ⟨v0, o, keep' a o hne ho, hd⟩
      · obtain ⟨z, g1, g2, g3⟩ := S2.var j sl e
        refine ⟨z, g1, ?_, reads_upon g3 (fun b hb o q _ => keep' b o (fun h => fp2 j sl e (h ▸ hb)) q) (fun b o q _ hdd => keep' b o (notSeq q hdd) q)⟩
        rcases g2 with ⟨k1, m2, ⟨o, es, ep, ho, q⟩, k3⟩ | ⟨k1, a, k2, k3⟩
        · exact .inl ⟨k1, m2, ⟨o, es, ep, keep' _ o hCL.symm ho, q⟩, k3⟩
        · have hne := cellNe k3
          obtain ⟨o, ho, hd⟩ := k3
          exact .inr ⟨k1, a, k2, o, keep' a o hne ho, hd⟩
      · obtain ⟨o, q, r⟩ := S2.moPl a ha
        exact ⟨o, keep' a o (mo2 a ha) q, r⟩
    · exact keep' b o (fun h => by rw [h, hC] at q; cases q) (hk2 b o h2 (x1.up.kp b o h1 q))
    · obtain ⟨o1, q1⟩ := x1.up.th b o q
      obtain ⟨o2, q2⟩ := th2 b o1 q1
      exact ⟨o2, keep' b o2 (fun h => by rw [h, hC] at q; cases q) q2⟩
    · exact h.imp id fun q => fr b q.2
end
end Mine

namespace Mine
open PySem PySem.Spec PySem.Calls PyProof.Rows

def typeNm : PyData → String
  | .none => "NoneType"
  | .bool _ => "bool"
  | .int _ => "int"
  | .str _ => "str"
  | .list _ => "list"
  | .tuple _ => "tuple"
  | .dict _ => "dict"

section
variable {c : Cx} {f : Fm} {ρ : Rho} {mo : Addr → Prop} {val : Nat → Value} {fp : Nat → List Addr} {s : Shared} {E : Value → Shared → Prop}
  {e l r : Expr} {d : PyData} {k k1 k2 : EK} {pos np np2 p2 : Pos} {a b : Int} {xs ys : List PyData}

/-! a loop over a typed list -/
theorem ex_forT {α : Type} {enc : α → PyData} {ls : List α} {Q : Fl → Rho → Prop} {body : List Stmt} {x : Str} {xp : Pos} {iter : Expr} {i : Nat} {sk : K} (FS : FmS c f) (hx : f.xs[i]? = some x) (h : It c f ρ iter (ls.map enc) k) (hk : Fills2 k (ls.map enc) sk)
    (J : Nat → Rho → Prop) (h0 : J 0 ρ)
    (hb : ∀ j el ρ', ls[j]? = some el → J j ρ' → i < ρ'.length ∧ Ex c f body (ρ'.set i (some ⟨sk, enc el⟩)) (loopQ (J (j + 1)) Q))
    (hend : ∀ ρ', J ls.length ρ' → Q .next ρ') (hs : ∀ env x, foldedSetIterable iter env x = pure x := by intro _ _; rfl) : Ex1 c f (.For (.Name x xp) iter body [] pos) ρ Q := by
  refine ex_for FS hx h hk J h0 (fun j d ρ' hd hJ => ?_) (fun ρ' hJ => hend ρ' (by simpa [intsL_length] using hJ)) hs
  rw [List.getElem?_map] at hd
  cases hel : ls[j]? with
  | none => rw [hel] at hd; cases hd
  | some el => rw [hel] at hd; cases hd; exact hb j el ρ' hel hJ
/-- a loop over range(..) -/
theorem ex_forR {Q : Fl → Rho → Prop} {body : List Stmt} {x : Str} {xp : Pos} {iter : Expr} {i n : Nat} {a : Int} (FS : FmS c f) (hx : f.xs[i]? = some x) (h : It c f ρ iter (intsL a n) .fr)
    (J : Nat → Rho → Prop) (h0 : J 0 ρ)
    (hb : ∀ j ρ', j < n → J j ρ' → i < ρ'.length ∧ Ex c f body (ρ'.set i (some ⟨.lo, .int (a + j)⟩)) (loopQ (J (j + 1)) Q))
    (hend : ∀ ρ', J n ρ' → Q .next ρ') (hs : ∀ env x, foldedSetIterable iter env x = pure x := by intro _ _; rfl) : Ex1 c f (.For (.Name x xp) iter body [] pos) ρ Q := by
  refine ex_for (sk := .lo) FS hx h (.flat rfl intsL_flat) J h0 (fun j d ρ' hd hJ => ?_) (fun ρ' hJ => hend ρ' (by simpa [intsL_length] using hJ)) hs
  obtain ⟨h1, rfl⟩ := intsL_get hd
  exact hb j ρ' h1 hJ

/-! list + list -/
theorem add_lists {prog : Program} {w : World} {A : Around} {l b : Addr} {items items2 : Array Value} {Q : Value → Shared → Prop} (hl : s.heap.IsList l items) (hb : s.heap.IsList b items2)
    (h : Q (.ref s.heap.objs.size) { s with heap := s.heap.push { cls := .type "list", data := .seq (items ++ items2) } }) (hsz : items.size + items2.size ≤ sizeLine) : wpAny (model prog w) A (binaryOp .Add (.ref l) (.ref b)) Q E s := by
  have hT := hl.typeIs (s := s)
  have hT2 := hb.typeIs (s := s)
  refine wpAny_binaryOp_concat hT hT2 noFill_list_add seq_list_add (wpAny_call_entry F.slot_list_add hT F.entry_list_add ?_ (F.args_list_add_2 _ _))
  obtain ⟨o, ho, hc, n, hd⟩ := hl
  obtain ⟨o2, ho2, hc2, n2, hd2⟩ := hb
  obtain ⟨cl, di, da, sl⟩ := o
  obtain ⟨cl2, di2, da2, sl2⟩ := o2
  simp only at hc hd hc2 hd2
  subst hc hd hc2 hd2
  obtain ⟨hp, g, d, tk, os⟩ := s
  have f3 := sub_list_list
  wp_walk using wpAny_loadPart' ho, wpAny_loadPart' ho2
  exact ⟨_, rfl, h⟩
end
end Mine
namespace Mine
open PySem PySem.Spec PySem.Calls PyProof.Rows
theorem fn_go {c : Cx} {d : FnD} {args : List PyData} {res : PyData} {u : Bool} {lv : Nat} (ps rest xs : List Str) (C : CxOk c)
    (hbind : ∀ pm cd doc (vals : List Value), vals.length = args.length → bindArgs (docDef d.name d.params d.body d.scope pm cd doc) ⟨vals, []⟩ = pure (ps.zip vals))
    (hlen : ps.length = args.length) (nd : (ps ++ rest).Nodup)
    (hk : ((ps ++ rest).all fun x => d.scope.names.lookup x == some .local || d.scope.names.lookup x == some .cell) = true)
    (h1 : d.scope.isCoroutine = false) (h2 : d.scope.isGenerator = false) (h3 : d.scope.kind = .function) (ρ0 : Rho)
    (h : ∀ f : Fm, f.env.scope = d.scope → f.xs = xs → f.lv = lv → FmS c f → Ex c f d.body ρ0 (RetQ res u)) (hxs : ps ++ rest = xs := by rfl) (hρ : startRho args rest = ρ0 := by rfl) : Fn c (lv + 1) d args res u := by
  subst hxs hρ
  exact fn_enter ps rest C hbind hlen nd hk h1 h2 h3 h
theorem fn_goC {c : Cx} {d : FnD} {args : List PyData} {res : PyData} {u : Bool} {lv : Nat} (ps rest xs : List Str) (C : CxOk c)
    (hbind : ∀ pm cd doc (vals : List Value), vals.length = args.length → bindArgs (docDef d.name d.params d.body d.scope pm cd doc) ⟨vals, []⟩ = pure (ps.zip vals))
    (hlen : ps.length = args.length) (nd : (ps ++ rest).Nodup)
    (hk : ((ps ++ rest).all fun x => d.scope.names.lookup x == some .local || d.scope.names.lookup x == some .cell) = true)
    (h1 : d.scope.isCoroutine = false) (h2 : d.scope.isGenerator = false) (h3 : d.scope.kind = .function) (ρ0 : Rho)
    (h : ∀ f : Fm, f.env.scope = d.scope → f.xs = xs → f.lv = lv → (∃ fa o pm doc, Has c d fa o pm f.env.code doc) → FmS c f → Ex c f d.body ρ0 (RetQ res u)) (hxs : ps ++ rest = xs := by rfl) (hρ : startRho args rest = ρ0 := by rfl) : Fn c (lv + 1) d args res u := by
  subst hxs hρ
  exact fn_enterC ps rest C hbind hlen nd hk h1 h2 h3 h
end Mine

namespace Mine
open PySem PySem.Spec PySem.Calls PyProof.Rows

/-- names that stand in cells -/
def HasCells (f : Fm) (ys : List Str) : Prop := ∀ y ∈ ys, (f.env.kindOf y = some .cell ∨ f.env.kindOf y = some .free) ∧ ∃ a, f.env.cells.lookup y = some a
theorem HasCells.nil {f : Fm} : HasCells f [] := nofun
theorem HasCells.of {c : Cx} {f : Fm} (FS : FmS c f) {ys : List Str} (h : ∀ y ∈ ys, y ∈ f.xs ∧ f.env.kindOf y = some .cell) : HasCells f ys := fun y hy => by
  obtain ⟨h1, h2⟩ := h y hy
  obtain ⟨i, hi, rfl⟩ := List.mem_iff_getElem.mp h1
  rcases FS.kinds i _ (List.getElem?_eq_getElem hi) with q | ⟨q, a, ha⟩
  · rw [h2] at q; cases q
  · exact ⟨.inl q, a, ha⟩
theorem HasCells.ofs {c : Cx} {f : Fm} (FS : FmS c f) {ys : List Str} (sc : Scope) (hsc : f.env.scope = sc) (xs : List Str) (hxs : f.xs = xs) (h : (ys.all fun y => xs.contains y && sc.names.lookup y == some .cell) = true) : HasCells f ys :=
  HasCells.of FS fun y hy => by
    have := List.all_eq_true.mp h y hy
    simp only [Bool.and_eq_true, beq_iff_eq, List.contains_iff_mem] at this
    exact ⟨hxs ▸ this.1, by show f.env.scope.names.lookup y = _; rw [hsc]; exact this.2⟩

def compChk (scope : Scope) (x : Str) (cp : List Nat) (capn cells : List Str) : Bool :=
  scope.kind == .function && (scope.names.all fun y => y.2 != .local || scope.names.lookup y.1 == some .local) &&
  (scope.names.lookup x == some .local || (scope.names.lookup x == some .cell && scope.names.contains (x, NameKind.cell))) &&
  (scope.names.all fun y => y.2 != .free || cells.contains y.1) && decide cp.Nodup &&
  (capn.all fun y => scope.names.lookup y == some .free && scope.names.contains (y, NameKind.free) && !scope.names.contains (y, NameKind.cell) && cells.contains y)

theorem compOk_mk {c : Cx} {f : Fm} {ρ : Rho} {scope : Scope} {x : Str} {cp : List Nat} {capn cells : List Str} (H : HasCells f cells) (hn : cp.map (fun j => f.xs[j]?) = capn.map some) (h : compChk scope x cp capn cells = true) : CompOk c f ρ scope x cp := by
  unfold compChk at h
  simp only [Bool.and_eq_true, decide_eq_true_eq, List.all_eq_true, beq_iff_eq, Bool.or_eq_true, bne_iff_ne, ne_eq, List.contains_iff_mem, Bool.not_eq_true'] at h
  obtain ⟨⟨⟨⟨⟨h1, h2⟩, h3⟩, h4⟩, h5⟩, h6⟩ := h
  refine ⟨h1, fun y hy hl => ?_, ?_, fun y hy hf => ?_, h5, fun j hj => ?_⟩
  · exact (h2 y hy).resolve_left fun q => q hl
  · exact h3.imp id fun q => ⟨q.1, q.2⟩
  · exact (H y.1 ((h4 y hy).resolve_left fun q => q hf)).2
  · have hm : f.xs[j]? ∈ capn.map some := hn ▸ List.mem_map_of_mem hj
    obtain ⟨y, hy, e⟩ := List.mem_map.mp hm
    obtain ⟨⟨⟨q1, q2⟩, q3⟩, q4⟩ := h6 y hy
    refine ⟨y, e.symm, q1, q2, fun q => ?_, (H y q4).1⟩
    have q' := List.contains_iff_mem.mpr q
    rw [q3] at q'; cases q'

def chChk (scope : Scope) (cells names : List Str) : Bool :=
  names.all fun y => (scope.names.contains (y, NameKind.cell) && scope.names.lookup y == some .cell) ||
    (scope.names.contains (y, NameKind.free) && scope.names.lookup y == some .free && !scope.names.contains (y, NameKind.cell) && cells.contains y)
theorem child_cells {f : Fm} {scope : Scope} {C : Addr} {x : Str} {cp : List Nat} {cells names : List Str} (H : HasCells f cells) (h : chChk scope cells names = true) : HasCells (chFm f scope C x cp) names := fun y hy => by
  have := List.all_eq_true.mp h y hy
  simp only [Bool.and_eq_true, beq_iff_eq, Bool.or_eq_true, List.contains_iff_mem, Bool.not_eq_true'] at this
  rcases this with ⟨h1, h2⟩ | ⟨⟨⟨h1, h2⟩, h3⟩, h4⟩
  · refine ⟨.inl ?_, Option.isSome_iff_exists.mp (cellsFrom_has _ _ _ (.inl h2))⟩
    rcases relabel_lookup (env := f.env) h2 with q | ⟨q, _⟩
    · exact q
    · cases q
  · refine ⟨?_, ?_⟩
    · rcases relabel_lookup (env := f.env) h2 with q | ⟨_, q⟩
      · exact .inr q
      · exact .inl q
    · obtain ⟨a, ha⟩ := (H y h4).2
      refine ⟨a, ?_⟩
      show (cellsFrom (C + 1) scope.names (clOf f.env scope.names [])).lookup y = some a
      rw [cellsFrom_not _ _ _ (fun q => by have := List.contains_iff_mem.mpr q; rw [h3] at this; cases this)]
      exact clOf_lookup ha scope.names [] (.inl h1) (fun b q => by simp at q)

section
variable {c : Cx} {f : Fm} {ρ : Rho}
/-- the frame within a comprehension, its names written out -/
abbrev cf (f : Fm) (scope : Scope) (C : Addr) (x : Str) (names : List Str) : Fm := ⟨chEnv scope C f.env, f.A, f.h₀, x :: names, f.lv⟩

/-- a comprehension; capn: the names taken from around, slots: what they hold; cells: the names that stand in cells -/
theorem ev_compX {elt iter : Expr} {x : Str} {xp : Pos} {ifs : List Expr} {scope : Scope} {pos : Pos} {α : Type} {enc : α → PyData} {xs : List α} {k0 : EK} (sk : K) {p : α → Bool} {g : α → PyData}
    {cells : List Str} (H : HasCells f cells) (cp : List Nat) (capn : List Str) (slots : Rho) (cells' : List Str) (h : It c f ρ iter (xs.map enc) k0) (hk : Fills3 k0 (xs.map enc) sk) (hsz : xs.length ≤ sizeLine)
    (ht : ∀ C, HasCells (cf f scope C x capn) cells' → ∀ el ∈ xs, Ifs c (cf f scope C x capn) (some ⟨sk, enc el⟩ :: slots) ifs (p el))
    (he : ∀ C, HasCells (cf f scope C x capn) cells' → ∀ el ∈ xs, p el = true → Ev c (cf f scope C x capn) (some ⟨sk, enc el⟩ :: slots) elt (g el) .fr)
    (hchk : (compChk scope x cp capn cells && chChk scope cells cells') = true := by decide +kernel)
    (hn : cp.map (fun j => f.xs[j]?) = capn.map some := by rfl) (hn2 : cp.map (fun j => f.xs.getD j default) = capn := by rfl) (hsl : cp.map (fun j => (ρ[j]?).join) = slots := by rfl)
    (hs : ∀ env x, foldedSetIterable iter env x = pure x := by intro _ _; rfl) :
    Ev c f ρ (.ListComp elt [⟨.Name x xp, iter, ifs, 0⟩] scope pos) (.list ((xs.filter p).map g)) .fr := by
  obtain ⟨h1, h2⟩ := Bool.and_eq_true_iff.mp hchk
  have CO : CompOk c f ρ scope x cp := compOk_mk H hn h1
  have e1 : ∀ C, chFm f scope C x cp = cf f scope C x capn := fun C => by unfold chFm; rw [hn2]
  have e2 : ∀ d, chRho ρ cp ⟨sk, d⟩ = some ⟨sk, d⟩ :: slots := fun d => by unfold chRho; rw [hsl]
  have HC : ∀ C, HasCells (cf f scope C x capn) cells' := fun C => e1 C ▸ child_cells H h2
  exact ev_comp CO h hk hsz (fun C el hel => by rw [e1, e2]; exact ht C (HC C) el hel) (fun C el hel hp => by rw [e1, e2]; exact he C (HC C) el hel hp) hs

theorem ex_assign_compX {elt iter : Expr} {x y : Str} {xp yp : Pos} {ifs : List Expr} {scope : Scope} {pos spos : Pos} {α : Type} {enc : α → PyData} {xs : List α} {k0 : EK} (sk : K) {p : α → Bool} {g : α → PyData} {i : Nat} {Q : Fl → Rho → Prop}
    {cells : List Str} (FS : FmS c f) (hy : f.xs[i]? = some y) (hi : i < ρ.length) (H : HasCells f cells) (cp : List Nat) (capn : List Str) (slots : Rho) (cells' : List Str) (h : It c f ρ iter (xs.map enc) k0) (hk : Fills3 k0 (xs.map enc) sk) (hsz : xs.length ≤ sizeLine)
    (ht : ∀ C, HasCells (cf f scope C x capn) cells' → ∀ el ∈ xs, Ifs c (cf f scope C x capn) (some ⟨sk, enc el⟩ :: slots) ifs (p el))
    (he : ∀ C, HasCells (cf f scope C x capn) cells' → ∀ el ∈ xs, p el = true → Ev c (cf f scope C x capn) (some ⟨sk, enc el⟩ :: slots) elt (g el) .fr)
    (hQ : Q .next (ρ.set i (some ⟨.ow, .list ((xs.filter p).map g)⟩)))
    (hsw : swapsWith (.ListComp elt [⟨.Name x xp, iter, ifs, 0⟩] scope pos) (some (.Name y yp)) spos.line f.env = pure true := by with_unfolding_all rfl)
    (hchk : (compChk scope x cp capn cells && chChk scope cells cells') = true := by decide +kernel)
    (hn : cp.map (fun j => f.xs[j]?) = capn.map some := by rfl) (hn2 : cp.map (fun j => f.xs.getD j default) = capn := by rfl) (hsl : cp.map (fun j => (ρ[j]?).join) = slots := by rfl)
    (hs : ∀ env x, foldedSetIterable iter env x = pure x := by intro _ _; rfl) :
    Ex1 c f (.Assign [.Name y yp] (.ListComp elt [⟨.Name x xp, iter, ifs, 0⟩] scope pos) spos) ρ Q := by
  obtain ⟨h1, h2⟩ := Bool.and_eq_true_iff.mp hchk
  have CO : CompOk c f ρ scope x cp := compOk_mk H hn h1
  have e1 : ∀ C, chFm f scope C x cp = cf f scope C x capn := fun C => by unfold chFm; rw [hn2]
  have e2 : ∀ d, chRho ρ cp ⟨sk, d⟩ = some ⟨sk, d⟩ :: slots := fun d => by unfold chRho; rw [hsl]
  have HC : ∀ C, HasCells (cf f scope C x capn) cells' := fun C => e1 C ▸ child_cells H h2
  exact ex_assign_comp FS hy hi CO h hk hsz (fun C el hel => by rw [e1, e2]; exact ht C (HC C) el hel) (fun C el hel hp => by rw [e1, e2]; exact he C (HC C) el hel hp) hsw hQ hs

/-- a range as a typed list -/
abbrev encR (a : Int) (i : Nat) : PyData := .int (a + i)
theorem it_r {e : Expr} {a : Int} {n : Nat} {k : EK} (h : It c f ρ e (intsL a n) k) : It c f ρ e ((List.range n).map (encR a)) k := h
theorem filter_tt {α : Type} (l : List α) : l.filter (fun _ => true) = l := List.filter_eq_self.mpr (fun _ _ => rfl)
theorem encR_flat {a : Int} {n : Nat} : ∀ d ∈ (List.range n).map (encR a), flat d = true := intsL_flat
end
end Mine

namespace Mine
open PySem PySem.Spec PySem.Calls PyProof.Rows

/-! plain data: lists of ints, tables of ints -/
abbrev il (r : List Int) : PyData := .list (r.map .int)
abbrev tb (rows : List (List Int)) : PyData := .list (rows.map il)

theorem canAll {xs : List PyData} (h : ∀ d ∈ xs, d.canLay0 = true) : PyData.canLayAll0 xs = true := by
  induction xs with
  | nil => rfl
  | cons x xs ih => rw [PyData.canLayAll0, h x (List.mem_cons_self ..), ih fun d hd => h d (List.mem_cons_of_mem _ hd)]; rfl
theorem depthAll_le {xs : List PyData} {n : Nat} (h : ∀ d ∈ xs, d.depth ≤ n) : PyData.depthAll xs ≤ n := by
  induction xs with
  | nil => exact Nat.zero_le _
  | cons x xs ih => rw [PyData.depthAll]; exact Nat.max_le.mpr ⟨h x (List.mem_cons_self ..), ih fun d hd => h d (List.mem_cons_of_mem _ hd)⟩
/-- small data: may be laid, at most n deep -/
def Sm (n : Nat) (d : PyData) : Prop := d.canLay0 = true ∧ d.depth ≤ n
theorem Sm.int {n : Nat} {i : Int} : Sm n (.int i) := ⟨rfl, Nat.zero_le _⟩
theorem Sm.list {n : Nat} {xs : List PyData} (h : ∀ d ∈ xs, Sm n d) : Sm (n + 1) (.list xs) :=
  ⟨by rw [PyData.canLay0]; exact canAll fun d hd => (h d hd).1, by rw [PyData.depth]; exact Nat.succ_le_succ (depthAll_le fun d hd => (h d hd).2)⟩
theorem Sm.tuple {n : Nat} {xs : List PyData} (h : ∀ d ∈ xs, Sm n d) : Sm (n + 1) (.tuple xs) :=
  ⟨by rw [PyData.canLay0]; exact canAll fun d hd => (h d hd).1, by rw [PyData.depth]; exact Nat.succ_le_succ (depthAll_le fun d hd => (h d hd).2)⟩
theorem Sm.map {α : Type} {n : Nat} {xs : List α} {g : α → PyData} (h : ∀ a, Sm n (g a)) : Sm (n + 1) (.list (xs.map g)) :=
  Sm.list fun d hd => by obtain ⟨a, _, rfl⟩ := List.mem_map.mp hd; exact h a
theorem Sm.shaped {n : Nat} {d : PyData} (h : Sm n d) (hn : n ≤ 64 := by decide) : SeqAt.shaped d = true := by
  unfold SeqAt.shaped; rw [h.1, decide_eq_true (Nat.le_trans h.2 hn)]; rfl
theorem Sm.eqv {n : Nat} {d : PyData} (h : Sm n d) : PyData.eqv d d = true := PySem.SeqAt.eqv_refl d h.1

theorem il_get {r : List Int} {i : Nat} (h : i < r.length) : (r.map PyData.int)[i]? = some (.int (r.getD i 0)) := by
  rw [List.getElem?_map, List.getElem?_eq_getElem h, List.getD_eq_getElem?_getD, List.getElem?_eq_getElem h]; rfl
theorem mulOkL {a b : Int} (h1 : -1000000 ≤ a) (h2 : a ≤ 1000000) : IntMulOk a b := IntMulOk.of_left (intBits_le_64 (by omega) (by omega))
end Mine

namespace Mine
open PySem PySem.Spec PySem.Calls PyProof.Rows

/-- a name's slot is filled anew -/
inductive Upd : List Str → Rho → Str → Option Slot → Rho → Nat → Prop
  | here {x : Str} {xs : List Str} {o sl : Option Slot} {ρ : Rho} : Upd (x :: xs) (o :: ρ) x sl (sl :: ρ) 0
  | there {x y : Str} {xs : List Str} {o sl : Option Slot} {ρ ρ' : Rho} {i : Nat} : Upd xs ρ x sl ρ' i → Upd (y :: xs) (o :: ρ) x sl (o :: ρ') (i + 1)
theorem Upd.get {xs : List Str} {ρ ρ' : Rho} {x : Str} {sl : Option Slot} {i : Nat} (h : Upd xs ρ x sl ρ' i) : xs[i]? = some x ∧ i < ρ.length ∧ ρ' = ρ.set i sl := by
  induction h with
  | here => exact ⟨rfl, by simp, rfl⟩
  | there _ ih => obtain ⟨h1, h2, h3⟩ := ih; exact ⟨by simpa using h1, by simpa using h2, by rw [h3]; rfl⟩
/-- where a name stands -/
inductive Nm : List Str → Str → Nat → Prop
  | here {x : Str} {xs : List Str} : Nm (x :: xs) x 0
  | there {x y : Str} {xs : List Str} {i : Nat} : Nm xs x i → Nm (y :: xs) x (i + 1)
theorem Nm.get {xs : List Str} {x : Str} {i : Nat} (h : Nm xs x i) : xs[i]? = some x := by
  induction h with
  | here => rfl
  | there _ ih => simpa using ih

section
variable {c : Cx} {f : Fm} {ρ ρ' : Rho} {st : Stmt} {rest body orelse : List Stmt} {Q : Fl → Rho → Prop} {e ei er : Expr} {d d0 : PyData} {k k2 k3 : EK} {pos xp ap cp sp sp2 : Pos} {x y : Str} {i : Nat} {sk : K} {xs : List PyData}

theorem s_asg (FS : FmS c f) (h : Ev c f ρ e d k) (hk : Fills k d sk) (hU : Upd f.xs ρ x (some ⟨sk, d⟩) ρ' i) (hQ : Ex c f rest ρ' Q) (hs : ∀ env, swapsWith e (some (.Name x xp)) pos.line env = pure false := by intro _; rfl) :
    Ex c f (.Assign [.Name x xp] e pos :: rest) ρ Q := by
  obtain ⟨h1, h2, rfl⟩ := hU.get
  exact ex_cons (ex_assign FS h1 h2 h hk hQ hs)
/-- an if with no else -/
theorem s_when {t : Expr} {q : Bool} (ht : Tst c f ρ t q) (h1 : q = true → Ex c f body ρ (seqQ c f rest Q)) (h2 : q = false → Ex c f rest ρ Q) : Ex c f (.If t body [] pos :: rest) ρ Q := ex_cons (ex_if ht h1 fun h => ex_nil (h2 h))
theorem s_end (h : Q .next ρ) : Ex c f [] ρ Q := ex_nil h
theorem s_ret {u : Bool} (h : Ev c f ρ e d k) (hQ : Q (.ret d u) ρ) (hk : (k = .fr) ∨ (k = .lo ∧ u = false) ∨ (flat d = true) ∨ (∃ is : List Nat, k = .us is ∧ is.Nodup ∧ ∀ i ∈ is, ∃ sl : Slot, ρ[i]? = some (some sl) ∧ sl.k = .ow)) : Ex c f (.Return (some e) pos :: rest) ρ Q :=
  ex_cons (ex_return h hk hQ)
theorem s_append (FS : FmS c f) (hat : At f.xs ρ x ⟨.ow, .list xs⟩ i) (h : Ev c f ρ e d k) (hk : k = .fr ∨ flat d = true) (hsz : xs.length ≤ sizeLine) (hU : Upd f.xs ρ x (some ⟨.ow, .list (xs ++ [d])⟩) ρ' i) (hQ : Ex c f rest ρ' Q)
    (hd : (x == ("__debug__" : Str)) = false := by decide +kernel) (hn : (x == ("__classdict__" : Str)) = false := by decide +kernel)
    (hbase : ∀ env, attributeBase (.Name x xp) "append" env (eval (.Name x xp) env) = eval (.Name x xp) env := by intro _; rfl) (hline : (ap.endLine == cp.line) = true := by rfl)
    (htrees : ∀ env, backTo cp (starEach [e] env) = [(false, eval e env)] := by intro _; rfl)
    (hsw : ∀ env, swapsWith (.Call (.Attribute (.Name x xp) "append" ap) [e] [] cp) none pos.line env = pure false := by intro _; rfl) :
    Ex c f (.Expr (.Call (.Attribute (.Name x xp) "append" ap) [e] [] cp) pos :: rest) ρ Q := by
  obtain ⟨h1, h2, rfl⟩ := hU.get
  exact ex_cons (ex_append FS hat h hk hsz hQ hd hn hbase hline htrees (by intros; trivial) hsw)
theorem s_set {j : Int} (FS : FmS c f) (hat : At f.xs ρ x ⟨.ow, .list xs⟩ i) (hv : Ev c f ρ e d k) (hi : Ev c f ρ ei (.int j) k2) (hd : flat d = true) (h0 : 0 ≤ j) (hfit : j < 2 ^ 63) (hx : xs[j.toNat]? = some d0) (hd0 : flat d0 = true)
    (hU : Upd f.xs ρ x (some ⟨.ow, .list (xs.set j.toNat d)⟩) ρ' i) (hQ : Ex c f rest ρ' Q)
    (hdb : (x == ("__debug__" : Str)) = false := by decide +kernel) (hn : (x == ("__classdict__" : Str)) = false := by decide +kernel)
    (hs : ∀ env, swapsWith e (some (.Subscript (.Name x xp) ei sp)) pos.line env = pure false := by intro _; rfl) : Ex c f (.Assign [.Subscript (.Name x xp) ei sp] e pos :: rest) ρ Q := by
  obtain ⟨h1, h2, rfl⟩ := hU.get
  exact ex_cons (ex_setitem FS hat hv hi hd h0 hfit hx hd0 hQ hdb hn hs)
theorem s_append2 {j1 : Int} {rows cells : List PyData} (FS : FmS c f) (hat : At f.xs ρ x ⟨.ow, .list rows⟩ i) (hi1 : Ev c f ρ er (.int j1) k2) (h : Ev c f ρ e d k) (hd : flat d = true)
    (h01 : 0 ≤ j1) (hfit1 : j1 < 2 ^ 63) (hrow : rows[j1.toNat]? = some (.list cells)) (hcf : flats cells = true) (hsz : cells.length ≤ sizeLine)
    (hU : Upd f.xs ρ x (some ⟨.ow, .list (rows.set j1.toNat (.list (cells ++ [d])))⟩) ρ' i) (hQ : Ex c f rest ρ' Q)
    (hdb : (x == ("__debug__" : Str)) = false := by decide +kernel) (hn : (x == ("__classdict__" : Str)) = false := by decide +kernel) (hs2 : ∀ o i, subscripted er false o i = operate [o, i] (getItem o i) := by intros; rfl)
    (hbase : ∀ env, attributeBase (.Subscript (.Name x xp) er sp) "append" env (eval (.Subscript (.Name x xp) er sp) env) = eval (.Subscript (.Name x xp) er sp) env := by intro _; rfl) (hline : (ap.endLine == cp.line) = true := by rfl)
    (htrees : ∀ env, backTo cp (starEach [e] env) = [(false, eval e env)] := by intro _; rfl)
    (hsw : ∀ env, swapsWith (.Call (.Attribute (.Subscript (.Name x xp) er sp) "append" ap) [e] [] cp) none pos.line env = pure false := by intro _; rfl) :
    Ex c f (.Expr (.Call (.Attribute (.Subscript (.Name x xp) er sp) "append" ap) [e] [] cp) pos :: rest) ρ Q := by
  obtain ⟨h1, h2, rfl⟩ := hU.get
  exact ex_cons (ex_append2 FS hat hi1 h hd h01 hfit1 hrow hcf hsz hQ hdb hn hs2 hbase hline htrees hsw)
theorem s_forT {α : Type} {enc : α → PyData} {ls : List α} {iter : Expr} (FS : FmS c f) (hx : Nm f.xs x i) (h : It c f ρ iter (ls.map enc) k) (hk : Fills2 k (ls.map enc) sk)
    (J : Nat → Rho → Prop) (h0 : J 0 ρ)
    (hb : ∀ j el ρ', ls[j]? = some el → J j ρ' → ∃ ρ1, Upd f.xs ρ' x (some ⟨sk, enc el⟩) ρ1 i ∧ Ex c f body ρ1 (loopQ (J (j + 1)) (seqQ c f rest Q)))
    (hend : ∀ ρ', J ls.length ρ' → Ex c f rest ρ' Q) (hs : ∀ env x, foldedSetIterable iter env x = pure x := by intro _ _; rfl) : Ex c f (.For (.Name x xp) iter body [] pos :: rest) ρ Q :=
  ex_cons (ex_forT FS hx.get h hk J h0 (fun j d ρ' hd hJ => by obtain ⟨ρ1, hU, h⟩ := hb j d ρ' hd hJ; obtain ⟨h1, h2, rfl⟩ := hU.get; exact ⟨h2, h⟩) hend hs)
theorem s_forR {iter : Expr} {n : Nat} {a : Int} (FS : FmS c f) (hx : Nm f.xs x i) (h : It c f ρ iter (intsL a n) .fr)
    (J : Nat → Rho → Prop) (h0 : J 0 ρ)
    (hb : ∀ j ρ', j < n → J j ρ' → ∃ ρ1, Upd f.xs ρ' x (some ⟨.lo, .int (a + j)⟩) ρ1 i ∧ Ex c f body ρ1 (loopQ (J (j + 1)) (seqQ c f rest Q)))
    (hend : ∀ ρ', J n ρ' → Ex c f rest ρ' Q) (hs : ∀ env x, foldedSetIterable iter env x = pure x := by intro _ _; rfl) : Ex c f (.For (.Name x xp) iter body [] pos :: rest) ρ Q :=
  ex_cons (ex_forR FS hx.get h J h0 (fun j ρ' hd hJ => by obtain ⟨ρ1, hU, h⟩ := hb j ρ' hd hJ; obtain ⟨h1, h2, rfl⟩ := hU.get; exact ⟨h2, h⟩) hend hs)
theorem s_while {t : Expr} (J : Nat → Rho → Prop) {n : Nat} (h0 : J n ρ)
    (hb : ∀ n ρ', J n ρ' → ∃ q, Tst c f ρ' t q ∧ (q = true → Ex c f body ρ' (loopQ (fun ρ'' => ∃ m, m < n ∧ J m ρ'') (seqQ c f rest Q))) ∧ (q = false → Ex c f rest ρ' Q)) : Ex c f (.While t body [] pos :: rest) ρ Q :=
  ex_cons (ex_while J h0 hb)
theorem s_comp {elt iter : Expr} {yp : Pos} {ifs : List Expr} {scope : Scope} {spos : Pos} {α : Type} {enc : α → PyData} {ls : List α} {k0 : EK} (sk : K) {p : α → Bool} {g : α → PyData}
    {cells : List Str} (FS : FmS c f) (H : HasCells f cells) (cp : List Nat) (capn : List Str) (slots : Rho) (cells' : List Str) (h : It c f ρ iter (ls.map enc) k0) (hk : Fills3 k0 (ls.map enc) sk) (hsz : ls.length ≤ sizeLine)
    (ht : ∀ C, HasCells (cf f scope C x capn) cells' → ∀ el ∈ ls, Ifs c (cf f scope C x capn) (some ⟨sk, enc el⟩ :: slots) ifs (p el))
    (he : ∀ C, HasCells (cf f scope C x capn) cells' → ∀ el ∈ ls, p el = true → Ev c (cf f scope C x capn) (some ⟨sk, enc el⟩ :: slots) elt (g el) .fr)
    (hU : Upd f.xs ρ y (some ⟨.ow, .list ((ls.filter p).map g)⟩) ρ' i) (hQ : Ex c f rest ρ' Q)
    (hsw : swapsWith (.ListComp elt [⟨.Name x xp, iter, ifs, 0⟩] scope pos) (some (.Name y yp)) spos.line f.env = pure true := by with_unfolding_all rfl)
    (hchk : (compChk scope x cp capn cells && chChk scope cells cells') = true := by decide +kernel)
    (hn : cp.map (fun j => f.xs[j]?) = capn.map some := by rfl) (hn2 : cp.map (fun j => f.xs.getD j default) = capn := by rfl) (hsl : cp.map (fun j => (ρ[j]?).join) = slots := by rfl)
    (hs : ∀ env x, foldedSetIterable iter env x = pure x := by intro _ _; rfl) :
    Ex c f (.Assign [.Name y yp] (.ListComp elt [⟨.Name x xp, iter, ifs, 0⟩] scope pos) spos :: rest) ρ Q := by
  obtain ⟨h1, h2, rfl⟩ := hU.get
  exact ex_cons (ex_assign_compX sk FS h1 h2 H cp capn slots cells' h hk hsz ht he hQ hsw hchk hn hn2 hsl hs)
end
end Mine

namespace Mine
open PySem PySem.Spec PySem.Calls PyProof.Rows

theorem ra_drop {h : Heap} {vs : List Value} {ds : List PyData} {as : List Addr} (r : ReadsAll h vs ds as) (hf : flats ds = true) : ∀ n, ReadsAll h (vs.drop n) (ds.drop n) []
  | 0 => by have := readsAll_flat r hf; subst this; exact r
  | n + 1 => by
    cases r with
    | nil => exact .nil
    | cons r1 r2 => exact ra_drop r2 (Bool.and_eq_true_iff.mp hf).2 n
theorem ra_take {h : Heap} {vs : List Value} {ds : List PyData} {as : List Addr} (r : ReadsAll h vs ds as) (hf : flats ds = true) : ∀ n, ReadsAll h (vs.take n) (ds.take n) []
  | 0 => .nil
  | n + 1 => by
    cases r with
    | nil => exact .nil
    | cons r1 r2 =>
      have h1 := reads_flat r1 (Bool.and_eq_true_iff.mp hf).1
      subst h1
      exact .cons r1 (ra_take r2 (Bool.and_eq_true_iff.mp hf).2 n)
theorem flats_drop {ds : List PyData} (hf : flats ds = true) : ∀ n, flats (ds.drop n) = true
  | 0 => hf
  | n + 1 => by cases ds with | nil => rfl | cons d ds => exact flats_drop (Bool.and_eq_true_iff.mp hf).2 n
theorem ra_app {h : Heap} {vs ws : List Value} {ds es : List PyData} {as bs : List Addr} (r : ReadsAll h vs ds as) (r' : ReadsAll h ws es bs) : ReadsAll h (vs ++ ws) (ds ++ es) (as ++ bs) := by
  induction r using ReadsAll.rec (motive_1 := fun _ _ _ _ => True) with
  | nil => exact r'
  | cons r1 r2 _ ih => rw [List.append_assoc]; exact .cons r1 ih
  | _ => trivial

/-- what a plain slice picks -/
def pick {α : Type} (xs : List α) (lo hi : Option Int) : List α := (xs.drop (lo.elim 0 (clipAt xs.length))).take (hi.elim xs.length (clipAt xs.length) - lo.elim 0 (clipAt xs.length))
theorem pick_upto {α : Type} (xs : List α) (b : Nat) : pick xs none (some (b : Int)) = xs.take b := by
  unfold pick; simp only [Option.elim, clipAt_nat, List.drop_zero, Nat.sub_zero]
  rcases Nat.le_total b xs.length with h | h
  · rw [Nat.min_eq_left h]
  · rw [Nat.min_eq_right h, List.take_of_length_le (by simp), List.take_of_length_le h]
section
variable {c : Cx} {f : Fm} {ρ : Rho} {mo : Addr → Prop} {val : Nat → Value} {fp : Nat → List Addr} {s : Shared} {E : Value → Shared → Prop}
  {e l r : Expr} {d d1 d2 d3 : PyData} {k k1 k2 k3 : EK} {pos sp : Pos} {a b : Int} {xs ys : List PyData}

/-- list + list, both flat -/
theorem ev_addL (h1 : Ev c f ρ l (.list xs) k1) (h2 : Ev c f ρ r (.list ys) k2) (f1 : flats xs = true) (f2 : flats ys = true) (hsz : xs.length + ys.length ≤ sizeLine) : Ev c f ρ (.BinOp l .Add r pos) (.list (xs ++ ys)) .fr :=
  ev_bin h1 h2 fun s v1 v2 as1 as2 E W _ r1 r2 => by
    cases r1 with | list g1 g2 g3 g4 =>
    cases r2 with | list g1' g2' g3' g4' =>
    rename_i a o vs m bs a' o' vs' m' bs'
    have hl : vs.size = xs.length := by simpa using readsAll_length g4
    have hl' : vs'.size = ys.length := by simpa using readsAll_length g4'
    have e1 := readsAll_flat g4 f1
    have e2 := readsAll_flat g4' f2
    subst e1 e2
    refine add_lists ⟨_, g1, g2, _, g3⟩ ⟨_, g1', g2', _, g3'⟩ ?_ (by omega)
    have x1 : Ext c s { s with heap := s.heap.push { cls := .type "list", data := .seq (vs ++ vs') } } := Ext.push W _ _
    refine ⟨x1, [s.heap.objs.size], .list (Heap.get?_push_size _ rfl) rfl rfl ?_, by simp, fun b hb => ?_, fun b hb => ?_⟩
    · rw [Array.toList_append]; exact x1.readsAll W (ra_app g4 g4')
    · rw [List.mem_singleton.mp hb]; exact get_size_none _
    · rw [List.mem_singleton.mp hb]; exact ⟨_, Heap.get?_push_size _ rfl, .inl ⟨rfl, _, _, rfl⟩, rfl, rfl⟩

/-- a bound of a slice -/
inductive Part (c : Cx) (f : Fm) (ρ : Rho) : Option Expr → Option Int → Prop
  | none : Part c f ρ none none
  | some {e : Expr} {i : Int} {k : EK} : Ev c f ρ e (.int i) k → Part c f ρ (some e) (some i)
theorem Part.bind {o : Option Expr} {i : Option Int} {Q : Value → Shared → Prop} (h : Part c f ρ o i) (S : St c f ρ mo val fp s) (hn : ∀ v s', Ext c s s' → St c f ρ mo val fp s' → IsPart v i → Q v s') :
    wpAny c.M f.A (evalPart o f.env) Q E s := by
  cases h with
  | none => exact wpAny_evalPart_none (hn _ s (Ext.refl S.wf) S .none)
  | some h => exact wpAny_evalPart_some (h.bind S fun v s' as x S' r _ => by cases r; exact hn _ s' x S' (.int _ _))

theorem ev_slice {lo up : Option Expr} {li ui : Option Int} (h : Ev c f ρ l (.list xs) k) (hl : Part c f ρ lo li) (hu : Part c f ρ up ui) (hf : flats xs = true) (hsz : xs.length ≤ sizeLine) (hp : pick xs li ui = ys) : Ev c f ρ (.Subscript l (.Slice lo up none sp) pos) (.list ys) .fr := by
  intro mo val fp s E S
  refine Subscript_ (h.bind S fun v s1 as x1 S1 r1 _ => wpAny_Slice (hl.bind S1 fun vl s2 x2 S2 p1 => hu.bind S2 fun vu s3 x3 S3 p2 => wpAny_evalPart_none ?_))
  have r3 := (x2.trans x3).reads S1.wf r1
  cases r3 with | list g1 g2 g3 g4 =>
  rename_i a o vs m bs _
  have hl : vs.size = xs.length := by simpa using readsAll_length g4
  have hL : s3.heap.IsList a vs := ⟨_, g1, g2, _, g3⟩
  refine tail_any (T := "list") (ops := [_, _]) (hL.push _).typeIs list_getitem_lookup (wpAny_getItem_list_slice (hL.push _) (Heap.IsSliceOf.new ..) p1 p2 .none (by simp) ?_ (by omega)) rfl
  rw [Heap.size_push]
  have y1 : Ext c s3 { s3 with heap := s3.heap.push { cls := .type "slice", data := .fields #[vl, vu, .none] } } := Ext.push S3.wf _ _
  have y2 := y1.trans (Ext.push (y1.wf) { cls := .type "list", data := .seq (slicePick vs li ui none) } s3.toks)
  refine ⟨((x1.trans x2).trans x3).trans y2, [s3.heap.objs.size + 1], ?_, frOk S (by simp) (fun b hb => ?_) fun b hb => ?_⟩
  · have : s3.heap.objs.size + 1 = (s3.heap.push { cls := .type "slice", data := .fields #[vl, vu, .none] }).objs.size := (Heap.size_push ..).symm
    rw [this]
    refine .list (Heap.get?_push_size _ rfl) rfl rfl ?_
    refine y2.readsAll S3.wf ?_
    rw [slicePick_plain, List.toList_toArray, ← hp, pick, hl]
    exact ra_take (ra_drop g4 hf _) (flats_drop hf _) _
  · rw [List.mem_singleton.mp hb]; exact ((x1.trans x2).trans x3).up.none (y1.up.none (by rw [← Heap.size_push]; exact get_size_none _))
  · rw [List.mem_singleton.mp hb]; exact ⟨_, by rw [← Heap.size_push]; exact Heap.get?_push_size _ rfl, .inl ⟨rfl, _, _, rfl⟩, rfl, rfl⟩

/-! edges: tuples of three ints -/
abbrev encI (e : Int × Int × Int) : PyData := .tuple [.int e.1, .int e.2.1, .int e.2.2]
abbrev encE (e : Nat × Nat × Int) : PyData := .tuple [.int e.1, .int e.2.1, .int e.2.2]
theorem flats_of {xs : List PyData} (h : ∀ d ∈ xs, flat d = true) : flats xs = true := by
  induction xs with
  | nil => rfl
  | cons x xs ih => exact Bool.and_eq_true_iff.mpr ⟨h x (List.mem_cons_self ..), ih fun d hd => h d (List.mem_cons_of_mem _ hd)⟩
theorem flats_map {α : Type} {g : α → PyData} (h : ∀ a, flat (g a) = true) (ls : List α) : flats (ls.map g) = true := flats_of fun d hd => by obtain ⟨a, _, rfl⟩ := List.mem_map.mp hd; exact h a
theorem flat_map {α : Type} {g : α → PyData} (h : ∀ a, flat (g a) = true) (ls : List α) : ∀ d ∈ ls.map g, flat d = true := fun d hd => by obtain ⟨a, _, rfl⟩ := List.mem_map.mp hd; exact h a
theorem Sm.edges {n : Nat} {es : List (Nat × Nat × Int)} : Sm (n + 2) (.list (es.map encE)) := Sm.map fun e => Sm.tuple fun d hd => by simp at hd; rcases hd with rfl | rfl | rfl <;> exact Sm.int
theorem ev_t0 {ds : List PyData} (h : Ev c f ρ l (.tuple (d :: ds)) k1) (h2 : Ev c f ρ r (.int 0) k2) (hd : flat d = true) (hs : ∀ o i, subscripted r false o i = operate [o, i] (getItem o i) := by intros; rfl) : Ev c f ρ (.Subscript l r pos) d .fr :=
  Ev.ofFlat (ev_tupitem h h2 (by decide) (by decide) rfl hs) hd
theorem ev_t1 {ds : List PyData} (h : Ev c f ρ l (.tuple (d1 :: d :: ds)) k1) (h2 : Ev c f ρ r (.int 1) k2) (hd : flat d = true) (hs : ∀ o i, subscripted r false o i = operate [o, i] (getItem o i) := by intros; rfl) : Ev c f ρ (.Subscript l r pos) d .fr :=
  Ev.ofFlat (ev_tupitem h h2 (by decide) (by decide) rfl hs) hd
theorem ev_t2 {ds : List PyData} (h : Ev c f ρ l (.tuple (d1 :: d2 :: d :: ds)) k1) (h2 : Ev c f ρ r (.int 2) k2) (hd : flat d = true) (hs : ∀ o i, subscripted r false o i = operate [o, i] (getItem o i) := by intros; rfl) : Ev c f ρ (.Subscript l r pos) d .fr :=
  Ev.ofFlat (ev_tupitem h h2 (by decide) (by decide) rfl hs) hd
/-- an item of a list, the item given with its index as a Nat -/
theorem ev_at {i : Nat} (h1 : Ev c f ρ l (.list xs) k1) (h2 : Ev c f ρ r (.int i) k2) (hx : xs[i]? = some d) (hl : xs.length ≤ sizeLine) 
    (hs : ∀ o i, subscripted r false o i = operate [o, i] (getItem o i) := by intros; rfl) : Ev c f ρ (.Subscript l r pos) d k1.sub :=
  ev_item h1 h2 (by omega) (by have : i < xs.length := (List.getElem?_eq_some_iff.mp hx).1; have : sizeLine < 2 ^ 62 := by decide +kernel
                               omega) hx hs
end

/-! square tables, written by a function -/
def mkT (n : Nat) (g : Nat → Nat → PyData) : List PyData := (List.range n).map fun u => .list ((List.range n).map (g u))
theorem rangeMap_at {α : Type} {n v : Nat} {g : Nat → α} (h : v < n) : ((List.range n).map g)[v]? = some (g v) := by
  rw [List.getElem?_map, List.getElem?_range h]; rfl
theorem rangeMap_set {α : Type} {n v : Nat} {g : Nat → α} {x : α} : ((List.range n).map g).set v x = (List.range n).map fun i => if i = v then x else g i := by
  apply List.ext_getElem?
  intro i
  by_cases hi : i < n
  · rw [rangeMap_at hi, List.getElem?_set]
    by_cases h : v = i
    · subst h; simp [hi]
    · rw [if_neg h, rangeMap_at hi, if_neg (fun q => h q.symm)]
  · rw [List.getElem?_eq_none (by simp; omega), List.getElem?_eq_none (by simp; omega)]
end Mine

namespace Mine
open PySem PySem.Spec PySem.Calls PyProof.Rows

def cutQ (P : Rho → Prop) (Q : Fl → Rho → Prop) : Fl → Rho → Prop
  | .next, ρ => P ρ
  | fl, ρ => Q fl ρ
section
variable {c : Cx} {f : Fm} {ρ ρ' : Rho} {st : Stmt} {rest body orelse : List Stmt} {Q : Fl → Rho → Prop} {e t : Expr} {pos : Pos} {q : Bool}
theorem s_cut (P : Rho → Prop) (h1 : Ex1 c f st ρ (cutQ P Q)) (h2 : ∀ ρ', P ρ' → Ex c f rest ρ' Q) : Ex c f (st :: rest) ρ Q :=
  ex_cons (h1.mono fun fl ρ' h => by cases fl <;> first | exact h2 _ h | exact h)
theorem s_whenc (P : Rho → Prop) (ht : Tst c f ρ t q) (h1 : q = true → Ex c f body ρ (cutQ P Q)) (h2 : q = false → P ρ) (h3 : ∀ ρ', P ρ' → Ex c f rest ρ' Q) : Ex c f (.If t body [] pos :: rest) ρ Q :=
  s_cut P (ex_if ht h1 fun h => ex_nil (h2 h)) h3
theorem s_retO {x : Str} {xp : Pos} {d : PyData} {i : Nat} (hat : At f.xs ρ x ⟨.ow, d⟩ i) (hQ : Q (.ret d true) ρ) (hd : (x == ("__debug__" : Str)) = false := by decide +kernel) (hn : (x == ("__classdict__" : Str)) = false := by decide +kernel) :
    Ex c f (.Return (some (.Name x xp)) pos :: rest) ρ Q :=
  s_ret (ev_name_us hat hd hn) hQ (.inr (.inr (.inr ⟨[i], rfl, by simp, fun j hj => ⟨⟨.ow, d⟩, by rw [List.mem_singleton.mp hj]; exact hat.slot, rfl⟩⟩)))
end
/-- the cells of a law's script -/
def cellD (ns : List Int) (i d : Int) : Int := if i < (ns.length : Int) then ns.getD i.toNat 0 else d
end Mine

namespace Mine
open PySem PySem.Spec PySem.Calls PyProof.Rows

/-! ranges with a step -/
def intsS (a c : Int) (n : Nat) : List PyData := (List.range n).map fun i : Nat => .int (a + i * c)
section
variable {c : Cx} {f : Fm} {ρ : Rho} {mo : Addr → Prop} {val : Nat → Value} {fp : Nat → List Addr} {s : Shared} {E : Value → Shared → Prop} {pos : Pos} {k : EK}
end
/-! range(n) as Nats -/
abbrev encN (i : Nat) : PyData := .int (i : Int)
section
variable {c : Cx} {f : Fm} {ρ : Rho} {pos : Pos} {k : EK}
theorem intsL0 (n : Nat) : intsL 0 n = (List.range n).map encN := by
  unfold intsL; exact List.map_congr_left fun i _ => by rw [Int.zero_add]
theorem it_n {e : Expr} {n : Nat} (h : It c f ρ e (intsL 0 n) k) : It c f ρ e ((List.range n).map encN) k := intsL0 n ▸ h
theorem encN_flat {n : Nat} : ∀ d ∈ (List.range n).map encN, flat d = true := flat_map (fun _ => rfl) _
theorem s_forN {x : Str} {xp : Pos} {i : Nat} {body rest : List Stmt} {Q : Fl → Rho → Prop} {iter : Expr} {n : Nat} (FS : FmS c f) (hx : Nm f.xs x i) (h : It c f ρ iter (intsL 0 n) .fr)
    (J : Nat → Rho → Prop) (h0 : J 0 ρ)
    (hb : ∀ j ρ', j < n → J j ρ' → ∃ ρ1, Upd f.xs ρ' x (some ⟨.lo, .int (j : Int)⟩) ρ1 i ∧ Ex c f body ρ1 (loopQ (J (j + 1)) (seqQ c f rest Q)))
    (hend : ∀ ρ', J n ρ' → Ex c f rest ρ' Q) (hs : ∀ env x, foldedSetIterable iter env x = pure x := by intro _ _; rfl) : Ex c f (.For (.Name x xp) iter body [] pos :: rest) ρ Q :=
  s_forR FS hx h J h0 (fun j ρ' hj hJ => by rw [Int.zero_add]; exact hb j ρ' hj hJ) hend hs
end
/-- membership of a Nat in a list of Nats, as python sees it -/
abbrev nl (F : List Nat) : List PyData := F.map fun x : Nat => .int (x : Int)
end Mine

namespace Mine
open PySem PySem.Spec PySem.Calls PyProof.Rows
section
variable {c : Cx} {f : Fm} {ρ ρ' : Rho} {Q : Fl → Rho → Prop} {rest : List Stmt} {x : Str} {xs : List PyData} {i : Nat} {xp ap cp pos : Pos}
end
end Mine

namespace Mine
open PySem PySem.Spec PySem.Calls PyProof.Rows

/-- what slot a part of a value of a kind may fill -/
inductive Fills4 : EK → PyData → K → Prop
  | lo {d : PyData} : Fills4 .lo d .lo
  | fr {d : PyData} : Fills4 .fr d .lo
  | sh {d : PyData} : Fills4 .sh d .sh
  | flat {k : EK} {d : PyData} {sk : K} : flat d = true → sk ≠ .ow → Fills4 k d sk

section
variable {c : Cx} {f : Fm} {ρ ρ1 ρ2 : Rho} {mo : Addr → Prop} {val : Nat → Value} {fp : Nat → List Addr} {s s' : Shared} {E : Value → Shared → Prop}
  {Q : Fl → Rho → Prop} {rest : List Stmt} {e ei ei2 : Expr} {d d0 d1 d2 d01 d02 : PyData} {k k1 k2 : EK} {pos xp yp tp sp sp2 : Pos} {x y : Str} {i j n : Nat} {xs : List PyData} {sk sk1 sk2 : K}

theorem Fills4.ok {v : Value} {as bs : List Addr} (h : Fills4 k d sk) (S : St c f ρ mo val fp s) (r : Reads s'.heap v d as) (sub : ∀ a ∈ as, a ∈ bs) (ko : KOk f mo fp s.heap s'.heap k bs) :
    sk ≠ .ow ∧ (∀ a ∈ as, ¬ mo a) ∧ (sk = .lo → ∀ a ∈ as, f.h₀.get? a = none) := by
  cases h with
  | lo => exact ⟨by nofun, fun a ha => (ko.2 a (sub a ha)).1, fun _ a ha => (ko.2 a (sub a ha)).2⟩
  | fr => have := (KOk.fr_lo S ko).2; exact ⟨by nofun, fun a ha => (this a (sub a ha)).1, fun _ a ha => (this a (sub a ha)).2⟩
  | sh => exact ⟨by nofun, fun a ha => ko.2 a (sub a ha), by nofun⟩
  | flat hf hs => rw [reads_flat r hf]; exact ⟨hs, nofun, fun _ => nofun⟩
theorem slotOk_of {as : List Addr} {h : Heap} (h1 : sk ≠ .ow) (h2 : ∀ a ∈ as, ¬ mo a) (h3 : sk = .lo → ∀ a ∈ as, f.h₀.get? a = none) : SlotOk f ρ i mo fp h sk as := by
  cases sk with
  | sh => exact h2
  | lo => exact fun a ha => ⟨h2 a ha, h3 rfl a ha⟩
  | ow => exact absurd rfl h1
theorem moWith_not {as : List Addr} {a : Addr} (h : sk ≠ .ow) (q : moWith mo sk as a) : mo a := q.elim id fun r => absurd r.1 h
theorem reads_keep (S : St c f ρ mo val fp s) (hk : ∀ b o, ¬ Pv f b → s.heap.get? b = some o → s'.heap.get? b = some o) {v : Value} {as : List Addr} (hL : f.env.locals ∉ as) (r : Reads s.heap v d as) : Reads s'.heap v d as := by
  refine reads_upon r (fun a ha o e _ => ?_) (fun a o e ht hd => ?_)
  · obtain ⟨o', e', hl⟩ := reads_objs r a ha
    exact hk a o (pv_ld S e' hl (fun q => hL (q ▸ ha))) e
  · refine hk a o (fun hp => ?_) e
    obtain ⟨o2, h2, h3⟩ := pv_obj S hp
    rw [e] at h2; cases h2
    obtain ⟨_, _, hd⟩ := hd
    rcases h3 with ⟨_, _, h⟩ | ⟨_, h⟩ <;> rw [hd] at h <;> cases h
theorem two_of {vs : Array Value} (h : vs.size = 2) : ∃ v1 v2, vs.toList = [v1, v2] := by
  cases vs with | mk l =>
  match l, h with | [a, b], _ => exact ⟨a, b, rfl⟩

/-- x, y = e -/
theorem s_unp2 (FS : FmS c f) (h : Ev c f ρ e (.tuple [d1, d2]) k) (hk1 : Fills4 k d1 sk1) (hk2 : Fills4 k d2 sk2) (hU1 : Upd f.xs ρ x (some ⟨sk1, d1⟩) ρ1 i) (hU2 : Upd f.xs ρ1 y (some ⟨sk2, d2⟩) ρ2 j) (hQ : Ex c f rest ρ2 Q)
    (hs : ∀ env, swapsWithSole [.Tuple [.Name x xp, .Name y yp] n tp] e pos.line env = pure false := by intro _; rfl)
    (hw : ∀ env, swappedStores [.Tuple [.Name x xp, .Name y yp] n tp] e env = pure none := by intro _; rfl) :
    Ex c f (.Assign [.Tuple [.Name x xp, .Name y yp] n tp] e pos :: rest) ρ Q := by
  obtain ⟨hx1, hi1, rfl⟩ := hU1.get
  obtain ⟨hx2, hi2, rfl⟩ := hU2.get
  refine ex_cons fun mo val fp s S => ?_
  refine Assign_Tuple (h.bind S fun v s1 as x1 S1 r1 ko => ?_) (hs _) (hw _)
  cases r1 with | tuple g1 g2 g3 g4 =>
  rename_i t o vs m
  have hsz : vs.size = 2 := by simpa using readsAll_length g4
  refine assign_Tuple_tuple S.ok.room.hand ⟨_, g1, g2, _, g3⟩ (by rw [hsz]; rfl) rfl (fun h' he => ?_)
  have x2 : Ext c s1 { s1 with heap := h' } := Ext.of S1.wf fun b o q => he b o (Nat.ne_of_lt (Heap.lt_size q)) q
  have S2 := S1.ext x2
  obtain ⟨v1, v2, hvs⟩ := two_of hsz
  rw [hvs] at g4 ⊢
  obtain _ | ⟨q1, q2⟩ := g4
  obtain _ | ⟨q2, q3⟩ := q2
  cases q3
  rename_i as1 as2
  obtain ⟨a1, a2, a3⟩ := hk1.ok S q1 (fun a ha => List.mem_append_left _ ha) ko
  obtain ⟨b1, b2, b3⟩ := hk2.ok S q2 (fun a ha => List.mem_append_right _ (List.mem_append_left _ ha)) ko
  have hL1 : f.env.locals ∉ as1 := fun q => ko.1 (List.mem_append_left _ q)
  have hL2 : f.env.locals ∉ as2 := fun q => ko.1 (List.mem_append_right _ (List.mem_append_left _ q))
  show wpAny _ _ (do holding [v2] (assign (.Name x xp) f.env v1); assignInOrder [assign (.Name y yp) f.env] [v2]) _ _ _
  refine wpAny_bind (wpAny_holding (wpAny_assign_Name ?_))
  refine store_step (sl := ⟨sk1, d1⟩) FS S2 hx1 hi1 (x2.reads S1.wf q1) hL1 (slotOk_of a1 a2 a3) fun s3 S3 hk3 th3 => ?_
  show wpAny _ _ (do holding [] (assign (.Name y yp) f.env v2); assignInOrder [] []) _ _ _
  refine wpAny_bind (wpAny_holding (wpAny_assign_Name ?_))
  refine store_step (sl := ⟨sk2, d2⟩) FS S3 hx2 hi2 (reads_keep S2 hk3 hL2 (x2.reads S1.wf q2)) hL2 (slotOk_of b1 (fun a ha q => b2 a ha (moWith_not a1 q)) b3) fun s4 S4 hk4 th4 => ?_
  refine wpAny_pure ⟨.next, _, _, _, _, trivial, S4, ⟨fun b o g1 g2 _ q => hk4 b o g2 (hk3 b o g2 ((x1.trans x2).up.kp b o g1 q)), fun b o q => ?_, fun b q => .inl (moWith_not a1 (moWith_not b1 q))⟩, hQ⟩
  obtain ⟨o1, e1⟩ := (x1.trans x2).up.th b o q
  obtain ⟨o2, e2⟩ := th3 b o1 e1
  exact th4 b o2 e2

/-- a flat item laid into a list that a variable owns, by an assignment within another -/
theorem assign_sub {jj : Int} {K : Unit → Shared → Prop} (FS : FmS c f) (S : St c f ρ mo val fp s) (hat : At f.xs ρ x ⟨.ow, .list xs⟩ i) (hi : Ev c f ρ ei (.int jj) k2) {v : Value} (r1 : Reads s.heap v d []) (h0 : 0 ≤ jj) (hfit : jj < 2 ^ 63)
    (hx : xs[jj.toNat]? = some d0) (hd0 : flat d0 = true)
    (hK : ∀ s' mo' val' fp', St c f (ρ.set i (some ⟨.ow, .list (xs.set jj.toNat d)⟩)) mo' val' fp' s' → Step c f mo s mo' s' → K () s')
    (hdb : (x == ("__debug__" : Str)) = false) (hn : (x == ("__classdict__" : Str)) = false) (hrel : ∀ (iv v ov : Value), (match ei with | .Slice _ _ none _ => [iv, v, ov] | _ => [v, ov, iv]) = [v, ov, iv]) :
    wpAny c.M f.A (assign (.Subscript (.Name x xp) ei sp) f.env v) K E s := by
  rw [arm_assign_Subscript]
  refine wpAny_bind (wpAny_holding (name_step S hat (fun _ => ?_) hdb hn))
  refine wpAny_bind (wpAny_holding (hi.bind S fun iv s3 as3 x3 S3 r3 _ => ?_))
  refine wpAny_bind (wpAny_standAt ?_)
  have e0 := hat.slot
  obtain ⟨a, vs, m, as, hva, hfp, hl, hr, hma⟩ := owned_list S3 e0
  cases r3
  rw [hva]
  have hlen : vs.size = xs.length := by simpa using readsAll_length hr
  have hjl : jj.toNat < xs.length := (List.getElem?_eq_some_iff.mp hx).1
  refine wpAny_bind (wpAny_holding (setItem_isL hl h0 hfit (by omega) fun hl2 => wpAny_release ?_))
  have hsb : Heap.SameBut a s3.heap (s3.heap.update a (Obj.mapSeq (·.setIfInBounds jj.toNat v))) := sameBut_update ..
  have nd := (S3.own i _ e0 rfl).1
  rw [hfp] at nd
  have r1' := reads_but hsb (isL_notTup hl) (by nofun) (x3.reads S.wf r1)
  have hr2 := readsAll_but hsb (isL_notTup hl) (List.nodup_cons.mp nd).1 hr
  have rd : Reads (s3.heap.update a (Obj.mapSeq (·.setIfInBounds jj.toNat v))) (val i) (.list (xs.set jj.toNat d)) (fp i) := by
    rw [hva, hfp]
    exact .list hl2 rfl rfl (by rw [Array.toList_setIfInBounds]; exact readsAll_set hr2 hx hd0 r1')
  have := S3.mut (tk := s3.toks) (as' := fp i) (extra := []) FS e0 (by rw [hfp]; exact List.mem_cons_self ..) hsb (Pl.of_isL hl2) rd (S3.own i _ e0 rfl).1 (fun a ha => .inl ha) nofun (fun _ _ _ _ _ _ h => by cases h) nofun
  exact hK _ _ _ _ this.1 ⟨fun b o h1 h2 h3 q => this.2.1 b o h3 (x3.up.kp b o h1 q), fun b o q => let ⟨o', q'⟩ := x3.up.th b o q; this.2.2 b o' q', fun b h => h.elim .inl (fun q => by cases q)⟩

/-- x[i], x[j] = (e1, e2), flat items of a list that x owns -/
theorem s_swap {jj1 jj2 : Int} {l1 l2 r1 r2 : Expr} {p1 p2 vp : Pos} {n2 : Nat} (FS : FmS c f) (hat : At f.xs ρ x ⟨.ow, .list xs⟩ i) (hv : Ev c f ρ (.Tuple [.Subscript l1 r1 p1, .Subscript l2 r2 p2] n2 vp) (.tuple [d1, d2]) k) (f1 : flat d1 = true) (f2 : flat d2 = true)
    (hi1 : Ev c f ρ ei (.int jj1) k1) (h01 : 0 ≤ jj1) (hfit1 : jj1 < 2 ^ 63) (hx1 : xs[jj1.toNat]? = some d01) (hd01 : flat d01 = true) (hU1 : Upd f.xs ρ x (some ⟨.ow, .list (xs.set jj1.toNat d1)⟩) ρ1 i)
    (hat2 : At f.xs ρ1 x ⟨.ow, .list (xs.set jj1.toNat d1)⟩ i)
    (hi2 : Ev c f ρ1 ei2 (.int jj2) k2) (h02 : 0 ≤ jj2) (hfit2 : jj2 < 2 ^ 63) (hx2 : (xs.set jj1.toNat d1)[jj2.toNat]? = some d02) (hd02 : flat d02 = true) (hU2 : Upd f.xs ρ1 x (some ⟨.ow, .list ((xs.set jj1.toNat d1).set jj2.toNat d2)⟩) ρ2 i)
    (hQ : Ex c f rest ρ2 Q)
    (hdb : (x == ("__debug__" : Str)) = false := by decide +kernel) (hn : (x == ("__classdict__" : Str)) = false := by decide +kernel)
    (hrel1 : ∀ (iv v ov : Value), (match ei with | .Slice _ _ none _ => [iv, v, ov] | _ => [v, ov, iv]) = [v, ov, iv] := by intros; rfl) (hrel2 : ∀ (iv v ov : Value), (match ei2 with | .Slice _ _ none _ => [iv, v, ov] | _ => [v, ov, iv]) = [v, ov, iv] := by intros; rfl)
    (hs : ∀ env, swapsWithSole [.Tuple [.Subscript (.Name x xp) ei sp, .Subscript (.Name x yp) ei2 sp2] n tp] (.Tuple [.Subscript l1 r1 p1, .Subscript l2 r2 p2] n2 vp) pos.line env = pure false := by intro _; rfl) :
    Ex c f (.Assign [.Tuple [.Subscript (.Name x xp) ei sp, .Subscript (.Name x yp) ei2 sp2] n tp] (.Tuple [.Subscript l1 r1 p1, .Subscript l2 r2 p2] n2 vp) pos :: rest) ρ Q := by
  obtain ⟨hy1, hi1', rfl⟩ := hU1.get
  obtain ⟨hy2, hi2', rfl⟩ := hU2.get
  have hw : swappedStores [.Tuple [.Subscript (.Name x xp) ei sp, .Subscript (.Name x yp) ei2 sp2] n tp] (.Tuple [.Subscript l1 r1 p1, .Subscript l2 r2 p2] n2 vp) f.env = pure none := by
    unfold swappedStores
    by_cases hb : (f.env.blockKind != .function) = true
    · simp [hb]
    · simp [hb]
  refine ex_cons fun mo val fp s S => ?_
  refine Assign_Tuple (hv.bind S fun v s1 as x1 S1 r1 ko => ?_) (hs _) hw
  cases r1 with | tuple g1 g2 g3 g4 =>
  rename_i t o vs m
  have hsz : vs.size = 2 := by simpa using readsAll_length g4
  refine assign_Tuple_tuple S.ok.room.hand ⟨_, g1, g2, _, g3⟩ (by rw [hsz]; rfl) rfl (fun h' he => ?_)
  have x2 : Ext c s1 { s1 with heap := h' } := Ext.of S1.wf fun b o q => he b o (Nat.ne_of_lt (Heap.lt_size q)) q
  have S2 := S1.ext x2
  obtain ⟨v1, v2, hvs⟩ := two_of hsz
  rw [hvs] at g4 ⊢
  obtain _ | ⟨q1, q2⟩ := g4
  obtain _ | ⟨q2, q3⟩ := q2
  cases q3
  have w1 := x2.reads S1.wf q1
  have w2 := x2.reads S1.wf q2
  rw [reads_flat q1 f1] at w1
  rw [reads_flat q2 f2] at w2
  show wpAny _ _ (do holding [v2] (assign (.Subscript (.Name x xp) ei sp) f.env v1); assignInOrder [assign (.Subscript (.Name x yp) ei2 sp2) f.env] [v2]) _ _ _
  refine wpAny_bind (wpAny_holding (assign_sub FS S2 hat hi1 w1 h01 hfit1 hx1 hd01 (fun s3 mo3 val3 fp3 S3 X3 => ?_) hdb hn hrel1))
  show wpAny _ _ (do holding [] (assign (.Subscript (.Name x yp) ei2 sp2) f.env v2); assignInOrder [] []) _ _ _
  refine wpAny_bind (wpAny_holding (assign_sub FS S3 hat2 hi2 (reads_upon w2 (by nofun) fun a o q hc hd => X3.tuple S2 q hc hd) h02 hfit2 hx2 hd02 (fun s4 mo4 val4 fp4 S4 X4 => ?_) hdb hn hrel2))
  exact wpAny_pure ⟨.next, _, _, _, _, trivial, S4, (Step.ext (x1.trans x2)).trans (X3.trans X4), hQ⟩
end
end Mine

namespace Mine
open PySem PySem.Spec PySem.Calls PyProof.Rows

/-- the module of the builtins, as a frame of its own needs it -/
def BMok (c : Cx) : Prop := ∃ bm ob, c.mg "__builtins__" = some (.ref bm) ∧ bm ≠ builtinsNs ∧ c.hB.get? bm = some ob ∧ ob.cls = .type "module" ∧ ob.dict = some builtinsNs ∧ ob.data = .plain ∧ ¬ c.X bm
/-- the running function's code has a table of inner codes, which may grow -/
def CodeTab (c : Cx) (f : Fm) : Prop := ∃ cd P, f.env.code = .ref cd ∧ c.X P ∧ ¬ c.X cd ∧ P ≠ cStatics ∧ c.hB.IsCode cd P #[] ∧ c.hB.TableAt cd P #[]

theorem oldK_on {h₀ h h' : Heap} (K : OldK h₀ h) (hs : ∀ b o o', h₀.get? b = some o → h.get? b = some o' → h'.get? b = some o') : OldK h₀ h' := by
  refine ⟨fun b o e => ?_, fun b o e => let ⟨o', ho'⟩ := K.there b o e; ⟨o', hs b o o' e ho'⟩⟩
  rcases K.old b o e with x | ⟨t, hc, vs, more, hv, x⟩ | ⟨rfl, hc, ⟨o', es, n, ho', r⟩, z⟩
  · exact .inl (hs b o _ e x)
  · exact .inr (.inl ⟨t, hc, vs, more, hv, hs b o _ e x⟩)
  · exact .inr (.inr ⟨rfl, hc, ⟨o', es, n, hs _ o _ e ho', r⟩, fun key => by rw [OldK.staticOf_congr ((hs _ o _ e ho').trans ho'.symm) key]; exact z key⟩)

section
variable {c : Cx} {f : Fm} {ρ : Rho} {mo : Addr → Prop} {val : Nat → Value} {fp : Nat → List Addr} {s : Shared} {E : Value → Shared → Prop}

theorem gen_code {A : Around} {pos : Pos} {q : Str} {scope : Scope} {K : Value → Shared → Prop} (W : Wf c s) (HT : CodeTab c f)
    (hK : ∀ code h' tk, Ext c s { s with heap := h', toks := tk } → s.heap.objs.size ≤ h'.objs.size → K code { s with heap := h', toks := tk }) : wpAny c.M A (genexprCode f.env pos q scope) K E s := by
  obtain ⟨cd, P, hcode, hX, hcX, hPs, hI, hT⟩ := HT
  obtain ⟨⟨ps, htr⟩, hP⟩ := W.tab P hX
  have hT' : s.heap.TableAt cd P ps := by
    obtain ⟨⟨o, vs, a, r⟩, _⟩ := hT
    exact ⟨⟨o, vs, W.base _ _ hcX a, r⟩, hP⟩
  obtain ⟨o, vs, file, tf, flags, tg, inF, text, tt, op, ho, hd, h11, h2, h7, h9, h10, hop, hpd, _, hne⟩ := hI
  have ho' := W.base _ _ hcX ho
  have hI' : s.heap.IsCode cd P ps := ⟨o, vs, file, tf, flags, tg, inF, text, tt, _, ho', hd, h11, h2, h7, h9, h10, hP, rfl, htr, hne⟩
  cases hnf : codeAmong pos ps.toList with
  | none =>
    refine wpAny_genexprCodeX hcode hI' hT' hnf fun c' h' tk hx hge hlt hc' _ ht' _ => ?_
    refine hK _ h' tk ⟨⟨fun b o hb e => hx b o (fun q => hb (q ▸ hX)) e, fun b o e => ?_⟩, ⟨fun b o hb e => ?_, fun b hb => ?_, ?_, W.gens, W.os⟩⟩ (by omega)
    · by_cases hb : b = P
      · exact ⟨_, hb ▸ ht'.2⟩
      · exact ⟨o, hx b o hb e⟩
    · exact hx b o (fun q => hb (q ▸ hX)) (W.base b o hb e)
    · by_cases hbP : b = P
      · subst hbP
        refine ⟨⟨ps ++ #[rawInt pos.line, rawInt pos.col, .ref c'], ?_⟩, ht'.2⟩
        have : (ps ++ #[rawInt pos.line, rawInt pos.col, Value.ref c']).toList = ps.toList ++ [rawInt pos.line, rawInt pos.col, .ref c'] := by simp
        rw [this]; exact TriplesOk_snoc _ _ _ _ htr
      · obtain ⟨ps2, e⟩ := W.tab b hb; exact ⟨ps2, hx b _ hbP e⟩
    · exact W.old.step_table hT hT' ht' hx hPs
  | some cv =>
    unfold genexprCode codeAt
    rw [hcode, if_neg (show ¬ ((Value.ref cd == Value.none) = true) from Bool.false_ne_true)]
    refine wpAny_bind (wpAny_fieldsOf ho' hd ?_)
    rw [h11]
    refine wpAny_bind (wpAny_fieldsOf hP rfl ?_)
    rw [hnf]
    exact wpAny_pure (hK cv s.heap s.toks (Ext.refl W) (Nat.le_refl _))

theorem keepsRefl (s : Shared) : Keeps s s := ⟨s.heap, s.toks, rfl, fun _ _ e => e⟩
theorem pass_all (n : Nat) : passing (fun _ => true) n 0 = List.range n := by unfold passing; simp

end
end Mine

namespace Mine
open PySem PySem.Spec PySem.Calls PyProof.Rows

def fnAt (p : Program) (i : Nat) : FnD :=
  match p.main.body[i]? with
  | some (.FunctionDef name args body _ _ _ scope _ _ _) => ⟨name, args, body, scope⟩
  | _ => ⟨"", ⟨[], [], none, [], [], none, []⟩, [], { kind := .function, names := [], isGenerator := false, isCoroutine := false, more := [] }⟩

end Mine

namespace Mine
open PySem PySem.W PySem.Spec PySem.Calls PyProof.Rows

/-- the context of a law: the heap at its call -/
def cxOf (prog : Program) (w : World) (s₁ : Shared) (mg mb : Str → Option Value) : Cx := ⟨prog, w, s₁.heap, fun _ => False, mg, mb, s₁.os⟩

section
variable {p prog : Program} {loose : List Str} {mean : ExcName → Option Value} {mg mb : Str → Option Value} {w : World} {s₁ : Shared}

theorem bi_of (T : Top p loose mean mg mb s₁.heap) {x : Str} {v : Value} (hb : bootBuiltins x = some v) (hne : x ≠ "__name__")
    (h : (decide (x ∉ startupNames) && decide (x ∉ loose) && decide (x ∉ (recsOf p).map (·.name)) && decide (x ∉ (litsOf p).map (·.1)) && decide (x ∉ (clssOf p loose).map (·.name))) = true) : Bi (cxOf prog w s₁ mg mb) x v := by
  simp only [Bool.and_eq_true, decide_eq_true_eq] at h
  exact ⟨T.free x h.1.1.1.1 h.1.1.1.2 h.1.1.2 h.1.2 h.2, hb, hne⟩
end

end Mine

namespace Mine
open PySem PySem.Spec PySem.Calls PyProof.Rows
section
variable {c : Cx} {f : Fm} {ρ : Rho} {mo : Addr → Prop} {val : Nat → Value} {fp : Nat → List Addr} {s : Shared} {E : Value → Shared → Prop}
theorem ev_sumG {elt e : Expr} {x : Str} {px np pos cp : Pos} {scope : Scope} {ds : List PyData} {k : EK} (C : CxOk c) (BM : BMok c) (HT : CodeTab c f) (B : Bi c "sum" (.builtin "sum")) (hx : f.env.kindOf "sum" = some .globalImplicit) (h : Ev c f ρ e (.list ds) k)
    (cl : List (Str × Addr)) (hclos : closureFor scope f.env = pure cl) (hcell : ∀ y ∈ scope.names, y.2 ≠ .cell) (h0 : scope.names.lookup (".0" : Str) = some NameKind.local) (hxl : scope.names.lookup x = some .local) (hkind : scope.kind = .function) (hco : scope.isCoroutine = false)
    (tr : Nat → Int)
    (helt : ∀ mo val fp s1, St c f ρ mo val fp s1 → ∀ (L : Addr) (code : Value) (A' : Around) (E' : Value → Shared → Prop) (i : Nat) (v : Value) (t : Shared) (m₂ : Str → Option Value), A'.handled = none → A'.depth ≤ f.A.depth + 1 → A'.units ≤ f.A.units + 8 →
      (∃ d as, ds[i]? = some d ∧ Reads s1.heap v d as) → t.heap.Ns L m₂ → m₂ x = some v → (∀ b o, ¬ c.X b → s1.heap.get? b = some o → t.heap.get? b = some o) →
      wpAny c.M A' (eval elt (genEnv scope cl L code builtinsNs f.env)) (fun y s₃ => (∃ t', y = .int (tr i) t') ∧ Keeps t s₃) E' t)
    (hs : ∀ env x, genFold e env x = pure x := by intro _ _; rfl) :
    Ev c f ρ (.Call (.Name "sum" np) [.GeneratorExp elt [⟨.Name x px, e, [], 0⟩] scope pos] [] cp) (.int (preSum tr ds.length)) .fr := by
  intro mo val fp s E S
  refine Call_ (builtin_name C B hx S ?_)
  refine callWith_builtin rfl ?_
  refine evalArgs_plain (spliced_cons ?_)
  have hroom : f.A.depth < recursionLimit := by have := S.ok.room.depth; omega
  refine wpAny_GeneratorExp_walksQD S.ok.room.hand hco hclos hcell h0 hxl hkind hroom (h.bind S fun v s1 as x1 S1 r1 ko => ?_) (hs _)
  cases r1 with | list g1 g2 g3 g4 =>
  rename_i a o vs n bs
  refine wpAny_pyIter_list ⟨_, g1, g2, _, g3⟩ ?_
  have x2 : Ext c s1 { s1 with heap := s1.heap.push { cls := .type "list_iterator", data := .fields #[.ref a, .int 0 0] } } := Ext.push S1.wf _ _
  have hne : a ≠ s1.heap.objs.size := Nat.ne_of_lt (Heap.lt_size g1)
  have hsz : vs.size = ds.length := by simpa using readsAll_length g4
  refine ⟨NoLimit.base x2.wf C, ?_⟩
  refine gen_code x2.wf HT fun code h3 tk3 x3 hsz3 => ?_
  rw [Heap.size_push] at hsz3
  have x13 := x2.trans x3
  obtain ⟨bm, ob, b1, b2, b3, b4, b5, b6, b7⟩ := BM
  refine wpAny_builtinsFor (bm := bm) (o := ob) (by rw [S.ok.glob]; exact Ns.base x3.wf C.g C.gX) b1 b2 (x3.wf.base _ _ b7 b3) b4 b5 b6 ?_
  have hIn := get_size_none s1.heap
  have ltI : ∀ b o, s1.heap.get? b = some o → b ≠ s1.heap.objs.size := fun b o e => Nat.ne_of_lt (Heap.lt_size e)
  have nXI : ¬ c.X s1.heap.objs.size := fun hX => by obtain ⟨ps, q⟩ := S1.wf.tab _ hX; rw [hIn] at q; cases q
  have hI3 : h3.get? s1.heap.objs.size = some { cls := .type "list_iterator", data := .fields #[.ref a, .int 0 0] } := x3.up.kp _ _ nXI (Heap.get?_push_size _ rfl)
  have ha3 : h3.get? a = some o := x13.up.kp a _ (not_tab S1.wf g1 (by rw [g2]; nofun)) g1
  refine ⟨s1.heap.objs.size, [s1.heap.objs.size, a], [s1.heap.objs.size], vs.size, fun i v => vs[i]? = some v, _, fun _ => true, fun i y => ∃ t', y = .int (tr i) t', rfl, fun A' hA => Walks.list hA s1.heap.objs.size a hne vs,
    ⟨⟨_, hI3, rfl, rfl⟩, ⟨_, ha3, g2, _, g3⟩⟩, fun b hb => ?_, NoLimit.base x3.wf C, fun hm => ?_, fun href hk => ⟨fun A' E' i v t m₂ hA hD hU hP hn hm hkp => wpAny_pure ⟨rfl, keepsRefl _⟩, fun A' E' i v t m₂ hA hD hU hP _ hn hm hkp => ?_⟩, fun g h5 tk gs hgb hag hsz5 hk5 W hat => ?_⟩
  · rcases List.mem_cons.mp hb with rfl | hb
    · exact Heap.lt_size hI3
    · rw [List.mem_singleton.mp hb]; exact Heap.lt_size ha3
  · obtain ⟨mc, n1, _⟩ := NoLimit.base S1.wf C
    obtain ⟨o2, _, _, e2, _⟩ := n1
    rw [List.mem_singleton.mp hm, hIn] at e2; cases e2
  · refine helt mo val fp s1 S1 _ code A' E' i v t m₂ hA hD hU ?_ hn hm fun b o hb e => ?_
    · have hil : i < vs.size := by
        rcases Nat.lt_or_ge i vs.size with q | q
        · exact q
        · rw [Array.getElem?_eq_none q] at hP; cases hP
      obtain ⟨d, hd⟩ : ∃ d, ds[i]? = some d := ⟨_, List.getElem?_eq_getElem (by omega)⟩
      obtain ⟨v', cs, q1, q2, q3⟩ := readsAll_item g4 hd
      have : v' = v := by
        have h1 : vs.toList[i]? = some v := by simpa using hP
        rw [q1] at h1; exact Option.some.inj h1
      subst this
      exact ⟨d, cs, hd, q2⟩
    · have e3 := x13.up.kp b o hb e
      exact hkp b (List.mem_range.mpr (Heap.lt_size e3)) (fun q => ltI b o e (List.mem_singleton.mp q)) o (hk b o e3)
  · refine spliced_nil ?_
    refine call_sum_walkAnyS (W.in4_1.self 0 _ _ _ hat ⟨g, _, _, _, _, _, _, tr, rfl, W.in4_1, hat, fun b hb => ?_, fun j y hP => ?_, fun s' t' hm => ?_⟩)
    · have hag' : h3.objs.size < g := hag
      have hb' : b ∈ g :: h3.objs.size :: List.range h3.objs.size := hb
      show b < h5.objs.size
      rw [hsz5]
      simp only [List.mem_cons, List.mem_range] at hb'
      rcases hb' with hb' | hb' | hb'
      · rw [hb']; exact Nat.lt_succ_self _
      · rw [hb']; exact Nat.lt_succ_of_lt hag'
      · exact Nat.lt_succ_of_lt (Nat.lt_trans hb' hag')
    · obtain ⟨i, hi, hy⟩ := hP
      rw [pass_all] at hi
      have : i = j := by
        rw [List.getElem?_eq_some_iff] at hi
        obtain ⟨hl, e⟩ := hi
        simpa using e.symm
      subst this
      exact hy
    · have hle : s1.heap.objs.size < h3.objs.size := Heap.lt_size hI3
      have kp : ∀ b o, b < s1.heap.objs.size → h3.get? b = some o → s'.heap.get? b = some o := fun b o hb e =>
        hm.heap b o (fun q => by
          rcases List.mem_cons.mp q with q | q
          · exact absurd (show b = h3.objs.size from q) (Nat.ne_of_lt (Nat.lt_trans hb hle))
          · exact absurd (List.mem_singleton.mp q) (Nat.ne_of_lt hb)) (hk5 b o e)
      have x4 : Ext c s1 s' := ⟨⟨fun b o hb e => kp b o (Heap.lt_size e) (x13.up.kp b o hb e), fun b o e => let ⟨o', e'⟩ := x13.up.th b o e; ⟨o', kp b o' (Heap.lt_size e) e'⟩⟩,
        ⟨fun b o hb e => kp b o (Heap.lt_size (S1.wf.base b o hb e)) (x3.wf.base b o hb e), fun b hb => ?_, ?_, ?_, ?_⟩⟩
      · refine ⟨x1.trans x4, [], ?_, frNil⟩
        rw [pass_all, List.length_range, hsz]; exact .int _ _
      · obtain ⟨ps, e⟩ := x3.wf.tab b hb
        obtain ⟨ps1, e1⟩ := S1.wf.tab b hb
        exact ⟨ps, kp b _ (Heap.lt_size e1) e⟩
      · refine oldK_on x3.wf.old fun b o o' e e' => ?_
        obtain ⟨o1, e1⟩ := S1.wf.old.there b o e
        exact kp b o' (Heap.lt_size e1) e'
      · exact hm.gens.bare (x3.wf.gens.push hgb)
      · exact hm.os.trans x3.wf.os


/-- sum(x[2] for x in e), the items triples of ints -/
theorem ev_sumT {e : Expr} {x : Str} {px np pos cp p1 p2 p3 : Pos} {n : Nat} {scope : Scope} {es : List (Nat × Nat × Int)} {k : EK} (C : CxOk c) (BM : BMok c) (HT : CodeTab c f) (B : Bi c "sum" (.builtin "sum")) (hx : f.env.kindOf "sum" = some .globalImplicit)
    (h : Ev c f ρ e (.list (es.map encE)) k)
    (cl : List (Str × Addr)) (hclos : closureFor scope f.env = pure cl) (hcell : ∀ y ∈ scope.names, y.2 ≠ .cell) (h0 : scope.names.lookup (".0" : Str) = some NameKind.local) (hxl : scope.names.lookup x = some .local) (hkind : scope.kind = .function) (hco : scope.isCoroutine = false)
    (hs : ∀ env x, genFold e env x = pure x := by intro _ _; rfl) (hdx : (x == ("__debug__" : Str)) = false := by decide +kernel) :
    Ev c f ρ (.Call (.Name "sum" np) [.GeneratorExp (.Subscript (.Name x p1) (.Constant (.int 2) n p2) p3) [⟨.Name x px, e, [], 0⟩] scope pos] [] cp) (.int (es.map (·.2.2)).sum) .fr := by
  refine Ev.cast (ev_sumG C BM HT B hx h cl hclos hcell h0 hxl hkind hco (fun i => (es.getD i (0, 0, 0)).2.2) ?_ hs) ?_
  · intro mo val fp s1 S1 L code A' E' i v t m₂ hA hD hU hP hn hm hk
    obtain ⟨d, as, hd, r⟩ := hP
    rw [List.getElem?_map] at hd
    cases hes : es[i]? with
    | none => rw [hes] at hd; cases hd
    | some e0 =>
    rw [hes] at hd
    cases hd
    have rt : Reads t.heap v (encE e0) as := reads_upon r (fun a ha o e p => hk a o (not_tab S1.wf e (plainish_cls p)) e) (fun a o e p _ => hk a o (not_tab S1.wf e (by rw [p]; nofun)) e)
    refine Subscript_ (wpAny_Name (wpAny_loadName_local hkind hxl hn hm ?_) hdx)
    refine wpAny_Constant_int ?_
    cases rt with | tuple g1 g2 g3 g4 =>
    rename_i a o vs m
    obtain ⟨v', bs, q1, q2, q3⟩ := readsAll_item (i := 2) (d := .int e0.2.2) g4 rfl
    have hsz : vs.size = 3 := by simpa using readsAll_length g4
    refine tail_any (T := "tuple") ⟨_, g1, g2⟩ slot_tuple_getitem.lookup ?_ (by rfl)
    cases q2
    exact PyProof.Rows.getItem_tuple (j := 2) ⟨_, g1, g2, _, g3⟩ (by decide) (by decide) (by unfold seqIndex?; simp [hsz]) (by simpa using q1) ⟨⟨_, by rw [List.getD_eq_getElem?_getD, hes]; rfl⟩, t.heap, _, rfl, fun _ _ e => e⟩
  · congr 1
    rw [List.length_map]
    have : ∀ k, k ≤ es.length → preSum (fun i => (es.getD i (0, 0, 0)).2.2) k = ((es.take k).map (·.2.2)).sum := by
      intro k
      induction k with
      | zero => intro _; rfl
      | succ k ih =>
        intro hk
        rw [preSum, ih (by omega), List.take_add_one, List.getElem?_eq_getElem (by omega), Option.toList_some, List.map_append, List.sum_append, List.getD_eq_getElem?_getD, List.getElem?_eq_getElem (by omega)]
        simp
    rw [this _ (Nat.le_refl _), List.take_length]
end
end Mine

namespace Mine
open PySem
/-! the sort of the model, as a tree of questions -/
def runT {α : Type} (lt : Nat → Nat → Bool) : W.KasT α → α
  | .ret a => a
  | .ask i j k => runT lt (k (lt i j))
/-- an answer, as a pair in order -/
def edR (q : Nat × Nat × Bool) : Nat × Nat := if q.2.2 = true then (q.1, q.2.1) else (q.2.1, q.1)
def reR (E : List (Nat × Nat)) : Nat → List Nat → List Nat
  | 0, S => S
  | k + 1, S => reR E k (E.foldl (fun S e => if S.contains e.1 && !S.contains e.2 then e.2 :: S else S) S)
def adjR (E : List (Nat × Nat)) : List Nat → Bool
  | [] => true
  | [_] => true
  | a :: b :: p => (E.contains (a, b) || (reR E 3 [a]).contains b) && adjR E (b :: p)
def leafR (n : Nat) (E : List (Nat × Nat)) (p : List Nat) : Bool := adjR E p && (List.range n).all (fun i => p.contains i) && p.all (fun i => decide (i < n)) && p.length == n
def treeR (n : Nat) : W.KasT (Array Nat) → List (Nat × Nat) → Bool
  | .ret p, E => leafR n E p.toList
  | .ask i j k, E => decide (i < n) && decide (j < n) && treeR n (k true) ((i, j) :: E) && treeR n (k false) ((j, i) :: E)
def cntR : W.KasT (Array Nat) → Nat
  | .ret p => 1
  | .ask i j k => cntR (k true) + cntR (k false)
theorem tree2 : treeR 2 (W.kas_sort 2) [] = true := by decide +kernel
theorem tree3 : treeR 3 (W.kas_sort 3) [] = true := by decide +kernel
theorem tree4 : treeR 4 (W.kas_sort 4) [] = true := by decide +kernel
theorem tree5 : treeR 5 (W.kas_sort 5) [] = true := by decide +kernel
theorem tree6 : treeR 6 (W.kas_sort 6) [] = true := by decide +kernel
end Mine

namespace Mine
open PySem PySem.Spec PySem.Calls PyProof.Rows

section
variable {n : Nat} {lt : Nat → Nat → Bool} {le : Nat → Nat → Prop}
theorem reR_ok {E : List (Nat × Nat)} (tr : ∀ a b c, le a b → le b c → le a c) (hE : ∀ q ∈ E, le q.1 q.2) {a : Nat} : ∀ (k : Nat) (S : List Nat), (∀ x ∈ S, le a x) → ∀ x ∈ reR E k S, le a x
  | 0, S, h => h
  | k + 1, S, h => by
    refine reR_ok tr hE k _ ?_
    suffices ∀ (F : List (Nat × Nat)), (∀ q ∈ F, le q.1 q.2) → ∀ S, (∀ x ∈ S, le a x) → ∀ x ∈ F.foldl (fun S e => if S.contains e.1 && !S.contains e.2 then e.2 :: S else S) S, le a x from this E hE S h
    intro F
    induction F with
    | nil => intro _ S h; exact h
    | cons e F ih =>
      intro hF S h
      rw [List.foldl_cons]
      refine ih (fun q hq => hF q (List.mem_cons_of_mem _ hq)) _ ?_
      split
      · rename_i hc
        have hc1 := (Bool.and_eq_true_iff.mp hc).1
        intro x hx
        rcases List.mem_cons.mp hx with rfl | hx
        · exact tr _ _ _ (h _ (List.contains_iff_mem.mp hc1)) (hF e (List.mem_cons_self ..))
        · exact h x hx
      · exact h
theorem adjR_ok {E : List (Nat × Nat)} (rf : ∀ a, le a a) (tr : ∀ a b c, le a b → le b c → le a c) (hE : ∀ q ∈ E, le q.1 q.2) : ∀ p, adjR E p = true → p.Pairwise le
  | [], _ => .nil
  | [a], _ => List.pairwise_singleton _ _
  | a :: b :: p, h => by
    unfold adjR at h
    obtain ⟨h1, h2⟩ := Bool.and_eq_true_iff.mp h
    have hp := adjR_ok rf tr hE (b :: p) h2
    have hab : le a b := by
      rcases Bool.or_eq_true_iff.mp h1 with q | q
      · exact hE _ (List.contains_iff_mem.mp q)
      · exact reR_ok tr hE 3 [a] (fun x hx => by rw [List.mem_singleton.mp hx]; exact rf a) b (List.contains_iff_mem.mp q)
    refine List.pairwise_cons.mpr ⟨fun x hx => ?_, hp⟩
    rcases List.mem_cons.mp hx with rfl | hx
    · exact hab
    · exact tr _ _ _ hab ((List.pairwise_cons.mp hp).1 x hx)
theorem treeR_ok (rf : ∀ a, le a a) (tr : ∀ a b c, le a b → le b c → le a c) (h1 : ∀ i j, lt i j = true → le i j) (h0 : ∀ i j, lt i j = false → le j i) : ∀ (t : W.KasT (Array Nat)) (E : List (Nat × Nat)), treeR n t E = true → (∀ q ∈ E, le q.1 q.2) →
    (runT lt t).toList.Pairwise le ∧ (∀ i, i < n → i ∈ (runT lt t).toList) ∧ (∀ i ∈ (runT lt t).toList, i < n) ∧ (runT lt t).toList.length = n
  | .ret p, E, h, hE => by
    unfold treeR leafR at h
    simp only [Bool.and_eq_true, List.all_eq_true, beq_iff_eq, decide_eq_true_eq, List.contains_iff_mem, List.mem_range] at h
    obtain ⟨⟨⟨q1, q2⟩, q3⟩, q4⟩ := h
    exact ⟨adjR_ok rf tr hE _ q1, q2, q3, q4⟩
  | .ask i j k, E, h, hE => by
    unfold treeR at h
    simp only [Bool.and_eq_true, decide_eq_true_eq] at h
    obtain ⟨⟨⟨q1, q2⟩, q3⟩, q4⟩ := h
    unfold runT
    cases hl : lt i j with
    | true =>
      refine treeR_ok rf tr h1 h0 (k true) _ q3 fun q hq => ?_
      rcases List.mem_cons.mp hq with rfl | hq
      · exact h1 i j hl
      · exact hE q hq
    | false =>
      refine treeR_ok rf tr h1 h0 (k false) _ q4 fun q hq => ?_
      rcases List.mem_cons.mp hq with rfl | hq
      · exact h0 i j hl
      · exact hE q hq
theorem kasWp_run {cmp : Nat → Nat → (Bool → Shared → Prop) → Shared → Prop} {s : Shared} (hc : ∀ i j C, i < n → j < n → C (lt i j) s → cmp i j C s) {Q : Array Nat → Shared → Prop} : ∀ (t : W.KasT (Array Nat)) (E : List (Nat × Nat)), treeR n t E = true → Q (runT lt t) s → W.KasT.kasWp cmp t Q s
  | .ret p, E, _, hQ => hQ
  | .ask i j k, E, h, hQ => by
    unfold treeR at h
    simp only [Bool.and_eq_true, decide_eq_true_eq] at h
    obtain ⟨⟨⟨q1, q2⟩, q3⟩, q4⟩ := h
    show cmp i j (fun b s' => W.KasT.kasWp cmp (k b) Q s') s
    refine hc i j _ q1 q2 ?_
    unfold runT at hQ
    cases hl : lt i j with
    | true => rw [hl] at hQ; exact kasWp_run hc (k true) _ q3 hQ
    | false => rw [hl] at hQ; exact kasWp_run hc (k false) _ q4 hQ
end
abbrev T3 := Int × Int × Int
abbrev g3 (ts : List T3) (i : Nat) : T3 := ts.getD i (0, 0, 0)
def lt3 (a b : T3) : Bool := if a.1 = b.1 then (if a.2.1 = b.2.1 then decide (a.2.2 < b.2.2) else decide (a.2.1 < b.2.1)) else decide (a.1 < b.1)
def srt3 (ts : List T3) : List T3 := if ts.length < 2 then ts else (runT (fun i j => lt3 (g3 ts i) (g3 ts j)) (W.kas_sort ts.length)).toList.map (g3 ts)
theorem tree_all {n : Nat} (h1 : 2 ≤ n) (h2 : n ≤ 6) : treeR n (W.kas_sort n) [] = true := by
  have : n = 2 ∨ n = 3 ∨ n = 4 ∨ n = 5 ∨ n = 6 := by omega
  rcases this with rfl | rfl | rfl | rfl | rfl
  · exact tree2
  · exact tree3
  · exact tree4
  · exact tree5
  · exact tree6
theorem g3_get {ts : List T3} {i : Nat} (h : i < ts.length) : ts[i]? = some (g3 ts i) := by
  rw [g3, List.getD_eq_getElem?_getD, List.getElem?_eq_getElem h]; rfl
theorem srt3_spec {ts : List T3} (h : ts.length ≤ 6) : (srt3 ts).Pairwise (fun a b => a.1 ≤ b.1) ∧ (∀ x, x ∈ srt3 ts ↔ x ∈ ts) ∧ (srt3 ts).length = ts.length := by
  unfold srt3
  by_cases q : ts.length < 2
  · rw [if_pos q]
    refine ⟨?_, fun _ => Iff.rfl, rfl⟩
    match ts, q with
    | [], _ => exact .nil
    | [a], _ => exact List.pairwise_singleton _ _
  · rw [if_neg q]
    obtain ⟨a1, a2, a3, a4⟩ := treeR_ok (n := ts.length) (lt := fun i j => lt3 (g3 ts i) (g3 ts j)) (le := fun i j => (g3 ts i).1 ≤ (g3 ts j).1) (fun _ => Int.le_refl _) (fun _ _ _ => Int.le_trans)
      (fun i j hl => by unfold lt3 at hl; split at hl <;> first | omega | (have := of_decide_eq_true hl; omega)) (fun i j hl => by unfold lt3 at hl; split at hl <;> first | omega | (have := of_decide_eq_false hl; omega)) _ _ (tree_all (by omega) h) (fun _ h => nomatch h)
    refine ⟨List.pairwise_map.mpr a1, fun x => ?_, by rw [List.length_map, a4]⟩
    rw [List.mem_map]
    constructor
    · rintro ⟨i, hi, rfl⟩
      exact List.mem_of_getElem? (g3_get (a3 i hi))
    · intro hx
      obtain ⟨i, hi⟩ := List.mem_iff_getElem?.mp hx
      have hl : i < ts.length := (List.getElem?_eq_some_iff.mp hi).1
      rw [g3_get hl] at hi
      exact ⟨i, a2 i hl, Option.some.inj hi⟩
end Mine

namespace Mine
open PySem PySem.Spec PySem.Calls PyProof.Rows
section
variable {c : Cx} {n : Nat}
/-- what a list of triples looks like -/
theorem trip_at {h : Heap} {v : Value} {t : T3} {as : List Addr} (r : Reads h v (encI t) as) : ∃ a o xs m t1 t2 t3, v = .ref a ∧ h.get? a = some o ∧ o.cls = .type "tuple" ∧ o.data = .seq xs m ∧ xs.toList = [.int t.1 t1, .int t.2.1 t2, .int t.2.2 t3] := by
  cases r with | tuple g1 g2 g3 g4 =>
  rename_i a o vs m
  generalize hl : vs.toList = l at g4
  cases g4 with | cons r1 g4 =>
  cases g4 with | cons r2 g4 =>
  cases g4 with | cons r3 g4 =>
  cases g4
  cases r1; cases r2; cases r3
  exact ⟨a, o, vs, m, _, _, _, rfl, g1, g2, g3, hl⟩
theorem trip_lt {prog : Program} {w : World} {A : Around} {E : Value → Shared → Prop} {s : Shared} {v1 v2 : Value} {a b : T3} {as bs : List Addr} (r1 : Reads s.heap v1 (encI a) as) (r2 : Reads s.heap v2 (encI b) bs) {Q : Bool → Shared → Prop} (hQ : Q (lt3 a b) s) :
    wpAny (model prog w) A (keyLt' (tuples' true) v1 v2) Q E s := by
  obtain ⟨x, ox, xs, m, t1, t2, t3, rfl, g1, g2, g3, hl⟩ := trip_at r1
  obtain ⟨y, oy, ys, m', u1, u2, u3, rfl, g1', g2', g3', hl'⟩ := trip_at r2
  refine W.kat_lt g1 g3 g1' g3' ?_
  have e1 : xs.size = 3 := by rw [← Array.length_toList, hl]; rfl
  have e2 : ys.size = 3 := by rw [← Array.length_toList, hl']; rfl
  rw [hl, hl', e1, e2]
  unfold lt3 at hQ
  refine W.kat_cons (wpAny_eqBool_int ?_)
  by_cases q1 : a.1 = b.1
  · rw [if_pos q1] at hQ
    rw [beq_iff_eq.mpr q1]
    refine W.kat_yes (W.kat_cons (wpAny_eqBool_int ?_))
    by_cases q2 : a.2.1 = b.2.1
    · rw [if_pos q2] at hQ
      rw [beq_iff_eq.mpr q2]
      refine W.kat_yes (W.kat_cons (wpAny_eqBool_int ?_))
      by_cases q3 : a.2.2 = b.2.2
      · rw [beq_iff_eq.mpr q3]
        refine W.kat_yes (W.kat_nil ?_)
        rw [q3, decide_eq_false (Int.lt_irrefl _)] at hQ
        exact hQ
      · rw [beq_eq_false_iff_ne.mpr q3]
        exact W.kat_no (W.kat_one _ _ (P.lt_int hQ))
    · rw [if_neg q2] at hQ
      rw [beq_eq_false_iff_ne.mpr q2]
      exact W.kat_no (W.kat_one _ _ (P.lt_int hQ))
  · rw [if_neg q1] at hQ
    rw [beq_eq_false_iff_ne.mpr q1]
    exact W.kat_no (oneLt_int hQ)

theorem readsAll_idx {h : Heap} {fv : Nat → Value} {fd : Nat → PyData} : ∀ l : List Nat, (∀ i ∈ l, Reads h (fv i) (fd i) []) → ReadsAll h (l.map fv) (l.map fd) []
  | [], _ => .nil
  | i :: l, H => .cons (as := []) (H i (List.mem_cons_self ..)) (readsAll_idx l fun j hj => H j (List.mem_cons_of_mem _ hj))
theorem readsAll_at0 {h : Heap} {vs : List Value} {ds : List PyData} (r : ReadsAll h vs ds []) {i : Nat} {d : PyData} (hd : ds[i]? = some d) : Reads h (vs.getD i .none) d [] := by
  obtain ⟨v, bs, q1, q2, q3⟩ := readsAll_item r hd
  rw [List.getD_eq_getElem?_getD, q1, Option.getD_some]
  rw [List.sublist_nil.mp q3] at q2
  exact q2
theorem range_getD {α : Type} (l : List α) (d : α) : l = (List.range l.length).map fun i => l.getD i d := by
  refine List.ext_getElem (by simp) fun i h1 h2 => ?_
  rw [List.getElem_map, List.getElem_range, List.getD_eq_getElem?_getD, List.getElem?_eq_getElem h1, Option.getD_some]
theorem tups_of {h : Heap} : ∀ {vs : List Value} {ts : List T3}, ReadsAll h vs (ts.map encI) [] → ∃ fs, W.KatTups h vs fs ∧ fs.length = vs.length ∧ ∀ v ∈ fs, ∃ i t, v = .int i t
  | [], [], _ => ⟨[], W.KatTups.nil, rfl, nofun⟩
  | [], t :: ts, r => by cases r
  | v :: vs, [], r => by cases r
  | v :: vs, t :: ts, r => by
    rw [List.map_cons] at r
    generalize hnil : ([] : List Addr) = z at r
    cases r with | cons r1 r2 =>
    rename_i as bs
    obtain ⟨rfl, rfl⟩ := List.append_eq_nil_iff.mp hnil.symm
    obtain ⟨fs, h1, h2, h3⟩ := tups_of r2
    obtain ⟨a, o, xs, m, t1, t2, t3, rfl, g1, g2, g3, hl⟩ := trip_at r1
    refine ⟨.int t.1 t1 :: fs, W.KatTups.cons g1 g2 g3 (by rw [← Array.getElem?_toList, hl]; rfl) h1, by simp [h2], fun v hv => ?_⟩
    rcases List.mem_cons.mp hv with rfl | hv
    · exact ⟨_, _, rfl⟩
    · exact h3 v hv
theorem zip_snd (vs : List Value) : (vs.toArray.zip vs.toArray).map (fun x => x.snd) = vs.toArray := by
  have : (vs.zip vs).map (fun x => x.snd) = vs := List.map_snd_zip (Nat.le_refl _)
  rw [List.zip_toArray, List.map_toArray, this]
theorem sort_trip {A : Around} {s : Shared} {E : Value → Shared → Prop} {Q : Value → Shared → Prop} {D : Addr} {vs : List Value} {ts : List T3} {m : Nat} (hD : s.heap.get? D = some { cls := .type "list", data := .seq vs.toArray m }) (rs : ReadsAll s.heap vs (ts.map encI) []) (hlen : ts.length ≤ 6)
    (hQ : ∀ h' vs' m', (∀ b o, b ≠ D → s.heap.get? b = some o → h'.get? b = some o) → h'.get? D = some { cls := .type "list", data := .seq vs'.toArray m' } → ReadsAll h' vs' ((srt3 ts).map encI) [] → Q .none { s with heap := h' }) :
    wpAny c.M A (call (.builtin "list.sort") [.ref D]) Q E s := by
  have hl : vs.length = ts.length := by simpa using readsAll_length rs
  refine wpAny_call_entry F.slot_list_sort ⟨_, hD, rfl⟩ F.entry_list_sort ?_ (args_list_sort _)
  rw [list_sort_plain]
  refine wpAny_bind (listItems_at hD rfl (wpAny_bind (listUpdate_at hD rfl ?_ (by simp [sizeLine]; omega) (by simp))))
  generalize hh1 : s.heap.update D (Obj.mapSeq fun x => #[]) = h1
  obtain ⟨e1, hD1⟩ : ∃ e1, h1.get? D = some { cls := .type "list", data := .seq #[] e1 } := ⟨_, by rw [← hh1]; exact Heap.get?_update_self _ hD rfl⟩
  have k1 : ∀ b o, b ≠ D → s.heap.get? b = some o → h1.get? b = some o := fun b o hb q => by rw [← hh1, Heap.get?_update_ne _ _ _ _ hb]; exact q
  refine wpAny_bind (seqEpoch_at hD1 rfl (wpAny_bind (wpAny_newTuple (wpAny_bind (wpAny_newList ?_ (by simp))) (by simp [sizeLine]; omega))))
  generalize hh3 : (h1.push { cls := .type "tuple", data := .seq vs.toArray.toList.toArray }).push { cls := .type "list", data := .seq ([] : List Value).toArray } = h3
  have hh3' : ((({ s with heap := h1 } : Shared).heap.push { cls := .type "tuple", data := .seq vs.toArray.toList.toArray }).push { cls := .type "list", data := .seq ([] : List Value).toArray }) = h3 := hh3
  have k3 : ∀ b o, h1.get? b = some o → h3.get? b = some o := fun b o q => by rw [← hh3]; exact Heap.get?_push_of_some _ (Heap.get?_push_of_some _ q)
  have hD3 := k3 _ _ hD1
  have rs3 : ReadsAll h3 vs (ts.map encI) [] := readsAll_upon rs (fun _ hb => nomatch hb) (fun b o q ht _ => k3 b o (k1 b o (fun e => by rw [e, hD] at q; cases q; simp at ht) q))
  refine wpAny_holding ?_
  change wpAny (model c.prog c.w) A.in1 _ _ _ { s with heap := h3 }
  have tail : ∀ (vs' : List Value), ReadsAll h3 vs' ((srt3 ts).map encI) [] → Q .none { s with heap := h3.update D (Obj.mapSeq fun x => vs'.toArray) } := by
    intro vs' hr
    generalize hh4 : h3.update D (Obj.mapSeq fun x => vs'.toArray) = h4
    obtain ⟨e2, hD4⟩ : ∃ e2, h4.get? D = some { cls := .type "list", data := .seq vs'.toArray e2 } := ⟨_, by rw [← hh4]; exact Heap.get?_update_self _ hD3 rfl⟩
    have k4 : ∀ b o, b ≠ D → h3.get? b = some o → h4.get? b = some o := fun b o hb q => by rw [← hh4, Heap.get?_update_ne _ _ _ _ hb]; exact q
    refine hQ h4 vs' e2 (fun b o hb q => k4 b o hb (k3 b o (k1 b o hb q))) hD4 ?_
    exact readsAll_upon hr (fun _ hb => nomatch hb) (fun b o q ht _ => k4 b o (fun e => by rw [e, hD3] at q; cases q; simp at ht) q)
  show wpAny _ _ (if vs.toArray.size < 2 then _ else _) _ _ _
  by_cases hsz : vs.toArray.size < 2
  · rw [if_pos hsz]
    refine wpAny_bind (wpAny_pure ?_)
    rw [if_pos hsz]
    refine wpAny_bind (wpAny_pure ?_)
    have hts : ts.length < 2 := by simpa [hl] using hsz
    have ha := zip_snd vs
    refine wpAny_bind (seqEpoch_at hD3 rfl (wpAny_bind (listUpdate_at hD3 rfl ?_ (by simp) ?_)))
    · show wpAny _ _ (if (e1 != e1) = true then _ else _) _ _ _
      rw [if_neg (by simp)]
      refine wpAny_pure ⟨_, rfl, ?_⟩
      show Q .none { s with heap := h3.update D (Obj.mapSeq fun x => (vs.toArray.zip vs.toArray).map (fun x => x.snd)) }
      rw [ha]
      refine tail vs ?_
      rw [srt3, if_pos hts]
      exact rs3
    · show ((vs.toArray.zip vs.toArray).map (fun x => x.snd)).size ≤ _
      rw [ha]; simp [sizeLine]; omega
  · rw [if_neg hsz]
    have hts : 2 ≤ ts.length := by simp [hl] at hsz; omega
    obtain ⟨fs, t1, t2, t3⟩ := tups_of rs3
    refine wpAny_bind (W.kat_kind (T := .type "int") t1 (by omega) (fun v hv => ?_) (by rfl) ?_)
    · obtain ⟨i, t, rfl⟩ := t3 v hv
      exact fun A Q E s _ hQ => wpAny_pure hQ
    rw [if_neg hsz]
    refine wpAny_bind (wpAny_mono (W.kat_run (vs := vs) (ks := vs) (κ := tuples' true) (Q := fun st s' => s' = { s with heap := h3 } ∧ failedOf st = none ∧ (arrOf st).map (fun x => x.snd) = ((runT (fun i j => lt3 (g3 ts i) (g3 ts j)) (W.kas_sort ts.length)).toList.map fun i => vs.getD i .none).toArray)
      (G := fun p s' => p = runT (fun i j => lt3 (g3 ts i) (g3 ts j)) (W.kas_sort ts.length) ∧ s' = { s with heap := h3 }) rfl (by omega) (by omega) (fun p st' s' hp ha hf hG => ⟨hG.2, hf, ?_⟩) ?_) (fun r s' hr => ?_) fun _ _ z => z)
    · rw [ha, ← hG.1]
      rw [Array.map_map]
      rw [← Array.toArray_toList (xs := Array.map _ p), Array.toList_map]
      congr 1
      refine List.map_congr_left fun i _ => ?_
      show (W.kas_item (vs.toArray.zip vs.toArray) i).2 = _
      rw [W.kat_item rfl]
    · rw [hl]
      refine kasWp_run (n := ts.length) (lt := fun i j => lt3 (g3 ts i) (g3 ts j)) (fun i j C hi hj hC => ?_) _ _ (tree_all hts hlen) ⟨rfl, rfl⟩
      exact trip_lt (s := { s with heap := h3 }) (readsAll_at0 rs3 (by rw [List.getElem?_map, g3_get hi]; rfl)) (readsAll_at0 rs3 (by rw [List.getElem?_map, g3_get hj]; rfl)) hC
    · obtain ⟨⟨⟩, st⟩ := r
      obtain ⟨rfl, hf, ha⟩ := hr
      have hts' : ts.length ≤ 6 := hlen
      obtain ⟨_, _, b3, b4⟩ := treeR_ok (n := ts.length) (lt := fun i j => lt3 (g3 ts i) (g3 ts j)) (le := fun _ _ => True) (fun _ => trivial) (fun _ _ _ _ _ => trivial) (fun _ _ _ => trivial) (fun _ _ _ => trivial) _ _ (tree_all hts hlen) (fun _ _ => trivial)
      refine wpAny_bind (seqEpoch_at hD3 rfl (wpAny_bind (listUpdate_at hD3 rfl ?_ (by simp) ?_)))
      · generalize failedOf st = fo at hf
        subst hf
        show wpAny _ _ (if (e1 != e1) = true then _ else _) _ _ _
        rw [if_neg (by simp)]
        refine wpAny_pure ⟨_, rfl, ?_⟩
        show Q .none { s with heap := h3.update D (Obj.mapSeq fun x => (arrOf st).map (fun x => x.snd)) }
        rw [ha]
        refine tail _ ?_
        rw [srt3, if_neg (by omega), List.map_map]
        exact readsAll_idx _ fun i hi => readsAll_at0 rs3 (by rw [List.getElem?_map, g3_get (b3 i hi)]; rfl)
      · show ((arrOf st).map (fun x => x.snd)).size ≤ _
        rw [ha, List.size_toArray, List.length_map, b4]; simp [sizeLine]; omega

/-- sorted(xs), xs a list of triples of ints -/
theorem vc_sorted3 {ts : List T3} (hlen : ts.length ≤ 6) : VC c n (.builtin "sorted") [.list (ts.map encI)] (.list ((srt3 ts).map encI)) := fun A s vals ass E R W r => by
  cases r with | cons r1 r2 => cases r2; cases r1 with
  | list g1 g2 g3 g4 =>
    rename_i a o vs m bs
    have hl : vs.size = ts.length := by simpa using readsAll_length g4
    have hb := readsAll_flat g4 (flats_map (fun _ => rfl) _)
    subst hb
    refine Calls.call_function_entry kind_sorted plain_sorted entry_sorted (args_sorted1 _) ?_
    unfold Builtin.sorted
    refine wpAny_bind (wpAny_of_eq (show checkCount "sorted" 1 1 1 = pure () from rfl) ?_)
    refine wpAny_bind (wpAny_collect_seq a (T := "list") (.inl rfl) g1 g2 g3 (fun h1 k1 => ?_) (by simp [sizeLine]; omega))
    refine wpAny_bind (wpAny_newList ?_ (by simp [sizeLine]; omega))
    have x1 : Ext c s { s with heap := h1.push { cls := .type "list", data := .seq vs.toList.toArray } } := Ext.of W fun b o q => Heap.get?_push_of_some _ (k1 b o q)
    have hDs : s.heap.get? h1.objs.size = none := by
      cases q : s.heap.get? h1.objs.size with
      | none => rfl
      | some o' => exact absurd (Heap.lt_size (k1 _ _ q)) (Nat.lt_irrefl _)
    refine wpAny_bind (wpAny_holding (sort_trip (s := { s with heap := h1.push { cls := .type "list", data := .seq vs.toList.toArray } }) (D := h1.objs.size) (Heap.get?_push_size _ rfl) (x1.readsAll W g4) hlen fun h' vs' m' hk hD hr => ?_))
    refine wpAny_pure ⟨_, rfl, ?_⟩
    have x2 : Ext c s { s with heap := h' } := Ext.of W fun b o q => hk b o (fun e => by rw [e, hDs] at q; cases q) (Heap.get?_push_of_some _ (k1 b o q))
    refine ⟨x2, [h1.objs.size], .list hD rfl rfl (by simpa using hr), by simp, fun b hb => ?_, fun b hb => ?_⟩
    · rw [List.mem_singleton.mp hb]; exact hDs
    · rw [List.mem_singleton.mp hb]; exact ⟨_, hD, .inl ⟨rfl, _, _, rfl⟩, rfl, rfl⟩
end
end Mine

namespace Mine
open PySem PySem.Spec PySem.Calls PyProof.Rows
def ItL (c : Cx) (f : Fm) (ρ : Rho) (e : Expr) (ds : List PyData) (k : EK) : Prop :=
  ∀ mo val fp s E, St c f ρ mo val fp s → wpAny c.M f.A (eval e f.env) (fun xv s1 => wpAny c.M f.A (pyIter xv) (fun it s2 => Ext c s s2 ∧
    ∃ I Fp wr P Sx as, it = .ref I ∧ (∀ i h, Sx i h → ∃ l, h.IsListIter I l i) ∧ Itr c f mo fp s s2 ds k I Fp wr P Sx as) E s1) E s
section
variable {c : Cx} {f : Fm} {ρ : Rho} {mo : Addr → Prop} {val : Nat → Value} {fp : Nat → List Addr} {s : Shared} {E : Value → Shared → Prop} {Q : Fl → Rho → Prop} {body : List Stmt} {pos : Pos}
theorem it_listL {e : Expr} {ds : List PyData} {k : EK} (h : Ev c f ρ e (.list ds) k) : ItL c f ρ e ds k.sub := fun mo val fp s E S => by
  refine h.bind S fun v s1 as x1 S1 r1 ko => ?_
  cases r1 with
  | list g1 g2 g3 g4 =>
    rename_i a o vs n bs
    refine wpAny_pyIter_list ⟨_, g1, g2, _, g3⟩ ?_
    have x2 : Ext c s1 { s1 with heap := s1.heap.push { cls := .type "list_iterator", data := .fields #[.ref a, .int 0 0] } } := Ext.push S1.wf _ _
    have hne : a ≠ s1.heap.objs.size := Nat.ne_of_lt (Heap.lt_size g1)
    have hnL : a ≠ f.env.locals := fun q => ko.1 (q ▸ List.mem_cons_self ..)
    have hlen := readsAll_length g4
    have hIn := get_size_none s1.heap
    have g4' := x2.readsAll S1.wf g4
    have hsz : vs.size = ds.length := by simpa using hlen
    refine ⟨x1.trans x2, s1.heap.objs.size, [s1.heap.objs.size, a], [s1.heap.objs.size], _, _, a :: bs, rfl, (fun i h st => ⟨a, st.1⟩), ⟨hsz ▸ Walks.list S.ok.room.hand s1.heap.objs.size a hne vs,
      ⟨⟨_, Heap.get?_push_size _ rfl, rfl, rfl⟩, ⟨_, x2.up.kp a _ (not_tab S1.wf g1 (by rw [g2]; nofun)) g1, g2, _, g3⟩⟩, fun b hb => ?_, fun b hb => ?_, fun b hb => ?_, fun hs b hb => ?_, fun i h st b hb => ?_, fun b hb => ?_, fun j v d hP hd => ?_, ?_, fun b hb => ?_⟩⟩
    · rcases List.mem_cons.mp hb with rfl | hb
      · exact ⟨_, Heap.get?_push_size _ rfl⟩
      · rw [List.mem_singleton.mp hb]; exact ⟨_, Heap.get?_push_of_some _ g1⟩
    · rcases List.mem_cons.mp hb with rfl | hb
      · intro hp
        obtain ⟨o2, h2, _⟩ := pv_obj S1 hp
        rw [hIn] at h2; cases h2
      · rw [List.mem_singleton.mp hb]; exact pv_ld S1 g1 (.inl ⟨g2, _, _, g3⟩) hnL
    · rcases List.mem_cons.mp hb with rfl | hb
      · intro hx
        obtain ⟨ps, q⟩ := S1.wf.tab _ hx
        rw [hIn] at q; cases q
      · rw [List.mem_singleton.mp hb]; exact not_tab S1.wf g1 (by rw [g2]; nofun)
    · rcases List.mem_cons.mp hb with rfl | hb
      · intro hm
        obtain ⟨o2, h2, _⟩ := S1.moIn _ hm
        rw [hIn] at h2; cases h2
      · rw [List.mem_singleton.mp hb]
        cases k <;> first | (cases hs; done) | skip
        · exact ko.2 a (List.mem_cons_self ..)
        · exact (ko.2 a (List.mem_cons_self ..)).1
        · exact ((KOk.fr_lo S ko).2 a (List.mem_cons_self ..)).1
    · rw [List.mem_singleton.mp hb]
      obtain ⟨o2, h2, _, h3⟩ := st.1
      exact ⟨o2, _, h2, h3⟩
    · rw [List.mem_singleton.mp hb]; exact x1.up.none hIn
    · obtain ⟨v', cs, q1, q2, q3⟩ := readsAll_item g4' hd
      have : v' = v := by
        have h1 : vs.toList[j]? = some v := by simpa using hP
        rw [q1] at h1; exact Option.some.inj h1
      subst this
      exact ⟨cs, q3.trans (List.sublist_cons_self ..), q2⟩
    · exact KOk.sub (ko.later S1.wf x2) (List.Sublist.refl _)
    · rcases List.mem_cons.mp hb with rfl | hb
      · exact ⟨_, Heap.get?_push_of_some _ g1, .inl ⟨g2, _, _, g3⟩⟩
      · exact readsAll_objs g4' b hb

theorem ex_for3 {x y z : Str} {xp yp zp tp : Pos} {tn : Nat} {iter : Expr} {i1 i2 i3 : Nat} {ls : List T3} {k : EK} (FS : FmS c f) (h : ItL c f ρ iter (ls.map encI) k) (hk : Fills2 k (ls.map encI) .lo)
    (J : Nat → Rho → Prop) (h0 : J 0 ρ)
    (hb : ∀ j el ρ', ls[j]? = some el → J j ρ' → ∃ ρ1 ρ2 ρ3, Upd f.xs ρ' x (some ⟨.lo, .int el.1⟩) ρ1 i1 ∧ Upd f.xs ρ1 y (some ⟨.lo, .int el.2.1⟩) ρ2 i2 ∧ Upd f.xs ρ2 z (some ⟨.lo, .int el.2.2⟩) ρ3 i3 ∧ Ex c f body ρ3 (loopQ (J (j + 1)) Q))
    (hend : ∀ ρ', J ls.length ρ' → Q .next ρ') (hs : ∀ env x, foldedSetIterable iter env x = pure x := by intro _ _; rfl) : Ex1 c f (.For (.Tuple [.Name x xp, .Name y yp, .Name z zp] tn tp) iter body [] pos) ρ Q := fun mo val fp s S => by
  refine wpAny_For (wpAny_mono (h mo val fp s _ S) (fun xv s1 h1 => wpAny_mono h1 (fun it s2 ⟨x2, I, Fp, wr, P, Sx, as, e, hLI, T⟩ => ?_) fun _ _ z => z) fun _ _ z => z) (hs _)
  subst e
  have hlen : (ls.map encI).length = ls.length := List.length_map ..
  generalize hds : ls.map encI = ds at *
  have hsafe := hk.safe
  have S2 := S.ext x2
  have wrH0 : ∀ b ∈ wr, f.h₀.get? b = none := fun b hb => S.keep.none (T.new b hb)
  have wrHB : ∀ b ∈ wr, c.hB.get? b = none := fun b hb => FS.base.none (wrH0 b hb)
  have wrX : ∀ b ∈ wr, ¬ c.X b := fun b hb => T.nX b (T.walks.sub b hb)
  have asmo : ∀ a ∈ as, ¬ mo a := by
    have ko := T.ok
    cases k <;> first | (cases hsafe; done) | skip
    · exact ko.2
    · exact fun a ha => (ko.2 a ha).1
    · exact fun a ha => ((KOk.fr_lo S ko).2 a ha).1
  have aslo : k ≠ .sh → ∀ a ∈ as, f.h₀.get? a = none := by
    have ko := T.ok
    cases k <;> first | (cases hsafe; done) | skip
    · exact fun q => absurd rfl q
    · exact fun _ a ha => (ko.2 a ha).2
    · exact fun _ a ha => ((KOk.fr_lo S ko).2 a ha).2
  refine codeAny_forLoop_any (fun n s' => ∃ j ρ' mo' val' fp', j ≤ ds.length ∧ n = ds.length + 1 - j ∧ J j ρ' ∧ St c f ρ' mo' val' fp' s' ∧ Step c f mo s mo' s' ∧ Sx j s'.heap ∧
      (∀ b ∈ Fp, ∃ o, s'.heap.get? b = some o) ∧ (∀ b ∈ Fp, ¬ mo' b) ∧ (∀ a ∈ as, ¬ mo' a) ∧ (∀ a ∈ as, ∀ o, s2.heap.get? a = some o → ListOrDict o → s'.heap.get? a = some o) ∧
      (∀ a o, s2.heap.get? a = some o → o.cls = .type "tuple" → (∃ vs n, o.data = .seq vs n) → s'.heap.get? a = some o)) ?_ (ds.length + 1)
    ⟨0, ρ, mo, val, fp, Nat.zero_le _, rfl, h0, S2, Step.ext x2, T.start, T.inH, T.nmo hsafe, asmo, fun _ _ _ e _ => e, fun _ _ e _ _ => e⟩
  rintro n s' ⟨j, ρ', mo', val', fp', hj, rfl, hJ, S', X', hSx, hin, hnm, hasm, hkeep, htup⟩
  by_cases hlt : j < ds.length
  · refine T.walks.item j s' _ _ hlt hSx fun v h3 tk hP hSx3 hk3 => ?_
    obtain ⟨d, hd⟩ : ∃ d, ds[j]? = some d := ⟨_, List.getElem?_eq_getElem hlt⟩
    obtain ⟨bs, hbs, r2⟩ := T.val j v d hP hd
    have wrF := T.fld j s'.heap hSx
    have S3 := S'.soft (h' := h3) (tk := tk) hk3 wrF wrH0 wrHB wrX
    have asW : ∀ a o, s2.heap.get? a = some o → ListOrDict o → s'.heap.get? a = some o → h3.get? a = some o := fun a o e hl e' => hk3 a o (fun q => by
      obtain ⟨o2, vs, g1, g2⟩ := wrF a q
      rw [e'] at g1; cases g1
      rcases hl with ⟨_, _, _, h⟩ | ⟨_, _, _, h⟩ <;> rw [g2] at h <;> cases h) e'
    have tupW : ∀ a o, s2.heap.get? a = some o → o.cls = .type "tuple" → (∃ vs n, o.data = .seq vs n) → h3.get? a = some o := fun a o e hc hd => hk3 a o (fun q => by
      obtain ⟨o2, vs, g1, g2⟩ := wrF a q
      rw [htup a o e hc hd] at g1; cases g1
      obtain ⟨_, _, h⟩ := hd; rw [g2] at h; cases h) (htup a o e hc hd)
    have r3 : Reads h3 v d bs := reads_upon r2 (fun a ha o e _ => by
        obtain ⟨o1, g1, g2⟩ := reads_objs r2 a ha
        rw [e] at g1; cases g1
        exact asW a o e g2 (hkeep a (hbs.subset ha) o e g2)) tupW
    obtain ⟨el, hel⟩ : ∃ el, ls[j]? = some el := ⟨_, List.getElem?_eq_getElem (by omega)⟩
    have hde : d = encI el := by rw [← hds, List.getElem?_map, hel] at hd; exact (Option.some.inj hd).symm
    subst hde
    obtain ⟨lI, hit⟩ := hLI (j + 1) h3 hSx3
    refine letGo_listiter hit ?_
    obtain ⟨ρ1, ρ2, ρ3, hU1, hU2, hU3, hB⟩ := hb j el ρ' hel hJ
    obtain ⟨hx1, hi1, rfl⟩ := hU1.get
    obtain ⟨hx2, hi2, rfl⟩ := hU2.get
    obtain ⟨hx3, hi3, rfl⟩ := hU3.get
    obtain ⟨ta, to, xs3, m3, t1, t2, t3, rfl, q1, q2, q3, hl3⟩ := trip_at r3
    have hs3 : xs3.size = 3 := by rw [← Array.length_toList, hl3]; rfl
    refine assign_Tuple_tuple S.ok.room.hand ⟨_, q1, q2, _, q3⟩ (by rw [hs3]; rfl) rfl (fun h' he => ?_)
    have x34 : Ext c { s' with heap := h3, toks := tk } { s' with heap := h', toks := tk } := Ext.of S3.wf fun b o q => he b o (Nat.ne_of_lt (Heap.lt_size q)) q
    have S34 := S3.ext x34
    rw [hl3]
    show wpAny _ _ (do holding [.int el.2.1 t2, .int el.2.2 t3] (assign (.Name x xp) f.env (.int el.1 t1)); assignInOrder [assign (.Name y yp) f.env, assign (.Name z zp) f.env] [.int el.2.1 t2, .int el.2.2 t3]) _ _ _
    refine wpAny_bind (wpAny_holding (wpAny_assign_Name ?_))
    refine store_step (as := []) (sl := ⟨.lo, .int el.1⟩) FS S34 hx1 hi1 (.int _ _) nofun (slotOk_of (by nofun) nofun fun _ => nofun) fun s4a S4a hk4a th4a => ?_
    show wpAny _ _ (do holding [.int el.2.2 t3] (assign (.Name y yp) f.env (.int el.2.1 t2)); assignInOrder [assign (.Name z zp) f.env] [.int el.2.2 t3]) _ _ _
    refine wpAny_bind (wpAny_holding (wpAny_assign_Name ?_))
    refine store_step (as := []) (sl := ⟨.lo, .int el.2.1⟩) FS S4a hx2 hi2 (.int _ _) nofun (slotOk_of (by nofun) nofun fun _ => nofun) fun s4b S4b hk4b th4b => ?_
    show wpAny _ _ (do holding [] (assign (.Name z zp) f.env (.int el.2.2 t3)); assignInOrder [] []) _ _ _
    refine wpAny_bind (wpAny_holding (wpAny_assign_Name ?_))
    refine store_step (as := []) (sl := ⟨.lo, .int el.2.2⟩) FS S4b hx3 hi3 (.int _ _) nofun (slotOk_of (by nofun) nofun fun _ => nofun) fun s4 S4 hk4c th4c => ?_
    refine wpAny_pure ?_
    have hk4 : ∀ b o, ¬ Pv f b → h3.get? b = some o → s4.heap.get? b = some o := fun b o hp q => hk4c b o hp (hk4b b o hp (hk4a b o hp (he b o (Nat.ne_of_lt (Heap.lt_size q)) q)))
    have th4 : ∀ b o, h3.get? b = some o → ∃ o', s4.heap.get? b = some o' := fun b o q => by
      obtain ⟨o1, q1⟩ := th4a b o (he b o (Nat.ne_of_lt (Heap.lt_size q)) q)
      obtain ⟨o2, q2⟩ := th4b b o1 q1
      exact th4c b o2 q2
    have mo4' : ∀ b, moWith (moWith (moWith mo' .lo []) .lo []) .lo [] b → mo' b := fun b h => moWith_not (by nofun) (moWith_not (by nofun) (moWith_not (by nofun) h))
    have Fp3 : ∀ b ∈ Fp, ∃ o, h3.get? b = some o := fun b hb => by
      obtain ⟨o, e⟩ := hin b hb
      by_cases q : b ∈ wr
      · obtain ⟨o2, vs, g1, _⟩ := T.fld _ h3 hSx3 b q; exact ⟨o2, g1⟩
      · exact ⟨o, hk3 b o q e⟩
    have X4 : Step c f mo s (moWith (moWith (moWith mo' .lo []) .lo []) .lo []) s4 := ⟨fun b o h1 h2 h3' e => by
        have e1 := X'.kp b o h1 h2 h3' e
        have e2 := hk3 b o (fun q => by rw [T.new b q] at e; cases e) e1
        exact hk4 b o h2 e2, fun b o e => by
        obtain ⟨o1, e1⟩ := X'.th b o e
        have e2 := hk3 b o1 (fun q => by rw [T.new b q] at e; cases e) e1
        exact th4 b o1 e2, fun b h => X'.mo b (mo4' b h)⟩
    have hSx4 : Sx (j + 1) s4.heap := T.walks.frame _ _ _ hSx3 fun b hb o e => hk4 b o (T.npv b hb) e
    have Fp4 : ∀ b ∈ Fp, ∃ o, s4.heap.get? b = some o := fun b hb => let ⟨o, e⟩ := Fp3 b hb; ⟨o, hk4 b o (T.npv b hb) e⟩
    refine wpAny_mono (hB _ _ _ s4 S4) (fun fl s5 hp => ?_) fun _ _ z => z.elim
    obtain ⟨fl', ρ5, mo5, val5, fp5, hfl, S5, X5, hq⟩ := hp
    have X05 := X4.trans X5
    cases fl <;> cases fl' <;> first | exact hfl.elim | skip
    all_goals first
      | exact ⟨.next, ρ5, mo5, val5, fp5, trivial, S5, X05, hq⟩
      | exact ⟨.ret _ _, ρ5, mo5, val5, fp5, hfl, S5, X05, hq⟩
      | skip
    all_goals (
      have keep45 : ∀ b o, ¬ c.X b → ¬ Pv f b → ¬ mo' b → s4.heap.get? b = some o → s5.heap.get? b = some o := fun b o h1 h2 h3' e => X5.kp b o h1 h2 (fun q => h3' (mo4' b q)) e
      refine ⟨ds.length + 1 - (j + 1), by omega, j + 1, ρ5, mo5, val5, fp5, by omega, rfl, hq, S5, X05, ?_, ?_, ?_, ?_, ?_, ?_⟩
      · exact T.walks.frame _ _ _ hSx4 fun b hb o e => keep45 b o (T.nX b hb) (T.npv b hb) (hnm b hb) e
      · exact fun b hb => let ⟨o, e⟩ := Fp4 b hb; ⟨o, keep45 b o (T.nX b hb) (T.npv b hb) (hnm b hb) e⟩
      · intro b hb h
        rcases X5.mo b h with q | q
        · exact hnm b hb (mo4' b q)
        · obtain ⟨o, e⟩ := Fp4 b hb; rw [q] at e; cases e
      · intro a ha h
        rcases X5.mo a h with q | q
        · exact hasm a ha (mo4' a q)
        · rcases X05.mo a h with q' | q'
          · exact asmo a ha q'
          · obtain ⟨o, g1, g2⟩ := T.asIn a ha
            have g3 := hkeep a ha o g1 g2
            have g4 := asW a o g1 g2 g3
            have hnl : a ≠ f.env.locals := fun q => T.ok.1 (q ▸ ha)
            have g5 := hk4 a o (pv_ld S2 g1 g2 hnl) g4
            rw [q] at g5; cases g5
      · intro a ha o e hl
        have g3 := hkeep a ha o e hl
        have g4 := asW a o e hl g3
        have hnl : a ≠ f.env.locals := fun q => T.ok.1 (q ▸ ha)
        have hnp := pv_ld S2 e hl hnl
        have hnX : ¬ c.X a := not_tab S2.wf e (by rcases hl with ⟨q, _⟩ | ⟨q, _⟩ <;> rw [q] <;> nofun)
        exact keep45 a o hnX hnp (hasm a ha) (hk4 a o hnp g4)
      · intro a o e hc hd'
        have g4 := tupW a o e hc hd'
        have hnp : ¬ Pv f a := fun hp => by
          obtain ⟨o2, h2, h3'⟩ := pv_obj S3 hp
          rw [show ({ s' with heap := h3, toks := tk } : Shared).heap.get? a = some o from g4] at h2; cases h2
          obtain ⟨_, _, hd'⟩ := hd'
          rcases h3' with ⟨_, _, h⟩ | ⟨_, h⟩ <;> rw [hd'] at h <;> cases h
        have g5 := hk4 a o hnp g4
        exact X5.tuple S4 g5 hc hd')
  · have hj' : j = ds.length := by omega
    subst hj'
    refine T.walks.done s' _ _ hSx fun h3 tk hk3 => ?_
    refine wpAny_execs_nil ?_
    have wrF := T.fld _ s'.heap hSx
    exact ⟨.next, ρ', mo', val', fp', trivial, S'.soft hk3 wrF wrH0 wrHB wrX, ⟨fun b o h1 h2 h3' e => hk3 b o (fun q => by rw [T.new b q] at e; cases e) (X'.kp b o h1 h2 h3' e),
      fun b o e => let ⟨o1, e1⟩ := X'.th b o e; ⟨o1, hk3 b o1 (fun q => by rw [T.new b q] at e; cases e) e1⟩, X'.mo⟩, hend ρ' (hlen ▸ hJ)⟩


theorem s_for3 {x y z : Str} {xp yp zp tp : Pos} {tn : Nat} {iter : Expr} {i1 i2 i3 : Nat} {ls : List T3} {k : EK} {rest : List Stmt} (FS : FmS c f) (h : ItL c f ρ iter (ls.map encI) k) (hk : Fills2 k (ls.map encI) .lo)
    (J : Nat → Rho → Prop) (h0 : J 0 ρ)
    (hb : ∀ j el ρ', ls[j]? = some el → J j ρ' → ∃ ρ1 ρ2 ρ3, Upd f.xs ρ' x (some ⟨.lo, .int el.1⟩) ρ1 i1 ∧ Upd f.xs ρ1 y (some ⟨.lo, .int el.2.1⟩) ρ2 i2 ∧ Upd f.xs ρ2 z (some ⟨.lo, .int el.2.2⟩) ρ3 i3 ∧ Ex c f body ρ3 (loopQ (J (j + 1)) (seqQ c f rest Q)))
    (hend : ∀ ρ', J ls.length ρ' → Ex c f rest ρ' Q) (hs : ∀ env x, foldedSetIterable iter env x = pure x := by intro _ _; rfl) : Ex c f (.For (.Tuple [.Name x xp, .Name y yp, .Name z zp] tn tp) iter body [] pos :: rest) ρ Q :=
  ex_cons (ex_for3 FS h hk J h0 hb hend hs)
end
end Mine

namespace Mine
open PySem PySem.Spec PySem.Calls PyProof.Rows
section
variable {c : Cx} {f : Fm} {ρ : Rho}
/-- list(range(e)) -/
theorem ev_listRange {e : Expr} {n : Nat} {k : EK} {lp rp pos pos2 : Pos} (C : CxOk c) (B : Bi c "range" (.type "range")) (BL : Bi c "list" (.type "list")) (hx : f.env.kindOf "range" = some .globalImplicit) (hxl : f.env.kindOf "list" = some .globalImplicit) (h : Ev c f ρ e (.int (n : Int)) k) (hn : n ≤ 1000)
    (he : ∀ env rest, starEach (e :: rest) env = (false, eval e env) :: starEach rest env := by intros; rfl) :
    Ev c f ρ (.Call (.Name "list" lp) [.Call (.Name "range" rp) [e] [] pos] [] pos2) (.list ((List.range n).map encN)) .fr := fun mo val fp s E S => by
  refine Call_ (builtin_name C BL hxl S ?_)
  refine PySem.callWith_type (by rfl) ?_
  refine evalArgs_plain (spliced_cons ?_)
  refine Call_ (builtin_name C B hx S ?_)
  refine PySem.callWith_type (by rw [he]; rfl) ?_
  rw [he]
  refine evalArgs_plain (spliced_cons (h.bind S fun v s1 as x1 S1 r1 ko => spliced_nil ?_))
  cases r1
  refine call_range_1 ?_
  refine spliced_nil ?_
  have hsz : Builtin.Range.rangeSize 0 (n : Int) 1 = (n : Int) := by rw [rangeSize_one]; split <;> omega
  refine call_list_range S.ok.room.hand (IsRange.new ..) (small_one (by decide) (by decide) (by omega) (by omega)) hsz (by omega) fun h' tk acc c' hk hD hI => ?_
  obtain ⟨hI1, hI2⟩ := hI
  generalize hD0 : (s1.heap.push _).objs.size = D at hD
  have hDn : s1.heap.get? D = none := by
    cases q : s1.heap.get? D with
    | none => rfl
    | some o =>
      have := Heap.lt_size q
      rw [← hD0, Heap.size_push] at this
      exact absurd this (Nat.not_lt.mpr (Nat.le_succ _))
  have kp : ∀ b o, s1.heap.get? b = some o → h'.get? b = some o := fun b o q => hk b o (Heap.get?_push_of_some _ q)
  have x2 : Ext c s1 { s1 with heap := h', toks := tk } := ⟨⟨fun b o _ q => kp b o q, fun b o q => ⟨o, kp b o q⟩⟩, S1.wf.but (wr := []) (fun b o _ q => kp b o q) nofun nofun⟩
  refine ⟨x1.trans x2, [D], .list hD rfl rfl ?_, frOk S (by simp) (fun b hb => ?_) (fun b hb => ?_)⟩
  · rw [range_getD acc.toList .none, Array.length_toList, hI1]
    refine readsAll_idx _ fun i hi => ?_
    have hi : i < n := List.mem_range.mp hi
    have hlt : i < acc.size := by omega
    obtain ⟨t, ht⟩ := hI2 i acc[i] (Array.getElem?_eq_getElem hlt)
    rw [List.getD_eq_getElem?_getD, Array.getElem?_toList, Array.getElem?_eq_getElem hlt, Option.getD_some, ht, Int.zero_add, Int.mul_one]
    exact .int _ _
  · rw [List.mem_singleton.mp hb]; exact x1.up.none hDn
  · rw [List.mem_singleton.mp hb]; exact Pl.of_isL hD
end
end Mine

namespace Mine
open PySem PySem.Spec PySem.Calls PyProof.Rows
section
variable {c : Cx} {f : Fm} {ρ ρ1 ρ2 : Rho} {Q : Fl → Rho → Prop} {rest : List Stmt} {e : Expr} {d1 d2 : PyData} {k : EK} {pos xp yp tp : Pos} {x y : Str} {i j n : Nat}
/-- x, y = (.., ..), where the stores go backwards -/
theorem s_unp2s (FS : FmS c f) (h : Ev c f ρ e (.tuple [d1, d2]) k) (f1 : flat d1 = true) (f2 : flat d2 = true) (hU1 : Upd f.xs ρ y (some ⟨.lo, d2⟩) ρ1 j) (hU2 : Upd f.xs ρ1 x (some ⟨.lo, d1⟩) ρ2 i) (hQ : Ex c f rest ρ2 Q)
    (hs : ∀ env, swapsWithSole [.Tuple [.Name x xp, .Name y yp] n tp] e pos.line env = pure false := by intro _; rfl)
    (hw : swappedStores [.Tuple [.Name x xp, .Name y yp] n tp] e f.env = pure (some [x, y]) := by rfl) :
    Ex c f (.Assign [.Tuple [.Name x xp, .Name y yp] n tp] e pos :: rest) ρ Q := by
  obtain ⟨hx1, hi1, rfl⟩ := hU1.get
  obtain ⟨hx2, hi2, rfl⟩ := hU2.get
  refine ex_cons fun mo val fp s S => ?_
  refine Assign_Tuple_swapped (h.bind S fun v s1 as x1 S1 r1 ko => ?_) (hs _) hw
  cases r1 with | tuple g1 g2 g3 g4 =>
  rename_i t o vs m
  have hsz : vs.size = 2 := by simpa using readsAll_length g4
  have hu := unpackItems_tuple (prog := c.prog) (w := c.w) (E := fun _ _ => False) (Q := fun items s₂ => wpAny c.M f.A (assignInOrder (List.map (fun n => bindName f.env n) [y, x]) items.reverse) (fun _ s' => Post c f mo s (seqQ c f rest Q) .next s') (fun _ _ => False) s₂) S.ok.room.hand ⟨_, g1, g2, _, g3⟩ fun h' he => ?_
  · rw [hsz] at hu
    exact hu
  have x2 : Ext c s1 { s1 with heap := h' } := Ext.of S1.wf fun b o q => he b o (Nat.ne_of_lt (Heap.lt_size q)) q
  have S2 := S1.ext x2
  obtain ⟨v1, v2, hvs⟩ := two_of hsz
  rw [hvs] at g4 ⊢
  obtain _ | ⟨q1, q2⟩ := g4
  obtain _ | ⟨q2, q3⟩ := q2
  cases q3
  have w1 := x2.reads S1.wf q1
  have w2 := x2.reads S1.wf q2
  rw [reads_flat q1 f1] at w1
  rw [reads_flat q2 f2] at w2
  show wpAny _ _ (do holding [v1] (bindName f.env y v2); assignInOrder [bindName f.env x] [v1]) _ _ _
  refine wpAny_bind (wpAny_holding (wpAny_bindName ?_))
  refine store_step (sl := ⟨.lo, d2⟩) FS S2 hx1 hi1 w2 nofun (slotOk_of (by nofun) nofun fun _ => nofun) fun s3 S3 hk3 th3 => ?_
  show wpAny _ _ (do holding [] (bindName f.env x v1); assignInOrder [] []) _ _ _
  refine wpAny_bind (wpAny_holding (wpAny_bindName ?_))
  refine store_step (sl := ⟨.lo, d1⟩) FS S3 hx2 hi2 (as := []) (reads_keep S2 hk3 (as := []) (by nofun) w1) nofun (slotOk_of (by nofun) nofun fun _ => nofun) fun s4 S4 hk4 th4 => ?_
  refine wpAny_pure ⟨.next, _, _, _, _, trivial, S4, ⟨fun b o g1 g2 _ q => hk4 b o g2 (hk3 b o g2 ((x1.trans x2).up.kp b o g1 q)), fun b o q => ?_, fun b q => .inl (moWith_not (by nofun) (moWith_not (by nofun) q))⟩, hQ⟩
  obtain ⟨o1, e1⟩ := (x1.trans x2).up.th b o q
  obtain ⟨o2, e2⟩ := th3 b o1 e1
  exact th4 b o2 e2
end
end Mine

namespace Mine
open PySem PySem.W PySem.Spec PySem.Calls PyProof.Rows

/-- the function's code has a table of inner codes that may grow -/
def HasTab (c : Cx) (d : FnD) : Prop := ∃ fa o fd cd P, c.mg d.name = some (.ref fa) ∧ c.hB.get? fa = some o ∧ o.data = .func fd ∧ fd.code = .ref cd ∧ c.X P ∧ ¬ c.X cd ∧ P ≠ cStatics ∧ c.hB.IsCode cd P #[] ∧ c.hB.TableAt cd P #[]
theorem codeTab_of {c : Cx} {d : FnD} {f : Fm} (HT : HasTab c d) (H : ∃ fa o pm doc, Has c d fa o pm f.env.code doc) : CodeTab c f := by
  obtain ⟨fa, o, fd, cd, P, h1, h2, h3, h4, h5, h6, h7, h8, h9⟩ := HT
  obtain ⟨fa', o', pm, doc, H⟩ := H
  have e1 := H.at_
  rw [h1] at e1; cases e1
  have e2 := H.obj
  rw [h2] at e2; cases e2
  have e3 := H.data
  rw [h3] at e3
  injection e3 with e3
  refine ⟨cd, P, ?_, h5, h6, h7, h8, h9⟩
  rw [e3] at h4; exact h4

/-- the context of a law with inner codes: the table at P may grow -/
def cxG (prog : Program) (w : World) (s₁ : Shared) (mg mb : Str → Option Value) (P : Addr) : Cx := ⟨prog, w, s₁.heap, fun a => a = P, mg, mb, s₁.os⟩

section
variable {p prog : Program} {loose : List Str} {mean : ExcName → Option Value} {mg mb : Str → Option Value} {w : World} {s₁ : Shared} {P : Addr}

theorem ns_ne {h : Heap} {a : Addr} {m : Str → Option Value} (n : h.Ns a m) (hP : h.get? P = some { cls := .none, data := .fields #[] }) : a ≠ P := fun e => by
  obtain ⟨o, es, ep, ho, hd, _⟩ := n
  rw [e, hP] at ho; cases ho; cases hd
theorem cxOkG (T : Top p loose mean mg mb s₁.heap) (hP : s₁.heap.get? P = some { cls := .none, data := .fields #[] }) : CxOk (cxG prog w s₁ mg mb P) :=
  ⟨T.g, ns_ne T.g hP, T.b, ns_ne T.b hP, T.nolimit, (by obtain ⟨mc, n, _⟩ := T.nolimit; exact ns_ne n hP), T.nodigits, T.builtins⟩
theorem wfG (hg : s₁.gens = #[]) (hP : s₁.heap.get? P = some { cls := .none, data := .fields #[] }) : Wf (cxG prog w s₁ mg mb P) s₁ :=
  ⟨fun _ _ _ e => e, fun b h => ⟨⟨#[], trivial⟩, by rw [show b = P from h]; exact hP⟩, OldK.refl _, AllBare.of_eq hg, rfl⟩
theorem standsG (T : Top p loose mean mg mb s₁.heap) (hP : s₁.heap.get? P = some { cls := .none, data := .fields #[] }) (i : Nat) {d : FnD} {r : DefRec} (hr : (recsOf p)[i]? = some r) (e : r.name = d.name ∧ r.params = d.params ∧ r.body = d.body ∧ r.scope = d.scope) : Stands (cxG prog w s₁ mg mb P) d := by
  obtain ⟨a, o, pm, code, doc, h1, h2, h3, h4⟩ := T.fn r (List.mem_of_getElem? hr)
  obtain ⟨e1, e2, e3, e4⟩ := e
  rw [e1] at h1 h4
  rw [e1, e2, e3, e4] at h3
  refine ⟨a, o, pm, code, doc, h1, h2, fun q => ?_, h3, h4, fun b q1 q2 => ?_⟩
  · rw [show a = P from q, hP] at h2; cases h2; cases h3
  · obtain ⟨c', o', vs, t, q3, q4, q5, q6⟩ := h4
    rw [q1] at q3; cases q3
    rw [show b = P from q2, hP] at q4; cases q4; cases q5
    simp at q6
theorem biG (T : Top p loose mean mg mb s₁.heap) {x : Str} {v : Value} (hb : bootBuiltins x = some v) (hne : x ≠ "__name__")
    (h : (decide (x ∉ startupNames) && decide (x ∉ loose) && decide (x ∉ (recsOf p).map (·.name)) && decide (x ∉ (litsOf p).map (·.1)) && decide (x ∉ (clssOf p loose).map (·.name))) = true) : Bi (cxG prog w s₁ mg mb P) x v :=
  let B := bi_of (prog := prog) (w := w) T hb hne h; ⟨B.no, B.is, B.ne⟩
theorem bmG (T : Top p loose mean mg mb s₁.heap) (hP : s₁.heap.get? P = some { cls := .none, data := .fields #[] }) : BMok (cxG prog w s₁ mg mb P) := by
  obtain ⟨bm, ob, h1, h2, h3, h4, h5, h6⟩ := T.bmain
  exact ⟨bm, ob, h1, h2, h3, h4, h5, h6, fun q => by rw [show bm = P from q, hP] at h3; cases h3; cases h4⟩
end

end Mine

namespace Mine
open PySem PySem.W PySem.Spec PySem.Calls PyProof.Rows
/-- as law_endG, where the inner codes lie in another function than the law -/
theorem law_endH {p prog : Program} {loose : List Str} {mean' : ExcName → Option Value} {w : World} {s₁ : Shared} {mg mb : Str → Option Value} {cl : ClaimW} {cls : Str → Option Addr} {mean : ExcName → Option Value} {args : List WData} {d d2 : FnD} {r r2 : DefRec} {ds : List PyData} {vals : List Value} {as : List Addr} {fa : Addr} {lv : Nat} {u : Bool}
    (T : Top p loose mean' mg mb s₁.heap) (hg : s₁.gens = #[]) (hf : mg d.name = some (.ref fa)) (i : Nat) (hr : (recsOf p)[i]? = some r) (e : r.name = d.name ∧ r.params = d.params ∧ r.body = d.body ∧ r.scope = d.scope)
    (i2 : Nat) (hr2 : (recsOf p)[i2]? = some r2) (e2 : r2.name = d2.name ∧ r2.params = d2.params ∧ r2.body = d2.body ∧ r2.scope = d2.scope)
    (h : ∀ P, s₁.heap.get? P = some { cls := .none, data := .fields #[] } → HasTab (cxG prog w s₁ mg mb P) d2 → Fn (cxG prog w s₁ mg mb P) lv d ds (.bool true) u) (hlv : lv ≤ 60) (rd : ReadsAll s₁.heap vals ds as)
    (hn : ∀ c, cl.raises args c = false) (hp : cl.post args (.bool true) args = true) :
    wpAny (model prog w) callerA (PySem.call (.ref fa) vals) (fun v s' => GoodWG cl cls mean args s₁ (.ok (.ret v)) s') (fun e s' => GoodWG cl cls mean args s₁ (.error e) s') s₁ := by
  obtain ⟨a, o, fd, cd, P, t1, t2, t3, t4, t5, t6⟩ := T.tab r2 (List.mem_of_getElem? hr2)
  have hP := t6.2
  have hcd : cd ≠ P := by
    obtain ⟨_, _, _, _, _, _, _, _, _, _, _, _, _, _, _, _, _, _, _, _, q⟩ := t5; exact q
  have hPs : P ≠ cStatics := fun q => by
    obtain ⟨mc, n, _⟩ := T.nolimit
    exact ns_ne n hP q.symm
  have HT : HasTab (cxG prog w s₁ mg mb P) d2 := ⟨a, o, fd, cd, P, by rw [← e2.1]; exact t1, t2, t3, t4, rfl, hcd, hPs, t5, t6⟩
  obtain ⟨fa', o', pm, code, doc, H⟩ := standsG (prog := prog) (w := w) T hP i hr e
  have : fa' = fa := by have := H.at_; rw [show (cxG prog w s₁ mg mb P).mg = mg from rfl, hf] at this; cases this; rfl
  subst this
  refine wpAny_mono (h P hP HT callerA s₁ vals as _ fa' o' pm code doc H ⟨rfl, ?_, ?_, rfl⟩ (wfG hg hP) rd) (fun v s' ⟨x, bs, r1, _, _⟩ => ?_) fun _ _ z => z
  · show 1 + claimMargin + 10 * lv + 10 < recursionLimit
    have h1 : claimMargin = 300 := rfl
    have h2 : recursionLimit = 1000 := rfl
    omega
  · show 4 + 100 * lv + 200 < cLine
    have h2 : cLine = 9900 := rfl
    omega
  · cases r1
    exact ⟨.inl ⟨_, .bool true, [], rfl, hn, .bool _, hp, fun _ => ⟨.nil, nofun⟩⟩, x.wf.old, x.wf.os, x.wf.gens⟩
/-- as standsG and law_endH; the record is not written out in the term -/
theorem rec_of {p : Program} {i : Nat} {d : FnD} (h : (recsOf p)[i]?.map (fun r => (r.name, r.params, r.body, r.scope)) = some (d.name, d.params, d.body, d.scope)) : ∃ r, (recsOf p)[i]? = some r ∧ r.name = d.name ∧ r.params = d.params ∧ r.body = d.body ∧ r.scope = d.scope := by
  cases q : (recsOf p)[i]? with
  | none => rw [q] at h; cases h
  | some r =>
    rw [q] at h
    have h := Option.some.inj h
    refine ⟨r, rfl, ?_, ?_, ?_, ?_⟩
    · exact congrArg (·.1) h
    · exact congrArg (·.2.1) h
    · exact congrArg (·.2.2.1) h
    · exact congrArg (·.2.2.2) h
theorem standsM {p prog : Program} {loose : List Str} {mean : ExcName → Option Value} {mg mb : Str → Option Value} {w : World} {s₁ : Shared} {P : Addr} (T : Top p loose mean mg mb s₁.heap) (hP : s₁.heap.get? P = some { cls := .none, data := .fields #[] }) (i : Nat) {d : FnD} (h : (recsOf p)[i]?.map (fun r => (r.name, r.params, r.body, r.scope)) = some (d.name, d.params, d.body, d.scope)) : Stands (cxG prog w s₁ mg mb P) d := by
  obtain ⟨r, h1, h2⟩ := rec_of h
  exact standsG T hP i h1 h2
theorem law_endM {p prog : Program} {loose : List Str} {mean' : ExcName → Option Value} {w : World} {s₁ : Shared} {mg mb : Str → Option Value} {cl : ClaimW} {cls : Str → Option Addr} {mean : ExcName → Option Value} {args : List WData} {d d2 : FnD} {ds : List PyData} {vals : List Value} {as : List Addr} {fa : Addr} {lv : Nat} {u : Bool}
    (T : Top p loose mean' mg mb s₁.heap) (hg : s₁.gens = #[]) (hf : mg d.name = some (.ref fa)) (i : Nat) (hr : (recsOf p)[i]?.map (fun r => (r.name, r.params, r.body, r.scope)) = some (d.name, d.params, d.body, d.scope))
    (i2 : Nat) (hr2 : (recsOf p)[i2]?.map (fun r => (r.name, r.params, r.body, r.scope)) = some (d2.name, d2.params, d2.body, d2.scope))
    (h : ∀ P, s₁.heap.get? P = some { cls := .none, data := .fields #[] } → HasTab (cxG prog w s₁ mg mb P) d2 → Fn (cxG prog w s₁ mg mb P) lv d ds (.bool true) u) (hlv : lv ≤ 60) (rd : ReadsAll s₁.heap vals ds as)
    (hn : ∀ c, cl.raises args c = false) (hp : cl.post args (.bool true) args = true) :
    wpAny (model prog w) callerA (PySem.call (.ref fa) vals) (fun v s' => GoodWG cl cls mean args s₁ (.ok (.ret v)) s') (fun e s' => GoodWG cl cls mean args s₁ (.error e) s') s₁ := by
  obtain ⟨r, h1, h2⟩ := rec_of hr
  obtain ⟨r2, h3, h4⟩ := rec_of hr2
  exact law_endH T hg hf i h1 h2 i2 h3 h4 h hlv rd hn hp
end Mine

namespace Mine

/-! the heap's lists -/
abbrev PN := Int × Nat
def bef (a b : PN) : Bool := decide (a.1 < b.1) || ((a.1 == b.1) && decide ((a.2 : Int) < (b.2 : Int)))
abbrev gP (xs : List PN) (i : Nat) : PN := xs.getD i (0, 0)
def swp (xs : List PN) (i j : Nat) : List PN := (xs.set i (gP xs j)).set j (gP xs i)
theorem swp_len {xs : List PN} {i j : Nat} : (swp xs i j).length = xs.length := by simp [swp]
theorem gP_get {xs : List PN} {i : Nat} (h : i < xs.length) : xs[i]? = some (gP xs i) := by
  rw [gP, List.getD_eq_getElem?_getD, List.getElem?_eq_getElem h]; rfl
theorem swp_mem {xs : List PN} {i j : Nat} (hi : i < xs.length) (hj : j < xs.length) (y : PN) : y ∈ swp xs i j ↔ y ∈ xs := by
  have get : ∀ k, (swp xs i j)[k]? = if k = j then some (gP xs i) else if k = i then some (gP xs j) else xs[k]? := fun k => by
    unfold swp
    rw [List.getElem?_set, List.length_set]
    by_cases h1 : j = k
    · subst h1; simp [hj]
    · rw [if_neg h1, if_neg (fun q => h1 q.symm), List.getElem?_set]
      by_cases h2 : i = k
      · subst h2; simp [hi]
      · rw [if_neg h2, if_neg (fun q => h2 q.symm)]
  rw [List.mem_iff_getElem?, List.mem_iff_getElem?]
  constructor
  · rintro ⟨k, hk⟩
    rw [get] at hk
    by_cases h1 : k = j
    · rw [if_pos h1] at hk; exact ⟨i, by rw [gP_get hi]; exact hk⟩
    · rw [if_neg h1] at hk
      by_cases h2 : k = i
      · rw [if_pos h2] at hk; exact ⟨j, by rw [gP_get hj]; exact hk⟩
      · rw [if_neg h2] at hk; exact ⟨k, hk⟩
  · rintro ⟨k, hk⟩
    by_cases h1 : k = i
    · subst h1; refine ⟨j, ?_⟩; rw [get, if_pos rfl, ← gP_get hi]; exact hk
    · by_cases h2 : k = j
      · subst h2; refine ⟨i, ?_⟩; rw [get, if_neg (fun q => h1 q.symm), if_pos rfl, ← gP_get hj]; exact hk
      · exact ⟨k, by rw [get, if_neg h2, if_neg h1]; exact hk⟩
def hUp : Nat → Nat → List PN → List PN
  | 0, _, xs => xs
  | f + 1, i, xs => if 0 < i ∧ bef (gP xs i) (gP xs ((i - 1) / 2)) = true then hUp f ((i - 1) / 2) (swp xs i ((i - 1) / 2)) else xs
theorem hUp_spec : ∀ (f i : Nat) (xs : List PN), i < xs.length → (hUp f i xs).length = xs.length ∧ ∀ y, y ∈ hUp f i xs ↔ y ∈ xs
  | 0, _, _, _ => ⟨rfl, fun _ => Iff.rfl⟩
  | f + 1, i, xs, h => by
    unfold hUp
    split
    · have hj : (i - 1) / 2 < xs.length := by omega
      obtain ⟨h1, h2⟩ := hUp_spec f ((i - 1) / 2) (swp xs i ((i - 1) / 2)) (by rw [swp_len]; exact hj)
      exact ⟨by rw [h1, swp_len], fun y => by rw [h2, swp_mem h hj]⟩
    · exact ⟨rfl, fun _ => Iff.rfl⟩
def chd (xs : List PN) (i : Nat) : Nat := if 2 * i + 2 < xs.length ∧ bef (gP xs (2 * i + 2)) (gP xs (2 * i + 1)) = true then 2 * i + 2 else 2 * i + 1
theorem chd_lt {xs : List PN} {i : Nat} (h : 2 * i + 1 < xs.length) : chd xs i < xs.length ∧ i < chd xs i := by
  unfold chd; split <;> omega
def hDn : Nat → Nat → List PN → List PN
  | 0, _, xs => xs
  | f + 1, i, xs => if 2 * i + 1 < xs.length ∧ bef (gP xs (chd xs i)) (gP xs i) = true then hDn f (chd xs i) (swp xs i (chd xs i)) else xs
theorem hDn_spec : ∀ (f i : Nat) (xs : List PN), (hDn f i xs).length = xs.length ∧ ∀ y, y ∈ hDn f i xs ↔ y ∈ xs
  | 0, _, _ => ⟨rfl, fun _ => Iff.rfl⟩
  | f + 1, i, xs => by
    unfold hDn
    split
    · rename_i h
      obtain ⟨h3, h4⟩ := chd_lt h.1
      obtain ⟨h1, h2⟩ := hDn_spec f (chd xs i) (swp xs i (chd xs i))
      exact ⟨by rw [h1, swp_len], fun y => by rw [h2, swp_mem (by omega) h3]⟩
    · exact ⟨rfl, fun _ => Iff.rfl⟩
def hPush (xs : List PN) (p : PN) : List PN := hUp xs.length xs.length (xs ++ [p])
theorem hPush_spec (xs : List PN) (p : PN) : (hPush xs p).length = xs.length + 1 ∧ ∀ y, y ∈ hPush xs p ↔ (y ∈ xs ∨ y = p) := by
  obtain ⟨h1, h2⟩ := hUp_spec xs.length xs.length (xs ++ [p]) (by simp)
  exact ⟨by rw [hPush, h1]; simp, fun y => by rw [hPush, h2]; simp⟩
/-- what is left when the first is taken -/
def hRest (xs : List PN) : List PN := if xs.length ≤ 1 then [] else hDn xs.length 0 ((xs.take (xs.length - 1)).set 0 (gP xs (xs.length - 1)))
theorem hRest_spec {xs : List PN} (h : 0 < xs.length) : (hRest xs).length + 1 = xs.length ∧ ∀ y, y ∈ xs ↔ (y = gP xs 0 ∨ y ∈ hRest xs) := by
  unfold hRest
  by_cases h1 : xs.length ≤ 1
  · rw [if_pos h1]
    match xs, h, h1 with
    | [x], _, _ => exact ⟨rfl, fun y => by simp [gP]⟩
  · rw [if_neg h1]
    obtain ⟨h2, h3⟩ := hDn_spec xs.length 0 ((xs.take (xs.length - 1)).set 0 (gP xs (xs.length - 1)))
    refine ⟨by rw [h2]; simp; omega, fun y => ?_⟩
    rw [h3]
    have get : ∀ k, ((xs.take (xs.length - 1)).set 0 (gP xs (xs.length - 1)))[k]? = if k = 0 then some (gP xs (xs.length - 1)) else if k < xs.length - 1 then xs[k]? else none := fun k => by
      rw [List.getElem?_set]
      by_cases q : 0 = k
      · subst q; simp; omega
      · rw [if_neg q, if_neg (fun e => q e.symm), List.getElem?_take]
    rw [List.mem_iff_getElem?, List.mem_iff_getElem?]
    constructor
    · rintro ⟨k, hk⟩
      have hkl : k < xs.length := (List.getElem?_eq_some_iff.mp hk).1
      by_cases q : k = 0
      · subst q; left; rw [gP_get hkl] at hk; exact (Option.some.inj hk).symm
      · right
        by_cases q2 : k = xs.length - 1
        · subst q2; exact ⟨0, by rw [get, if_pos rfl, ← gP_get hkl]; exact hk⟩
        · exact ⟨k, by rw [get, if_neg q, if_pos (by omega)]; exact hk⟩
    · rintro (q | ⟨k, hk⟩)
      · exact ⟨0, by rw [gP_get h, q]⟩
      · rw [get] at hk
        by_cases q : k = 0
        · rw [if_pos q] at hk; exact ⟨xs.length - 1, by rw [gP_get (by omega)]; exact hk⟩
        · rw [if_neg q] at hk
          split at hk
          · exact ⟨k, hk⟩
          · cases hk

abbrev Ed := Nat × Nat × Int
def updF {α : Type} (g : Nat → α) (i : Nat) (v : α) : Nat → α := fun j => if j = i then v else g j
def suN : Nat → (Nat → Nat) → Nat
  | 0, _ => 0
  | n + 1, f => suN n f + f n
theorem suN_congr {n : Nat} {f g : Nat → Nat} (h : ∀ i, i < n → f i = g i) : suN n f = suN n g := by
  induction n with
  | zero => rfl
  | succ n ih => rw [suN, suN, ih fun i hi => h i (by omega), h n (by omega)]
theorem suN_at {n a : Nat} {f g : Nat → Nat} (h : a < n) (hg : ∀ i, i ≠ a → g i = f i) : suN n g + f a = suN n f + g a := by
  induction n with
  | zero => omega
  | succ n ih =>
    rw [suN, suN]
    by_cases q : a = n
    · subst q; rw [suN_congr (g := f) fun i hi => hg i (by omega)]; omega
    · have := ih (by omega); rw [hg n (fun e => q e.symm)]; omega
theorem suN_bd {n k : Nat} {f : Nat → Nat} (h : ∀ i, f i ≤ k) : suN n f ≤ n * k := by
  induction n with
  | zero => exact Nat.zero_le _
  | succ n ih => rw [suN, Nat.succ_mul]; have := h n; omega
theorem least_nat {p : Nat → Prop} (h : ∃ k, p k) : ∃ k, p k ∧ ∀ j, j < k → ¬ p j := by
  obtain ⟨k, hk⟩ := h
  induction k using Nat.strongRecOn with
  | _ k ih =>
    by_cases q : ∃ j, j < k ∧ p j
    · obtain ⟨j, hj, hp⟩ := q; exact ih j hj hp
    · exact ⟨k, hk, fun j hj hp => q ⟨j, hj, hp⟩⟩
theorem pigeon : ∀ (n k : Nat) (g : Nat → Nat), (∀ i, i < k → g i < n) → (∀ i j, i < j → j < k → g i ≠ g j) → k ≤ n
  | 0, k, g, h1, _ => by
    rcases Nat.eq_zero_or_pos k with q | q
    · omega
    · exact absurd (h1 0 q) (Nat.not_lt_zero _)
  | n + 1, k, g, h1, h2 => by
    by_cases q : ∃ i, i < k ∧ g i = n
    · obtain ⟨i, hi, hgi⟩ := q
      have := pigeon n (k - 1) (fun j => if j < i then g j else g (j + 1)) (fun j hj => by
        show (if j < i then g j else g (j + 1)) < n
        split
        · rename_i hji
          have a := h1 j (by omega)
          have b := h2 j i hji hi; omega
        · rename_i hji
          have a := h1 (j + 1) (by omega)
          have b := h2 i (j + 1) (by omega) (by omega); omega) (fun a b hab hb => by
        show (if a < i then g a else g (a + 1)) ≠ (if b < i then g b else g (b + 1))
        split <;> split <;> first | exact h2 _ _ (by omega) (by omega) | omega)
      omega
    · have := pigeon n k g (fun j hj => by
        have a := h1 j hj
        have : g j ≠ n := fun e => q ⟨j, hj, e⟩
        omega) h2
      omega
def nrL (es : List Ed) (u : Nat) : List (Nat × Int) := (es.filter fun e => e.1 == u).map (·.2)
end Mine

namespace Mine

/-! the heap's order -/
def leP (a b : PN) : Prop := a.1 < b.1 ∨ (a.1 = b.1 ∧ a.2 ≤ b.2)
theorem leP_of_not {a b : PN} (h : ¬ bef b a = true) : leP a b := by
  unfold bef at h; unfold leP
  simp at h
  omega
theorem leP_of_bef {a b : PN} (h : bef a b = true) : leP a b := by
  unfold bef at h; unfold leP
  simp at h
  omega
theorem leP.trans {a b c : PN} (h1 : leP a b) (h2 : leP b c) : leP a c := by unfold leP at *; omega
theorem leP.refl (a : PN) : leP a a := by unfold leP; omega
theorem leP.fst {a b : PN} (h : leP a b) : a.1 ≤ b.1 := by unfold leP at h; omega
theorem swp_at {xs : List PN} {i j : Nat} (hi : i < xs.length) (hj : j < xs.length) (k : Nat) : gP (swp xs i j) k = if k = j then gP xs i else if k = i then gP xs j else gP xs k := by
  unfold swp
  rw [gP, List.getD_eq_getElem?_getD, List.getElem?_set, List.length_set]
  by_cases h1 : j = k
  · subst h1; simp [hj]
  · rw [if_neg h1, if_neg (fun q => h1 q.symm), List.getElem?_set]
    by_cases h2 : i = k
    · subst h2; simp [hi]
    · rw [if_neg h2, if_neg (fun q => h2 q.symm), gP, List.getD_eq_getElem?_getD]
def HO (xs : List PN) : Prop := ∀ j, 0 < j → j < xs.length → leP (gP xs ((j - 1) / 2)) (gP xs j)
theorem HO.min {xs : List PN} (h : HO xs) : ∀ j, j < xs.length → leP (gP xs 0) (gP xs j) := by
  intro j
  induction j using Nat.strongRecOn with
  | _ j ih =>
    intro hj
    by_cases q : j = 0
    · subst q; exact leP.refl _
    · exact (ih ((j - 1) / 2) (by omega) (by omega)).trans (h j (by omega) hj)
theorem par_lt {i : Nat} (h : 0 < i) : (i - 1) / 2 < i := by omega
theorem HO.up : ∀ (f i : Nat) (xs : List PN), i ≤ f → i < xs.length → (∀ j, j ≠ i → 0 < j → j < xs.length → leP (gP xs ((j - 1) / 2)) (gP xs j)) →
    (∀ j, 0 < i → 0 < j → j < xs.length → (j - 1) / 2 = i → leP (gP xs ((i - 1) / 2)) (gP xs j)) → HO (hUp f i xs)
  | 0, i, xs, hf, hi, h1, h2 => fun j hj hl => h1 j (by omega) hj hl
  | f + 1, i, xs, hf, hi, h1, h2 => by
    unfold hUp
    split
    · rename_i hh
      obtain ⟨hi0, hb⟩ := hh
      have hp : (i - 1) / 2 < xs.length := Nat.lt_trans (par_lt hi0) hi
      have hpi : (i - 1) / 2 ≠ i := Nat.ne_of_lt (par_lt hi0)
      have a := swp_at hi hp
      have hle := leP_of_bef hb
      refine HO.up f ((i - 1) / 2) _ (Nat.le_of_lt_succ (Nat.lt_of_lt_of_le (par_lt hi0) hf)) (by rw [swp_len]; exact hp) (fun j hne hj hl => ?_) (fun j hp0 hj hl he => ?_)
      · rw [swp_len] at hl
        by_cases q1 : j = i
        · subst q1
          rw [a, a, if_pos rfl, if_neg (fun q => hpi q.symm), if_pos rfl]
          exact hle
        · rw [a j, if_neg hne, if_neg q1, a]
          by_cases q2 : (j - 1) / 2 = (i - 1) / 2
          · rw [if_pos q2]
            have := h1 j q1 hj hl
            rw [q2] at this
            exact hle.trans this
          · rw [if_neg q2]
            by_cases q3 : (j - 1) / 2 = i
            · rw [if_pos q3]; exact h2 j hi0 hj hl q3
            · rw [if_neg q3]; exact h1 j q1 hj hl
      · rw [swp_len] at hl
        have e1 : ((i - 1) / 2 - 1) / 2 ≠ (i - 1) / 2 := Nat.ne_of_lt (par_lt hp0)
        have e2 : ((i - 1) / 2 - 1) / 2 ≠ i := Nat.ne_of_lt (Nat.lt_trans (par_lt hp0) (par_lt hi0))
        have g := h1 ((i - 1) / 2) hpi hp0 hp
        rw [a, if_neg e1, if_neg e2, a]
        by_cases q1 : j = i
        · subst q1
          rw [if_neg (fun q => hpi q.symm), if_pos rfl]; exact g
        · rw [if_neg (fun q => absurd (he.trans q.symm) (Nat.ne_of_lt (par_lt hj))), if_neg q1]
          have := h1 j q1 hj hl
          rw [he] at this
          exact g.trans this
    · rename_i hh
      intro j hj hl
      by_cases q : j = i
      · subst q; exact leP_of_not fun hb => hh ⟨hj, hb⟩
      · exact h1 j q hj hl
theorem chd_cases {xs : List PN} {i : Nat} : chd xs i = 2 * i + 1 ∨ chd xs i = 2 * i + 2 := by unfold chd; split <;> omega
theorem chd_min {xs : List PN} {i j : Nat} (hj : 0 < j) (hl : j < xs.length) (h : (j - 1) / 2 = i) : leP (gP xs (chd xs i)) (gP xs j) := by
  have : j = 2 * i + 1 ∨ j = 2 * i + 2 := by omega
  unfold chd
  rcases this with rfl | rfl
  · split
    · rename_i q; exact leP_of_bef q.2
    · exact leP.refl _
  · split
    · exact leP.refl _
    · rename_i q; exact leP_of_not fun hb => q ⟨hl, hb⟩
theorem HO.dn : ∀ (f i : Nat) (xs : List PN), xs.length ≤ f + i → (∀ j, 0 < j → j < xs.length → (j - 1) / 2 ≠ i → leP (gP xs ((j - 1) / 2)) (gP xs j)) →
    (∀ j, 0 < i → 0 < j → j < xs.length → (j - 1) / 2 = i → leP (gP xs ((i - 1) / 2)) (gP xs j)) → HO (hDn f i xs)
  | 0, i, xs, hf, h1, h2 => fun j hj hl => h1 j hj hl (by unfold hDn at hl; omega)
  | f + 1, i, xs, hf, h1, h2 => by
    unfold hDn
    split
    · rename_i hh
      obtain ⟨hc, hb⟩ := hh
      obtain ⟨hcl, hic⟩ := chd_lt hc
      have hcc := chd_cases (xs := xs) (i := i)
      have cmin := fun j => chd_min (xs := xs) (i := i) (j := j)
      have hpar : (chd xs i - 1) / 2 = i := by omega
      clear hcc
      generalize chd xs i = ch at *
      have a := swp_at (show i < xs.length by omega) hcl
      have hle := leP_of_bef hb
      refine HO.dn f ch _ (by rw [swp_len]; omega) (fun j hj hl hne => ?_) (fun j hc0 hj hl he => ?_)
      · rw [swp_len] at hl
        by_cases q1 : j = ch
        · subst q1
          rw [a j, if_pos rfl, hpar, a, if_neg (Nat.ne_of_lt hic), if_pos rfl]
          exact hle
        · rw [a j, if_neg q1]
          by_cases q2 : j = i
          · subst q2
            rw [if_pos rfl, a, if_neg (Nat.ne_of_lt (Nat.lt_trans (par_lt hj) hic)), if_neg (Nat.ne_of_lt (par_lt hj))]
            exact h2 ch hj (Nat.lt_of_le_of_lt (Nat.zero_le _) hic) hcl hpar
          · rw [if_neg q2, a, if_neg hne]
            by_cases q3 : (j - 1) / 2 = i
            · rw [if_pos q3]; exact cmin j hj hl q3
            · rw [if_neg q3]; exact h1 j hj hl q3
      · rw [swp_len] at hl
        rw [hpar, a, if_neg (Nat.ne_of_lt hic), if_pos rfl, a, if_neg (fun q => absurd (he.trans q.symm) (Nat.ne_of_lt (par_lt hj))), if_neg (Nat.ne_of_lt (Nat.lt_trans hic (he ▸ par_lt hj))).symm]
        have := h1 j hj hl (fun q => absurd (he.symm.trans q) (Nat.ne_of_lt hic).symm)
        rw [he] at this; exact this
    · rename_i hh
      intro j hj hl
      by_cases q : (j - 1) / 2 = i
      · rw [q]
        have hc : 2 * i + 1 < xs.length := by omega
        exact (leP_of_not fun hb => hh ⟨hc, hb⟩).trans (chd_min hj hl q)
      · exact h1 j hj hl q
theorem gP_app {xs : List PN} {p : PN} {j : Nat} (h : j < xs.length) : gP (xs ++ [p]) j = gP xs j := by
  rw [gP, gP, List.getD_eq_getElem?_getD, List.getD_eq_getElem?_getD, List.getElem?_append_left h]
theorem HO.push {xs : List PN} (h : HO xs) (p : PN) : HO (hPush xs p) := by
  refine HO.up _ _ _ (Nat.le_refl _) (by simp) (fun j hne hj hl => ?_) (fun j _ hj hl he => ?_)
  · rw [List.length_append, List.length_singleton] at hl
    rw [gP_app (by omega), gP_app (by omega)]; exact h j hj (by omega)
  · rw [List.length_append, List.length_singleton] at hl; omega
theorem HO.rest {xs : List PN} (h : HO xs) : HO (hRest xs) := by
  unfold hRest
  split
  · intro j _ hl; simp at hl
  · rename_i h1
    have get : ∀ k, 0 < k → k < xs.length - 1 → gP ((xs.take (xs.length - 1)).set 0 (gP xs (xs.length - 1))) k = gP xs k := fun k hk hl => by
      rw [gP, List.getD_eq_getElem?_getD, List.getElem?_set, if_neg (by omega), List.getElem?_take, if_pos hl, gP, List.getD_eq_getElem?_getD]
    refine HO.dn _ _ _ (by simp) (fun j hj hl hne => ?_) (fun j h0 => absurd h0 (Nat.lt_irrefl _))
    simp only [List.length_set, List.length_take] at hl
    rw [get _ (by omega) (by omega), get _ (by omega) (by omega)]
    exact h j hj (by omega)
theorem HO.top {xs : List PN} (h : HO xs) {y : PN} (hy : y ∈ xs) : leP (gP xs 0) y := by
  obtain ⟨k, hk⟩ := List.mem_iff_getElem?.mp hy
  have hkl : k < xs.length := (List.getElem?_eq_some_iff.mp hk).1
  rw [gP_get hkl] at hk
  rw [← Option.some.inj hk]; exact h.min k hkl
theorem HO.nil : HO [] := fun j _ h => absurd h (Nat.not_lt_zero _)
theorem HO.one (p : PN) : HO [p] := fun j h1 h => by simp at h; omega

/-! all in order -/
def pAll : Nat → List PN → List PN → List PN
  | 0, _, out => out
  | f + 1, H, out => if 0 < H.length then pAll f (hRest H) (out ++ [gP H 0]) else out
theorem pAll_spec : ∀ (f : Nat) (H out : List PN), H.length ≤ f → HO H → (out.Pairwise leP) → (∀ a ∈ out, ∀ b ∈ H, leP a b) →
    (pAll f H out).Pairwise leP ∧ (∀ y, y ∈ pAll f H out ↔ (y ∈ out ∨ y ∈ H)) ∧ (pAll f H out).length = out.length + H.length
  | 0, H, out, hf, hH, ho, hoH => by
    have : H = [] := List.length_eq_zero_iff.mp (by omega)
    subst this; exact ⟨ho, fun y => by simp [pAll], rfl⟩
  | f + 1, H, out, hf, hH, ho, hoH => by
    unfold pAll
    split
    · rename_i h0
      obtain ⟨r1, r2⟩ := hRest_spec h0
      have h0m : gP H 0 ∈ H := (r2 _).mpr (.inl rfl)
      obtain ⟨a1, a2, a3⟩ := pAll_spec f (hRest H) (out ++ [gP H 0]) (by omega) hH.rest (List.pairwise_append.mpr ⟨ho, List.pairwise_singleton _ _, fun a ha b hb => by rw [List.mem_singleton.mp hb]; exact hoH a ha _ h0m⟩) (fun a ha b hb => by
        have hbH := (r2 b).mpr (.inr hb)
        rcases List.mem_append.mp ha with q | q
        · exact hoH a q b hbH
        · rw [List.mem_singleton.mp q]; exact hH.top hbH)
      refine ⟨a1, fun y => ?_, by rw [a3]; simp; omega⟩
      rw [a2, r2 y]; simp [or_assoc]
    · rename_i h0
      have : H = [] := List.length_eq_zero_iff.mp (by omega)
      subst this; exact ⟨ho, fun y => by simp, rfl⟩
def hAll (ps : List PN) : List PN := ps.foldl hPush []
theorem hAll_spec (ps : List PN) : HO (hAll ps) ∧ (∀ y, y ∈ hAll ps ↔ y ∈ ps) ∧ (hAll ps).length = ps.length := by
  suffices ∀ (ps H : List PN), HO H → HO (ps.foldl hPush H) ∧ (∀ y, y ∈ ps.foldl hPush H ↔ (y ∈ H ∨ y ∈ ps)) ∧ (ps.foldl hPush H).length = H.length + ps.length by
    obtain ⟨a, b, c⟩ := this ps [] HO.nil
    exact ⟨a, fun y => by rw [hAll, b]; simp, by rw [hAll, c]; simp⟩
  intro ps
  induction ps with
  | nil => intro H h; exact ⟨h, fun y => by simp, rfl⟩
  | cons p ps ih =>
    intro H h
    obtain ⟨a, b, c⟩ := ih (hPush H p) (h.push p)
    obtain ⟨s1, s2⟩ := hPush_spec H p
    refine ⟨a, fun y => ?_, by rw [List.foldl_cons, c, s1, List.length_cons]; omega⟩
    rw [List.foldl_cons, b, s2]; simp [or_assoc]
def hSort (ps : List PN) : List PN := pAll ps.length (hAll ps) []
theorem hSort_spec (ps : List PN) : (hSort ps).Pairwise leP ∧ (∀ y, y ∈ hSort ps ↔ y ∈ ps) ∧ (hSort ps).length = ps.length := by
  obtain ⟨a, b, c⟩ := hAll_spec ps
  obtain ⟨d, e, f⟩ := pAll_spec ps.length (hAll ps) [] (by omega) a .nil (fun _ h => nomatch h)
  exact ⟨d, fun y => by rw [hSort, e, b]; simp, by rw [hSort, f, c]; simp⟩
end Mine

namespace Mine

/-! labels; a run over a list of edges that joins where labels differ -/
abbrev Lb := Nat → Nat
def mrg (lab : Lb) (a b : Nat) : Lb := fun x => if lab x = lab b then lab a else lab x
theorem mrg_iff {lab : Lb} {a b x y : Nat} : mrg lab a b x = mrg lab a b y ↔ (lab x = lab y ∨ (lab x = lab a ∧ lab y = lab b) ∨ (lab x = lab b ∧ lab y = lab a)) := by
  unfold mrg
  split
  · rename_i hx
    split
    · rename_i hy; exact ⟨fun _ => .inl (hx.trans hy.symm), fun _ => rfl⟩
    · rename_i hy
      refine ⟨fun h => .inr (.inr ⟨hx, h.symm⟩), fun h => ?_⟩
      rcases h with h | ⟨_, h⟩ | ⟨_, h⟩
      · exact absurd (h.symm.trans hx) hy
      · exact absurd h hy
      · exact h.symm
  · rename_i hx
    split
    · rename_i hy
      refine ⟨fun h => .inr (.inl ⟨h, hy⟩), fun h => ?_⟩
      rcases h with h | ⟨h, _⟩ | ⟨h, _⟩
      · exact absurd (h.trans hy) hx
      · exact h
      · exact absurd h hx
    · rename_i hy
      refine ⟨.inl, fun h => ?_⟩
      rcases h with h | ⟨_, h⟩ | ⟨h, _⟩
      · exact h
      · exact absurd h hy
      · exact absurd h hx
theorem mrg_self {lab : Lb} {a b : Nat} : mrg lab a b a = mrg lab a b b := mrg_iff.mpr (.inr (.inl ⟨rfl, rfl⟩))
theorem mrg_sub {lab g : Lb} {a b : Nat} (h : ∀ x y, lab x = lab y → g x = g y) (hab : g a = g b) : ∀ x y, mrg lab a b x = mrg lab a b y → g x = g y := fun x y q => by
  rcases mrg_iff.mp q with r | ⟨r1, r2⟩ | ⟨r1, r2⟩
  · exact h x y r
  · rw [h x a r1, h y b r2, hab]
  · rw [h x b r1, h y a r2, hab]
theorem mrg_comm_sub {lab : Lb} {a b p q : Nat} : ∀ x y, mrg (mrg lab p q) a b x = mrg (mrg lab p q) a b y → mrg (mrg lab a b) p q x = mrg (mrg lab a b) p q y :=
  mrg_sub (mrg_sub (fun x y h => mrg_iff.mpr (.inl (mrg_iff.mpr (.inl h)))) mrg_self) (mrg_iff.mpr (.inl mrg_self))
def SameL (f g : Lb) : Prop := ∀ x y, f x = f y ↔ g x = g y
def KR : List Ed → Lb → Int
  | [], _ => 0
  | e :: l, lab => if lab e.1 = lab e.2.1 then KR l lab else e.2.2 + KR l (mrg lab e.1 e.2.1)
theorem KR_congr : ∀ (l : List Ed) {f g : Lb}, SameL f g → KR l f = KR l g
  | [], _, _, _ => rfl
  | e :: l, f, g, h => by
    unfold KR
    by_cases q : f e.1 = f e.2.1
    · rw [if_pos q, if_pos ((h _ _).mp q)]; exact KR_congr l h
    · rw [if_neg q, if_neg (fun r => q ((h _ _).mpr r)), KR_congr l (f := mrg f e.1 e.2.1) (g := mrg g e.1 e.2.1) fun x y => by
        rw [mrg_iff, mrg_iff, h, h, h, h, h]]
theorem KR_zero : ∀ (l : List Ed) {lab : Lb}, (∀ e ∈ l, lab e.1 = lab e.2.1) → KR l lab = 0
  | [], _, _ => rfl
  | e :: l, lab, h => by
    unfold KR
    rw [if_pos (h e (List.mem_cons_self ..))]
    exact KR_zero l fun e' he => h e' (List.mem_cons_of_mem _ he)
/-- the weight of the edge at which a and b meet -/
def bot : List Ed → Lb → Nat → Nat → Option Int
  | [], _, _, _ => none
  | e :: l, lab, a, b => if lab e.1 = lab e.2.1 then bot l lab a b else if mrg lab e.1 e.2.1 a = mrg lab e.1 e.2.1 b then some e.2.2 else bot l (mrg lab e.1 e.2.1) a b
theorem KR_bot : ∀ (l : List Ed) {lab : Lb} {a b : Nat} {w : Int}, lab a ≠ lab b → bot l lab a b = some w → KR l lab = w + KR l (mrg lab a b)
  | [], _, _, _, _, _, h => by cases h
  | e :: l, lab, a, b, w, hab, h => by
    unfold bot at h
    unfold KR
    by_cases q : lab e.1 = lab e.2.1
    · rw [if_pos q] at h ⊢
      rw [if_pos (mrg_iff.mpr (.inl q))]
      exact KR_bot l hab h
    · rw [if_neg q] at h ⊢
      by_cases q2 : mrg lab e.1 e.2.1 a = mrg lab e.1 e.2.1 b
      · rw [if_pos q2] at h
        cases h
        have h2 : mrg lab a b e.1 = mrg lab a b e.2.1 := by
          rcases mrg_iff.mp q2 with r | ⟨r1, r2⟩ | ⟨r1, r2⟩
          · exact absurd r hab
          · exact mrg_iff.mpr (.inr (.inl ⟨r1.symm, r2.symm⟩))
          · exact mrg_iff.mpr (.inr (.inr ⟨r2.symm, r1.symm⟩))
        rw [if_pos h2]
        congr 1
        exact KR_congr l fun x y => ⟨mrg_sub (fun x y h => mrg_iff.mpr (.inl h)) h2 x y, mrg_sub (fun x y h => mrg_iff.mpr (.inl h)) q2 x y⟩
      · rw [if_neg q2] at h
        have q3 : ¬ mrg lab a b e.1 = mrg lab a b e.2.1 := fun r => by
          rcases mrg_iff.mp r with r | ⟨r1, r2⟩ | ⟨r1, r2⟩
          · exact q r
          · exact q2 (mrg_iff.mpr (.inr (.inl ⟨r1.symm, r2.symm⟩)))
          · exact q2 (mrg_iff.mpr (.inr (.inr ⟨r2.symm, r1.symm⟩)))
        rw [if_neg q3, KR_bot l q2 h]
        have : KR l (mrg (mrg lab e.1 e.2.1) a b) = KR l (mrg (mrg lab a b) e.1 e.2.1) := KR_congr l fun x y => ⟨mrg_comm_sub x y, mrg_comm_sub x y⟩
        rw [this]; omega
abbrev LeW (l : List Ed) : Prop := l.Pairwise fun a b => a.2.2 ≤ b.2.2
theorem bot_eq : ∀ (l : List Ed) {lab : Lb} {a b : Nat} {w : Int} {e : Ed}, LeW l → (∀ e' ∈ l, w ≤ e'.2.2) → e ∈ l → e.2.2 = w → lab a ≠ lab b →
    ((lab e.1 = lab a ∧ lab e.2.1 = lab b) ∨ (lab e.1 = lab b ∧ lab e.2.1 = lab a)) → bot l lab a b = some w
  | [], _, _, _, _, _, _, _, he, _, _, _ => by cases he
  | h :: l, lab, a, b, w, e, hs, hw, he, hew, hab, hc => by
    have hs' := List.pairwise_cons.mp hs
    have hhw : h.2.2 = w := by
      have := hw h (List.mem_cons_self ..)
      rcases List.mem_cons.mp he with rfl | he
      · exact hew
      · have := hs'.1 e he; omega
    unfold bot
    by_cases q : lab h.1 = lab h.2.1
    · rw [if_pos q]
      rcases List.mem_cons.mp he with rfl | he
      · omega
      · exact bot_eq l hs'.2 (fun e' he' => hw e' (List.mem_cons_of_mem _ he')) he hew hab hc
    · rw [if_neg q]
      by_cases q2 : mrg lab h.1 h.2.1 a = mrg lab h.1 h.2.1 b
      · rw [if_pos q2, hhw]
      · rw [if_neg q2]
        rcases List.mem_cons.mp he with rfl | he
        · refine absurd (mrg_iff.mpr ?_) q2
          rcases hc with ⟨c1, c2⟩ | ⟨c1, c2⟩
          · exact .inr (.inl ⟨c1.symm, c2.symm⟩)
          · exact .inr (.inr ⟨c2.symm, c1.symm⟩)
        · refine bot_eq l hs'.2 (fun e' he' => hw e' (List.mem_cons_of_mem _ he')) he hew q2 ?_
          rcases hc with ⟨c1, c2⟩ | ⟨c1, c2⟩
          · exact .inl ⟨mrg_iff.mpr (.inl c1), mrg_iff.mpr (.inl c2)⟩
          · exact .inr ⟨mrg_iff.mpr (.inl c1), mrg_iff.mpr (.inl c2)⟩
/-- the lightest edge out of a's class -/
theorem bot_min : ∀ (l : List Ed) {lab : Lb} {a b : Nat} {w : Int} {e : Ed}, LeW l → (∀ e' ∈ l, (lab e'.1 = lab a ↔ ¬ lab e'.2.1 = lab a) → w ≤ e'.2.2) → e ∈ l → e.2.2 = w → lab a ≠ lab b →
    ((lab e.1 = lab a ∧ lab e.2.1 = lab b) ∨ (lab e.1 = lab b ∧ lab e.2.1 = lab a)) → bot l lab a b = some w
  | [], _, _, _, _, _, _, _, he, _, _, _ => by cases he
  | h :: l, lab, a, b, w, e, hs, hw, he, hew, hab, hc => by
    have hs' := List.pairwise_cons.mp hs
    by_cases hh : w ≤ h.2.2
    · refine bot_eq (h :: l) hs (fun e' he' => ?_) he hew hab hc
      rcases List.mem_cons.mp he' with rfl | he'
      · exact hh
      · exact Int.le_trans hh (hs'.1 e' he')
    · have hne : e ∈ l := by
        rcases List.mem_cons.mp he with rfl | he
        · omega
        · exact he
      have hx : ¬ (lab h.1 = lab a ↔ ¬ lab h.2.1 = lab a) := fun r => hh (hw h (List.mem_cons_self ..) r)
      unfold bot
      by_cases q : lab h.1 = lab h.2.1
      · rw [if_pos q]
        exact bot_min l hs'.2 (fun e' he' => hw e' (List.mem_cons_of_mem _ he')) hne hew hab hc
      · have h1 : lab h.1 ≠ lab a := by omega
        have h2 : lab h.2.1 ≠ lab a := by omega
        have cl : ∀ z, mrg lab h.1 h.2.1 z = mrg lab h.1 h.2.1 a ↔ lab z = lab a := fun z => by
          rw [mrg_iff]
          refine ⟨fun r => ?_, .inl⟩
          rcases r with r | ⟨_, r⟩ | ⟨_, r⟩
          · exact r
          · exact absurd r.symm h2
          · exact absurd r.symm h1
        rw [if_neg q, if_neg (fun r => hab ((cl b).mp r.symm).symm)]
        refine bot_min l hs'.2 (fun e' he' hr => hw e' (List.mem_cons_of_mem _ he') (by rw [cl, cl] at hr; exact hr)) hne hew (fun r => hab ((cl b).mp r.symm).symm) ?_
        rcases hc with ⟨c1, c2⟩ | ⟨c1, c2⟩
        · exact .inl ⟨mrg_iff.mpr (.inl c1), mrg_iff.mpr (.inl c2)⟩
        · exact .inr ⟨mrg_iff.mpr (.inl c1), mrg_iff.mpr (.inl c2)⟩
end Mine

namespace Mine

/-! prim -/
def both (es : List Ed) : List Ed := es ++ es.map fun e => (e.2.1, e.1, e.2.2)
theorem mem_near {es : List Ed} {u : Nat} {p : Nat × Int} : p ∈ nrL (both es) u ↔ ((u, p) ∈ es ∨ (p.1, u, p.2) ∈ es) := by
  unfold nrL both
  simp only [List.mem_map, List.mem_filter, List.mem_append, beq_iff_eq]
  constructor
  · rintro ⟨e, ⟨he | ⟨e', he', rfl⟩, rfl⟩, rfl⟩
    · exact .inl he
    · exact .inr he'
  · rintro (h | h)
    · exact ⟨_, ⟨.inl h, rfl⟩, rfl⟩
    · exact ⟨(u, p.1, p.2), ⟨.inr ⟨_, h, rfl⟩, rfl⟩, rfl⟩
theorem near_len {es : List Ed} {u : Nat} : (nrL (both es) u).length ≤ 2 * es.length := by
  unfold nrL
  rw [List.length_map]
  exact Nat.le_trans (List.length_filter_le ..) (by simp [both]; omega)
def nbP (se : Nat → Bool) (H : List PN) (ps : List (Nat × Int)) : List PN := ps.foldl (fun H p => if se p.1 = true then H else hPush H (p.2, p.1)) H
theorem nbP_spec (se : Nat → Bool) : ∀ (ps : List (Nat × Int)) (H : List PN), HO H → HO (nbP se H ps) ∧ (∀ y, y ∈ nbP se H ps ↔ (y ∈ H ∨ ∃ p ∈ ps, se p.1 = false ∧ y = (p.2, p.1))) ∧ (nbP se H ps).length ≤ H.length + ps.length
  | [], H, h => ⟨h, fun y => by simp [nbP], by simp [nbP]⟩
  | p :: ps, H, h => by
    rw [nbP, List.foldl_cons, ← nbP]
    by_cases q : se p.1 = true
    · rw [if_pos q]
      obtain ⟨a, b, c⟩ := nbP_spec se ps H h
      refine ⟨a, fun y => ?_, by rw [List.length_cons]; omega⟩
      rw [b]
      simp only [List.mem_cons, exists_eq_or_imp, q]
      simp
    · rw [if_neg q]
      obtain ⟨a, b, c⟩ := nbP_spec se ps (hPush H (p.2, p.1)) (h.push _)
      obtain ⟨s1, s2⟩ := hPush_spec H (p.2, p.1)
      refine ⟨a, fun y => ?_, by rw [List.length_cons]; omega⟩
      rw [b, s2]
      simp only [List.mem_cons, exists_eq_or_imp, Bool.eq_false_iff.mpr q]
      simp [or_assoc]
abbrev Pst := (Nat → Bool) × Int × List PN
def pStep (es : List Ed) (st : Pst) : Pst :=
  if st.1 (gP st.2.2 0).2 = true then (st.1, st.2.1, hRest st.2.2)
  else (updF st.1 (gP st.2.2 0).2 true, st.2.1 + (gP st.2.2 0).1, nbP (updF st.1 (gP st.2.2 0).2 true) (hRest st.2.2) (nrL (both es) (gP st.2.2 0).2))
def pRun (es : List Ed) : Nat → Pst → Pst
  | 0, st => st
  | f + 1, st => if 0 < st.2.2.length then pRun es f (pStep es st) else st
structure PI (n : Nat) (es l : List Ed) (Dn : Nat → Prop) (s0 : Nat) (se : Nat → Bool) (lab : Lb) (t : Int) (H : List PN) : Prop where
  ho : HO H
  hn : ∀ y ∈ H, y.2 < n
  sub : ∀ x, Dn x → se x = true
  dcl : ∀ e ∈ es, (Dn e.1 ↔ Dn e.2.1) ∧ (Dn e.1 → lab e.1 = lab e.2.1)
  cls : ∀ x y, se x = true → ¬ Dn x → (lab y = lab x ↔ (se y = true ∧ ¬ Dn y))
  sing : ∀ x y, se x = false → lab y = lab x → y = x
  tot : t + KR l lab = KR l id
  frm : ∀ y ∈ H, se y.2 = true ∨ (y = (0, s0) ∧ ∀ x, se x = true → Dn x) ∨ ∃ e ∈ es, e.2.2 = y.1 ∧ ∃ x, se x = true ∧ ¬ Dn x ∧ ((e.1 = x ∧ e.2.1 = y.2) ∨ (e.2.1 = x ∧ e.1 = y.2))
  crs1 : ∀ e ∈ es, se e.1 = true → ¬ Dn e.1 → se e.2.1 = false → (e.2.2, e.2.1) ∈ H
  crs2 : ∀ e ∈ es, se e.2.1 = true → ¬ Dn e.2.1 → se e.1 = false → (e.2.2, e.1) ∈ H
  st0 : se s0 = true ∨ (0, s0) ∈ H
section
variable {n s0 : Nat} {es l : List Ed} {Dn : Nat → Prop} {se : Nat → Bool} {lab : Lb} {t : Int} {H : List PN}
theorem PI.old (I : PI n es l Dn s0 se lab t H) (h0 : 0 < H.length) (hs : se (gP H 0).2 = true) : PI n es l Dn s0 se lab t (hRest H) := by
  obtain ⟨r1, r2⟩ := hRest_spec h0
  have back : ∀ y ∈ H, se y.2 = false → y ∈ hRest H := fun y hy hf => by
    rcases (r2 y).mp hy with rfl | q
    · rw [hs] at hf; cases hf
    · exact q
  refine ⟨I.ho.rest, fun y hy => I.hn y ((r2 y).mpr (.inr hy)), I.sub, I.dcl, I.cls, I.sing, I.tot, fun y hy => I.frm y ((r2 y).mpr (.inr hy)), fun e he h1 h2 h3 => back _ (I.crs1 e he h1 h2 h3) h3, fun e he h1 h2 h3 => back _ (I.crs2 e he h1 h2 h3) h3, ?_⟩
  cases q : se s0 with
  | true => exact .inl rfl
  | false => exact .inr (back _ (I.st0.resolve_left (by rw [q]; nofun)) q)
theorem updF_true {se : Nat → Bool} {u x : Nat} : updF se u true x = true ↔ (se x = true ∨ x = u) := by
  unfold updF; split <;> simp_all
theorem updF_false {se : Nat → Bool} {u x : Nat} : updF se u true x = false ↔ (se x = false ∧ x ≠ u) := by
  unfold updF; split <;> simp_all
theorem PI.new (I : PI n es l Dn s0 se lab t H) (hes : ∀ e ∈ es, e.1 < n ∧ e.2.1 < n) (hl : LeW l) (hm : ∀ e, e ∈ l ↔ e ∈ es) (h0 : 0 < H.length) (hs : se (gP H 0).2 = false) :
    ∃ lab', PI n es l Dn s0 (updF se (gP H 0).2 true) lab' (t + (gP H 0).1) (nbP (updF se (gP H 0).2 true) (hRest H) (nrL (both es) (gP H 0).2)) := by
  obtain ⟨r1, r2⟩ := hRest_spec h0
  have htop : gP H 0 ∈ H := (r2 _).mpr (.inl rfl)
  have tle : ∀ y ∈ H, (gP H 0).1 ≤ y.1 := fun y hy => (I.ho.top hy).fst
  have tn := I.hn _ htop
  have tf := I.frm _ htop
  generalize gP H 0 = top at *
  obtain ⟨w, u⟩ := top
  simp only at hs tle tn tf ⊢
  have hDu : ¬ Dn u := fun q => by rw [I.sub u q] at hs; cases hs
  obtain ⟨b1, b2, b3⟩ := nbP_spec (updF se u true) (nrL (both es) u) (hRest H) I.ho.rest
  have back : ∀ y ∈ H, y.2 ≠ u → y ∈ nbP (updF se u true) (hRest H) (nrL (both es) u) := fun y hy hf => by
    refine (b2 y).mpr (.inl ?_)
    rcases (r2 y).mp hy with rfl | q
    · exact absurd rfl hf
    · exact q
  have st0' : updF se u true s0 = true ∨ (0, s0) ∈ nbP (updF se u true) (hRest H) (nrL (both es) u) := by
    by_cases q : s0 = u
    · exact .inl (updF_true.mpr (.inr q))
    · rcases I.st0 with r | r
      · exact .inl (updF_true.mpr (.inl r))
      · exact .inr (back _ r q)
  have hn' : ∀ y ∈ nbP (updF se u true) (hRest H) (nrL (both es) u), y.2 < n := fun y hy => by
    rcases (b2 y).mp hy with q | ⟨p, hp, _, rfl⟩
    · exact I.hn y ((r2 y).mpr (.inr q))
    · rcases mem_near.mp hp with q | q
      · exact (hes _ q).2
      · exact (hes _ q).1
  have frm' : ∀ y ∈ nbP (updF se u true) (hRest H) (nrL (both es) u), updF se u true y.2 = true ∨ (y = (0, s0) ∧ ∀ x, updF se u true x = true → Dn x) ∨ ∃ e ∈ es, e.2.2 = y.1 ∧ ∃ x, updF se u true x = true ∧ ¬ Dn x ∧ ((e.1 = x ∧ e.2.1 = y.2) ∨ (e.2.1 = x ∧ e.1 = y.2)) := fun y hy => by
    rcases (b2 y).mp hy with q | ⟨p, hp, _, rfl⟩
    · rcases I.frm y ((r2 y).mpr (.inr q)) with r | ⟨rfl, r⟩ | ⟨e, he, e1, x, x1, x2, x3⟩
      · exact .inl (updF_true.mpr (.inl r))
      · left
        refine updF_true.mpr (.inr ?_)
        rcases tf with z | ⟨z, _⟩ | ⟨e, he, e1, x, x1, x2, x3⟩
        · rw [hs] at z; cases z
        · cases z; rfl
        · exact absurd (r x x1) x2
      · exact .inr (.inr ⟨e, he, e1, x, updF_true.mpr (.inl x1), x2, x3⟩)
    · right; right
      rcases mem_near.mp hp with q | q
      · exact ⟨_, q, rfl, u, updF_true.mpr (.inr rfl), hDu, .inl ⟨rfl, rfl⟩⟩
      · exact ⟨_, q, rfl, u, updF_true.mpr (.inr rfl), hDu, .inr ⟨rfl, rfl⟩⟩
  have crs1' : ∀ e ∈ es, updF se u true e.1 = true → ¬ Dn e.1 → updF se u true e.2.1 = false → (e.2.2, e.2.1) ∈ nbP (updF se u true) (hRest H) (nrL (both es) u) := fun e he h1 h2 h3 => by
    have h3' := updF_false.mp h3
    rcases updF_true.mp h1 with q | q
    · exact back _ (I.crs1 e he q h2 h3'.1) h3'.2
    · exact (b2 _).mpr (.inr ⟨e.2, mem_near.mpr (.inl (by rw [← q]; exact he)), h3, rfl⟩)
  have crs2' : ∀ e ∈ es, updF se u true e.2.1 = true → ¬ Dn e.2.1 → updF se u true e.1 = false → (e.2.2, e.1) ∈ nbP (updF se u true) (hRest H) (nrL (both es) u) := fun e he h1 h2 h3 => by
    have h3' := updF_false.mp h3
    rcases updF_true.mp h1 with q | q
    · exact back _ (I.crs2 e he q h2 h3'.1) h3'.2
    · exact (b2 _).mpr (.inr ⟨(e.1, e.2.2), mem_near.mpr (.inr (by rw [← q]; exact he)), h3, rfl⟩)
  have sub' : ∀ x, Dn x → updF se u true x = true := fun x hx => updF_true.mpr (.inl (I.sub x hx))
  rcases tf with z | ⟨z, hT⟩ | ⟨e, he, e1, x, x1, x2, x3⟩
  · rw [hs] at z; cases z
  · cases z
    refine ⟨lab, b1, hn', sub', I.dcl, fun x y h1 h2 => ?_, fun x y h1 h2 => I.sing x y (updF_false.mp h1).1 h2, by rw [Int.add_zero]; exact I.tot, frm', crs1', crs2', st0'⟩
    have e : x = s0 := (updF_true.mp h1).resolve_left fun q => h2 (hT x q)
    rw [e] at h1 h2 ⊢
    constructor
    · intro q
      rw [I.sing s0 y hs q]; exact ⟨h1, h2⟩
    · rintro ⟨q1, q2⟩
      rw [(updF_true.mp q1).resolve_left fun q => q2 (hT y q)]
  · have hxu : lab x ≠ lab u := fun q => by
      have := I.sing u x hs q
      rw [this, hs] at x1; cases x1
    have cx := fun y => I.cls x y x1 x2
    have hb : bot l lab x u = some w := by
      refine bot_min l hl (fun e' he' hc => ?_) ((hm e).mpr he) e1 hxu ?_
      · have he' := (hm e').mp he'
        rw [cx, cx] at hc
        obtain ⟨d1, _⟩ := I.dcl e' he'
        by_cases q : se e'.1 = true ∧ ¬ Dn e'.1
        · have q2 : se e'.2.1 = false := by
            cases r : se e'.2.1 with
            | false => rfl
            | true => exact absurd ⟨r, fun k => q.2 (d1.mpr k)⟩ (hc.mp q)
          exact tle _ (I.crs1 e' he' q.1 q.2 q2)
        · have q1 : se e'.2.1 = true ∧ ¬ Dn e'.2.1 := Classical.byContradiction fun r => q (hc.mpr r)
          have q2 : se e'.1 = false := by
            cases r : se e'.1 with
            | false => rfl
            | true => exact absurd ⟨r, fun k => q1.2 (d1.mp k)⟩ q
          exact tle _ (I.crs2 e' he' q1.1 q1.2 q2)
      · rcases x3 with ⟨k1, k2⟩ | ⟨k1, k2⟩
        · exact .inl ⟨by rw [k1], by rw [k2]⟩
        · exact .inr ⟨by rw [k2], by rw [k1]⟩
    have hu1 : ∀ y, lab y = lab u ↔ y = u := fun y => ⟨I.sing u y hs, fun q => by rw [q]⟩
    refine ⟨mrg lab x u, b1, hn', sub', fun e' he' => ⟨(I.dcl e' he').1, fun k => mrg_iff.mpr (.inl ((I.dcl e' he').2 k))⟩, fun z y h1 h2 => ?_, fun z y h1 h2 => ?_, by have := I.tot; rw [KR_bot l hxu hb] at this; omega, frm', crs1', crs2', st0'⟩
    · rw [mrg_iff, hu1 y, hu1 z, cx y, cx z]
      have hz := updF_true.mp h1
      rw [updF_true]
      rcases hz with hz | rfl
      · rw [I.cls z y hz h2]
        have : z ≠ u := fun q => by rw [q, hs] at hz; cases hz
        constructor
        · rintro (q | ⟨q1, q2⟩ | ⟨rfl, q2⟩)
          · exact ⟨.inl q.1, q.2⟩
          · exact absurd q2 this
          · exact ⟨.inr rfl, hDu⟩
        · rintro ⟨q1 | rfl, q2⟩
          · exact .inl ⟨q1, q2⟩
          · exact .inr (.inr ⟨rfl, hz, h2⟩)
      · rw [hu1 y]
        constructor
        · rintro (rfl | ⟨q1, _⟩ | ⟨rfl, q2⟩)
          · exact ⟨.inr rfl, h2⟩
          · exact ⟨.inl q1.1, q1.2⟩
          · exact ⟨.inr rfl, h2⟩
        · rintro ⟨q1 | rfl, q2⟩
          · exact .inr (.inl ⟨⟨q1, q2⟩, rfl⟩)
          · exact .inl rfl
    · obtain ⟨h1a, h1b⟩ := updF_false.mp h1
      rcases mrg_iff.mp h2 with q | ⟨q1, q2⟩ | ⟨q1, q2⟩
      · exact I.sing z y h1a q
      · exact absurd ((hu1 z).mp q2) h1b
      · have := I.sing z x h1a q2.symm
        rw [this, h1a] at x1; cases x1
end
def pMe (n : Nat) (es : List Ed) (st : Pst) : Nat := 2 * es.length * suN n (fun x => if st.1 x = true then 0 else 1) + st.2.2.length
theorem pStep_ok {n s0 : Nat} {es l : List Ed} {Dn : Nat → Prop} (hes : ∀ e ∈ es, e.1 < n ∧ e.2.1 < n) (hl : LeW l) (hm : ∀ e, e ∈ l ↔ e ∈ es) {st : Pst} {lab : Lb} (I : PI n es l Dn s0 st.1 lab st.2.1 st.2.2) (h0 : 0 < st.2.2.length) :
    (∃ lab', PI n es l Dn s0 (pStep es st).1 lab' (pStep es st).2.1 (pStep es st).2.2) ∧ pMe n es (pStep es st) + 1 ≤ pMe n es st ∧ (∀ x, st.1 x = true → (pStep es st).1 x = true) := by
  obtain ⟨r1, r2⟩ := hRest_spec h0
  unfold pStep
  by_cases q : st.1 (gP st.2.2 0).2 = true
  · rw [if_pos q]
    exact ⟨⟨lab, I.old h0 q⟩, by simp only [pMe]; omega, fun _ h => h⟩
  · rw [if_neg q]
    have q := Bool.eq_false_iff.mpr q
    refine ⟨I.new hes hl hm h0 q, ?_, fun x h => updF_true.mpr (.inl h)⟩
    have hu := I.hn _ ((r2 _).mpr (.inl rfl))
    have b3 := (nbP_spec (updF st.1 (gP st.2.2 0).2 true) (nrL (both es) (gP st.2.2 0).2) (hRest st.2.2) I.ho.rest).2.2
    have nl := near_len (es := es) (u := (gP st.2.2 0).2)
    have := suN_at (a := (gP st.2.2 0).2) (f := fun x => if st.1 x = true then 0 else 1) (g := fun x => if updF st.1 (gP st.2.2 0).2 true x = true then 0 else 1) hu (fun i hi => by
      show (if updF st.1 (gP st.2.2 0).2 true i = true then 0 else 1) = _
      unfold updF; rw [if_neg hi])
    simp only [q, updF] at this
    simp only [pMe]
    simp at this
    have e : suN n (fun x => if updF st.1 (gP st.2.2 0).2 true x = true then 0 else 1) + 1 = suN n (fun x => if st.1 x = true then 0 else 1) := by
      unfold updF; simpa using this
    rw [← e, Nat.mul_add]
    omega
/-- between two starts -/
structure PO (es l : List Ed) (se : Nat → Bool) (lab : Lb) (t : Int) : Prop where
  cl : ∀ e ∈ es, (se e.1 = true ↔ se e.2.1 = true) ∧ (se e.1 = true → lab e.1 = lab e.2.1)
  sing : ∀ x y, se x = false → lab y = lab x → y = x
  tot : t + KR l lab = KR l id
theorem PO.init (es l : List Ed) : PO es l (fun _ => false) id 0 := ⟨fun e _ => ⟨Iff.rfl, nofun⟩, fun x y _ h => h, by omega⟩
theorem PO.go {n s0 : Nat} {es l : List Ed} {se : Nat → Bool} {lab : Lb} {t : Int} (O : PO es l se lab t) (hs : se s0 = false) (hn : s0 < n) : PI n es l (fun x => se x = true) s0 se lab t [(0, s0)] where
  ho := HO.one _
  hn := fun y hy => by rw [List.mem_singleton.mp hy]; exact hn
  sub := fun _ h => h
  dcl := O.cl
  cls := fun x y h1 h2 => absurd h1 h2
  sing := O.sing
  tot := O.tot
  frm := fun y hy => .inr (.inl ⟨List.mem_singleton.mp hy, fun _ h => h⟩)
  crs1 := fun e _ h1 h2 => absurd h1 h2
  crs2 := fun e _ h1 h2 => absurd h1 h2
  st0 := .inr (List.mem_singleton.mpr rfl)
theorem PI.fin {n s0 : Nat} {es l : List Ed} {Dn : Nat → Prop} {se : Nat → Bool} {lab : Lb} {t : Int} (I : PI n es l Dn s0 se lab t []) : PO es l se lab t ∧ se s0 = true := by
  refine ⟨⟨fun e he => ?_, I.sing, I.tot⟩, I.st0.resolve_right nofun⟩
  obtain ⟨d1, d2⟩ := I.dcl e he
  have f1 : ∀ {x}, se x ≠ false → se x = true := fun {x} h => by cases q : se x with | false => exact absurd q h | true => rfl
  have up : se e.1 = true → se e.2.1 = true := fun h => by
    by_cases q : Dn e.1
    · exact I.sub _ (d1.mp q)
    · exact f1 fun r => nomatch I.crs1 e he h q r
  have dn : se e.2.1 = true → se e.1 = true := fun h => by
    by_cases q : Dn e.2.1
    · exact I.sub _ (d1.mpr q)
    · exact f1 fun r => nomatch I.crs2 e he h q r
  refine ⟨⟨up, dn⟩, fun h => ?_⟩
  by_cases q : Dn e.1
  · exact d2 q
  · exact (((I.cls e.1 e.2.1 h q).mpr ⟨up h, fun r => q (d1.mpr r)⟩)).symm
theorem PO.fin {n : Nat} {es l : List Ed} {se : Nat → Bool} {lab : Lb} {t : Int} (O : PO es l se lab t) (hes : ∀ e ∈ es, e.1 < n ∧ e.2.1 < n) (hm : ∀ e, e ∈ l ↔ e ∈ es) (h : ∀ x, x < n → se x = true) : t = KR l id := by
  have := KR_zero l (lab := lab) fun e he => (O.cl e ((hm e).mp he)).2 (h _ (hes e ((hm e).mp he)).1)
  have := O.tot
  omega
end Mine

namespace Mine

/-! the sets -/
def itP (p : Nat → Nat) : Nat → Nat → Nat
  | 0, x => x
  | k + 1, x => itP p k (p x)
theorem itP_succ (p : Nat → Nat) : ∀ (k x : Nat), itP p (k + 1) x = p (itP p k x)
  | 0, x => rfl
  | k + 1, x => by rw [itP, itP_succ p k (p x), itP]
theorem itP_add (p : Nat → Nat) (x : Nat) : ∀ (a b : Nat), itP p (a + b) x = itP p b (itP p a x)
  | 0, b => by rw [Nat.zero_add]; rfl
  | a + 1, b => by rw [show a + 1 + b = (a + b) + 1 by omega, itP, itP_add p (p x) a b, itP]
theorem itP_root {p : Nat → Nat} {y : Nat} (h : p y = y) : ∀ k, itP p k y = y
  | 0 => rfl
  | k + 1 => by rw [itP, h]; exact itP_root h k
structure UF (n : Nat) (p : Nat → Nat) : Prop where
  lt : ∀ x, x < n → p x < n
  ac : ∃ r : Nat → Nat, ∀ x, x < n → p x ≠ x → r (p x) < r x
section
variable {n : Nat} {p : Nat → Nat}
theorem UF.it_lt (U : UF n p) {x : Nat} (hx : x < n) : ∀ k, itP p k x < n
  | 0 => hx
  | k + 1 => by rw [itP_succ]; exact U.lt _ (U.it_lt hx k)
theorem UF.root (U : UF n p) {x : Nat} (hx : x < n) : p (itP p n x) = itP p n x := by
  refine Classical.byContradiction fun h => ?_
  obtain ⟨r, hr⟩ := U.ac
  have nr : ∀ i, i ≤ n → p (itP p i x) ≠ itP p i x := fun i hi q => by
    have : itP p n x = itP p i x := by
      rw [show n = i + (n - i) by omega, itP_add, itP_root q]
    rw [this] at h; exact h q
  have dec : ∀ i, i ≤ n → r (itP p (i + 1) x) < r (itP p i x) := fun i hi => by
    rw [itP_succ]; exact hr _ (U.it_lt hx i) (nr i hi)
  have mono : ∀ d i, i + d + 1 ≤ n + 1 → r (itP p (i + d + 1) x) < r (itP p i x) := by
    intro d
    induction d with
    | zero => intro i h; exact dec i (by omega)
    | succ d ih =>
      intro i h
      have a := ih i (by omega)
      have b := dec (i + d + 1) (by omega)
      rw [show i + (d + 1) + 1 = i + d + 1 + 1 by omega]
      omega
  have := pigeon n (n + 1) (fun i => itP p i x) (fun i _ => U.it_lt hx i) (fun i j hij hj q => by
    have := mono (j - i - 1) i (by omega)
    rw [show i + (j - i - 1) + 1 = j by omega] at this
    have q : itP p i x = itP p j x := q
    rw [q] at this; omega)
  omega
theorem UF.uniq (U : UF n p) {x y k : Nat} (hx : x < n) (hy : p y = y) (h : itP p k x = y) : itP p n x = y := by
  have hR := U.root hx
  have e1 : itP p (k + n) x = y := by rw [itP_add, h, itP_root hy]
  have e2 : itP p (k + n) x = itP p n x := by rw [Nat.add_comm, itP_add, itP_root hR]
  rw [← e2, e1]
theorem UF.step (U : UF n p) {x : Nat} (hx : x < n) : itP p n (p x) = itP p n x := by
  have : itP p (n + 1) x = itP p n (p x) := rfl
  rw [← this, itP_succ, U.root hx]
theorem UF.union (U : UF n p) {top low : Nat} (ht : top < n) (hl : low < n) (rt : p top = top) (rl : p low = low) (hne : top ≠ low) :
    UF n (updF p low top) ∧ ∀ x, x < n → itP (updF p low top) n x = if itP p n x = low then top else itP p n x := by
  have at1 : updF p low top low = top := by unfold updF; rw [if_pos rfl]
  have at2 : ∀ {y}, y ≠ low → updF p low top y = p y := fun {y} h => by unfold updF; rw [if_neg h]
  have U' : UF n (updF p low top) := by
    refine ⟨fun x hx => ?_, ?_⟩
    · by_cases q : x = low
      · rw [q, at1]; exact ht
      · rw [at2 q]; exact U.lt x hx
    · obtain ⟨r, hr⟩ := U.ac
      refine ⟨fun y => if itP p n y = low then r y + r top + 1 else r y, fun x hx h => ?_⟩
      by_cases q : x = low
      · subst q
        rw [at1]
        show (if itP p n top = x then r top + r top + 1 else r top) < (if itP p n x = x then r x + r top + 1 else r x)
        rw [if_pos (itP_root rl n), if_neg (by rw [itP_root rt]; exact hne)]
        omega
      · rw [at2 q] at h ⊢
        have := hr x hx h
        show (if itP p n (p x) = low then r (p x) + r top + 1 else r (p x)) < (if itP p n x = low then r x + r top + 1 else r x)
        rw [U.step hx]
        split <;> omega
  refine ⟨U', fun x hx => ?_⟩
  have agree : ∀ k, (∀ i, i < k → itP p i x ≠ low) → itP (updF p low top) k x = itP p k x := by
    intro k
    induction k with
    | zero => intro _; rfl
    | succ k ih =>
      intro h
      rw [itP_succ, itP_succ, ih fun i hi => h i (by omega), at2 (h k (by omega))]
  by_cases q : itP p n x = low
  · rw [if_pos q]
    obtain ⟨k, hk, hkm⟩ := least_nat (p := fun k => itP p k x = low) ⟨n, q⟩
    refine U'.uniq (k := k + 1) hx (by rw [at2 hne, rt]) ?_
    rw [itP_succ, agree k hkm, hk, at1]
  · rw [if_neg q]
    have never : ∀ i, itP p i x ≠ low := fun i h => q (U.uniq hx rl h)
    rw [agree n fun i _ => never i]
end
/-- the roots tell the labels -/
def UL (n : Nat) (p : Nat → Nat) (lab : Lb) : Prop := ∀ x y, x < n → y < n → (itP p n x = itP p n y ↔ lab x = lab y)
theorem UL.union {n : Nat} {p : Nat → Nat} {lab : Lb} (U : UF n p) (L : UL n p lab) {a b top low : Nat} (ha : a < n) (hb : b < n) (hab : itP p n a ≠ itP p n b)
    (h : (top = itP p n a ∧ low = itP p n b) ∨ (top = itP p n b ∧ low = itP p n a)) : UF n (updF p low top) ∧ UL n (updF p low top) (mrg lab a b) := by
  have ra := U.root ha
  have rb := U.root hb
  have la := U.it_lt ha n
  have lb := U.it_lt hb n
  have key : UF n (updF p low top) ∧ ∀ x, x < n → itP (updF p low top) n x = if itP p n x = low then top else itP p n x := by
    rcases h with ⟨rfl, rfl⟩ | ⟨rfl, rfl⟩
    · exact U.union la lb ra rb hab
    · exact U.union lb la rb ra fun q => hab q.symm
  refine ⟨key.1, fun x y hx hy => ?_⟩
  rw [key.2 x hx, key.2 y hy, mrg_iff, ← L x y hx hy, ← L x a hx ha, ← L y b hy hb, ← L x b hx hb, ← L y a hy ha]
  have k := mrg_iff (lab := id) (a := top) (b := low) (x := itP p n x) (y := itP p n y)
  rcases h with ⟨rfl, rfl⟩ | ⟨rfl, rfl⟩
  · exact k
  · exact k.trans ⟨fun r => r.elim .inl fun r => r.elim (fun r => .inr (.inr r)) fun r => .inr (.inl r), fun r => r.elim .inl fun r => r.elim (fun r => .inr (.inr r)) fun r => .inr (.inl r)⟩
theorem UF.init (n : Nat) : UF n id := ⟨fun x h => h, ⟨fun _ => 0, fun x _ h => absurd rfl h⟩⟩
theorem UL.init (n : Nat) : UL n id id := fun x y _ _ => by rw [itP_root rfl, itP_root rfl]; rfl
/-! the chosen edges -/
def KC : List Ed → Lb → List Ed
  | [], _ => []
  | e :: l, lab => if lab e.1 = lab e.2.1 then KC l lab else e :: KC l (mrg lab e.1 e.2.1)
theorem KC_sum : ∀ (l : List Ed) (lab : Lb), ((KC l lab).map (·.2.2)).sum = KR l lab
  | [], _ => rfl
  | e :: l, lab => by
    unfold KC KR
    split
    · exact KC_sum l lab
    · rw [List.map_cons, List.sum_cons, KC_sum]
/-! by weight -/
abbrev gE (es : List Ed) (i : Nat) : Ed := es.getD i (0, 0, 0)
theorem gE_get {es : List Ed} {i : Nat} (h : i < es.length) : es[i]? = some (gE es i) := by
  rw [gE, List.getD_eq_getElem?_getD, List.getElem?_eq_getElem h]; rfl
def idxP (es : List Ed) : List PN := (List.range es.length).map fun i => ((gE es i).2.2, i)
def bwt (es : List Ed) : List Ed := (hSort (idxP es)).map fun q => gE es q.2
theorem idxP_mem {es : List Ed} {q : PN} : q ∈ idxP es ↔ (q.2 < es.length ∧ q.1 = (gE es q.2).2.2) := by
  unfold idxP
  rw [List.mem_map]
  constructor
  · rintro ⟨i, hi, rfl⟩; exact ⟨List.mem_range.mp hi, rfl⟩
  · rintro ⟨h1, h2⟩; exact ⟨q.2, List.mem_range.mpr h1, by rw [← h2]⟩
theorem bwt_le (es : List Ed) : LeW (bwt es) := by
  obtain ⟨h1, h2, _⟩ := hSort_spec (idxP es)
  unfold LeW bwt
  rw [List.pairwise_map]
  refine h1.imp_of_mem fun {a b} ha hb h => ?_
  rw [← (idxP_mem.mp ((h2 a).mp ha)).2, ← (idxP_mem.mp ((h2 b).mp hb)).2]
  exact h.fst
theorem bwt_mem (es : List Ed) (e : Ed) : e ∈ bwt es ↔ e ∈ es := by
  obtain ⟨_, h2, _⟩ := hSort_spec (idxP es)
  unfold bwt
  rw [List.mem_map]
  constructor
  · rintro ⟨q, hq, rfl⟩
    have := (idxP_mem.mp ((h2 q).mp hq)).1
    exact List.mem_of_getElem? (gE_get this)
  · intro he
    obtain ⟨i, hi⟩ := List.mem_iff_getElem?.mp he
    have hl : i < es.length := (List.getElem?_eq_some_iff.mp hi).1
    rw [gE_get hl] at hi
    exact ⟨((gE es i).2.2, i), (h2 _).mpr (idxP_mem.mpr ⟨hl, rfl⟩), Option.some.inj hi⟩
theorem bwt_len (es : List Ed) : (bwt es).length = es.length := by
  obtain ⟨_, _, h3⟩ := hSort_spec (idxP es)
  rw [bwt, List.length_map, h3, idxP, List.length_map, List.length_range]
end Mine

set_option maxRecDepth 100000
namespace Mine
open PySem PySem.Spec PySem.Calls PyProof.Rows

local macro_rules | `(tactic| walk_at "m:at") => `(tactic| (with_reducible repeat' (first | exact At.here | apply At.there)))
local macro_rules | `(tactic| walk_at "m:enter") => `(tactic| (intro f hsc hxs hlv FS; obtain ⟨⟨scope, locals, globals, cells, qual, func, code, frame, builtins⟩, A, h₀, xs, lv⟩ := f; (simp only at hsc hxs hlv); subst hsc hxs hlv))
local macro_rules | `(tactic| walk_at "m:up") => `(tactic| (with_reducible repeat' (first | exact Upd.here | apply Upd.there | exact Nm.here | apply Nm.there)))
local macro_rules | `(tactic| walk_at "m:sub") => `(tactic| (repeat' (first | exact Sub.refl | apply Sub.cons_same | apply Sub.cons_none | refine Sub.cons_k ?_ (.inl rfl))))
section
variable {c : Cx} {f : Fm} {ρ : Rho} {rest : List Stmt} {Q : Fl → Rho → Prop} {pos tp xp yp : Pos} {x y : Str} {d1 d2 : PyData} {sk1 : K} {i j n : Nat}
/-- return (x, y), a flat one and an owned one -/
theorem s_retFO (h1 : At f.xs ρ x ⟨sk1, d1⟩ i) (hf : flat d1 = true) (h2 : At f.xs ρ y ⟨.ow, d2⟩ j) (hQ : Q (.ret (.tuple [d1, d2]) true) ρ)
    (hd : (x == ("__debug__" : Str)) = false := by decide +kernel) (hn : (x == ("__classdict__" : Str)) = false := by decide +kernel) (hd2 : (y == ("__debug__" : Str)) = false := by decide +kernel) (hn2 : (y == ("__classdict__" : Str)) = false := by decide +kernel) :
    Ex c f (.Return (some (.Tuple [.Name x xp, .Name y yp] n tp)) pos :: rest) ρ Q :=
  s_ret (ev_tuple (evl_us (Ev.ofFlatU (ev_name_w h1 hd hn) hf) (evl_us (ev_name_us h2 hd2 hn2) evl_nilU)) (Nat.le_of_ble_eq_true rfl)) hQ (.inr (.inr (.inr ⟨[j], rfl, by simp, fun k hk => ⟨⟨.ow, d2⟩, by rw [List.mem_singleton.mp hk]; exact h2.slot, rfl⟩⟩)))
/-- return (x, y), both owned -/
theorem s_retOO (h1 : At f.xs ρ x ⟨.ow, d1⟩ i) (h2 : At f.xs ρ y ⟨.ow, d2⟩ j) (hij : [i, j].Nodup) (hQ : Q (.ret (.tuple [d1, d2]) true) ρ)
    (hd : (x == ("__debug__" : Str)) = false := by decide +kernel) (hn : (x == ("__classdict__" : Str)) = false := by decide +kernel) (hd2 : (y == ("__debug__" : Str)) = false := by decide +kernel) (hn2 : (y == ("__classdict__" : Str)) = false := by decide +kernel) :
    Ex c f (.Return (some (.Tuple [.Name x xp, .Name y yp] n tp)) pos :: rest) ρ Q :=
  s_ret (ev_tuple (evl_us (ev_name_us h1 hd hn) (evl_us (ev_name_us h2 hd2 hn2) evl_nilU)) (Nat.le_of_ble_eq_true rfl)) hQ (.inr (.inr (.inr ⟨[i, j], rfl, hij, fun k hk => by
    rcases List.mem_cons.mp hk with rfl | hk
    · exact ⟨⟨.ow, d1⟩, h1.slot, rfl⟩
    · exact ⟨⟨.ow, d2⟩, by rw [List.mem_singleton.mp hk]; exact h2.slot, rfl⟩⟩)))
end
def cell46 : FnD := fnAt PySem.Challenge.pw_k21_0046 15
theorem cell46_fn {c : Cx} (C : CxOk c) (Blen : Bi c "len" (.builtin "len")) {ns : List Int} (hn : ns.length ≤ 63) {i : Int} (hi : 0 ≤ i) :
    Fn c 1 cell46 [.list (ns.map .int), .int i] (.int (cellD ns i (7 * i + 4))) true := by
  refine fn_go ["script", "i"] [] ["script", "i"] C ?_ rfl (by decide +kernel) (by decide +kernel) rfl rfl rfl [some ⟨.sh, .list (ns.map .int)⟩, some ⟨.sh, .int i⟩] ?_
  · intro pm cd doc vals hv
    match vals, hv with | [a, b], _ => rfl
  walk_at "m:enter"
  refine s_when (tst_cmp (ev_name_w (by walk_at "m:at")) (ev_vcall1 (.inl ⟨_, rfl⟩) C Blen rfl (ev_name_w (by walk_at "m:at")) (vc_len (by simp; omega))) cmp_lt) (fun h => ?_) (fun h => ?_)
  · have hlt : i < (ns.length : Int) := by simpa using h
    refine s_ret (u := true) (ev_item (d := .int (ns.getD i.toNat 0)) (ev_name_w (by walk_at "m:at")) (ev_name_w (by walk_at "m:at")) hi (by omega) (il_get (by omega))) ⟨?_, fun _ => rfl⟩ (.inr (.inr (.inl rfl)))
    rw [cellD, if_pos hlt]
  · have hlt : ¬ i < (ns.length : Int) := by simpa using h
    refine s_ret (u := true) (ev_add (ev_mul ev_int (ev_name_w (by walk_at "m:at")) (mulOkL (by omega) (by omega))) ev_int) ⟨?_, fun _ => rfl⟩ (.inr (.inr (.inl rfl)))
    rw [cellD, if_neg hlt]

/-! the heap -/
abbrev encP (p : PN) : PyData := .tuple [.int p.1, .int p.2]
theorem hp_at {xs : List PN} {i : Nat} (h : i < xs.length) : (xs.map encP)[i]? = some (encP (gP xs i)) := by rw [List.getElem?_map, gP_get h]; rfl
theorem swp_map (ys : List PN) (i j : Nat) : ((ys.map encP).set i (encP (gP ys j))).set j (encP (gP ys i)) = (swp ys i j).map encP := by simp [swp, List.map_set]
def bef46 : FnD := fnAt PySem.Challenge.pw_k21_0046 1
theorem bef46_fn {c : Cx} (C : CxOk c) {a b : PN} : Fn c 1 bef46 [encP a, encP b] (.bool (bef a b)) true := by
  refine fn_go ["a", "b"] [] ["a", "b"] C ?_ rfl (by decide +kernel) (by decide +kernel) rfl rfl rfl [some ⟨.sh, encP a⟩, some ⟨.sh, encP b⟩] ?_
  · intro pm cd doc vals hv
    match vals, hv with | [a, b], _ => rfl
  walk_at "m:enter"
  exact s_ret (u := true) (ev_or (ev_cmp (ev_t0 (ev_name_w (by walk_at "m:at")) ev_int rfl) (ev_t0 (ev_name_w (by walk_at "m:at")) ev_int rfl) cmp_lt) fun _ => ev_and (ev_cmp (ev_t0 (ev_name_w (by walk_at "m:at")) ev_int rfl) (ev_t0 (ev_name_w (by walk_at "m:at")) ev_int rfl) cmp_eq) fun _ => ev_cmp (ev_t1 (ev_name_w (by walk_at "m:at")) ev_int rfl) (ev_t1 (ev_name_w (by walk_at "m:at")) ev_int rfl) cmp_lt) ⟨rfl, fun _ => rfl⟩ (.inl rfl)

def pus46 : FnD := fnAt PySem.Challenge.pw_k21_0046 2
abbrev Rpu (xs : List PN) (p : PN) (ys : List PN) (i : Nat) (o : Option Slot) : Rho := [some ⟨.sh, .list (xs.map encP)⟩, some ⟨.sh, encP p⟩, some ⟨.ow, .list (ys.map encP)⟩, some ⟨.lo, .int i⟩, o]
theorem pus46_fn {c : Cx} (C : CxOk c) (Blen : Bi c "len" (.builtin "len")) (Blist : Bi c "list" (.type "list")) (stBef : Stands c bef46) {xs : List PN} {p : PN} (hl : xs.length ≤ 100000) :
    Fn c 2 pus46 [.list (xs.map encP), encP p] (.list ((hPush xs p).map encP)) true := by
  refine fn_go ["heap", "pair"] ["new", "i", "parent"] ["heap", "pair", "new", "i", "parent"] C ?_ rfl (by decide +kernel) (by decide +kernel) rfl rfl rfl [some ⟨.sh, .list (xs.map encP)⟩, some ⟨.sh, encP p⟩, none, none, none] ?_
  · intro pm cd doc vals hv
    match vals, hv with | [a, b], _ => rfl
  walk_at "m:enter"
  rename_i FS
  refine s_asg (sk := .ow) FS (ev_vcall1 (.inr ⟨_, rfl⟩) C Blist rfl (ev_name_w (by walk_at "m:at")) (vc_list (flats_map (fun _ => rfl) _) (by simp [sizeLine]; omega))) .fr (by walk_at "m:up") ?_
  refine s_append FS (by walk_at "m:at") (ev_name_w (by walk_at "m:at")) (.inr rfl) (by simp [sizeLine]; omega) (by walk_at "m:up") ?_
  have e0 : xs.map encP ++ [encP p] = (xs ++ [p]).map encP := by simp
  rw [e0]
  refine s_asg (sk := .lo) FS (Ev.cast (d' := .int (xs.length : Int)) (ev_sub (ev_vcall1 (.inl ⟨_, rfl⟩) C Blen rfl (ev_name_w (by walk_at "m:at")) (vc_len (by simp; omega))) ev_int) (by simp)) (.flat rfl) (by walk_at "m:up") ?_
  refine s_while (n := xs.length) (fun m ρ => ∃ ys i fu o, m = i ∧ i ≤ fu ∧ i < ys.length ∧ ys.length ≤ 100001 ∧ hUp fu i ys = hPush xs p ∧ ρ = Rpu xs p ys i o) ⟨xs ++ [p], xs.length, xs.length, none, rfl, Nat.le_refl _, by simp, by simp; omega, rfl, rfl⟩ ?_
  rintro m ρ' ⟨ys, i, fu, o, hm, hfu, hi, hyl, hrun, rfl⟩
  have hsz : (ys.map encP).length ≤ sizeLine := by simp [sizeLine]; omega
  have hpar : 0 < i → ((i : Int) - 1) / 2 = (((i - 1) / 2 : Nat) : Int) := fun h => by omega
  have hpl : (i - 1) / 2 < ys.length := by omega
  refine ⟨decide (0 < (i : Int)) && bef (gP ys i) (gP ys ((i - 1) / 2)), tst_and (tst_cmp (ev_name_w (by walk_at "m:at")) ev_int cmp_gt) (fun h => tst_bool (ev_call C stBef rfl (evl_w (ev_at (i := i) (ev_name_w (by walk_at "m:at")) (ev_name_w (by walk_at "m:at")) (hp_at hi) hsz) (evl_w (ev_at (i := (i - 1) / 2) (ev_name_w (by walk_at "m:at")) (Ev.cast (ev_fdiv (ev_sub (ev_name_w (by walk_at "m:at")) ev_int) ev_int (by decide) (by decide)) (by rw [hpar (by simpa using h)])) (hp_at hpl) hsz) evl_nilU)) (bef46_fn C) (Nat.le_of_ble_eq_true rfl))), fun h => ?_, fun h => ?_⟩
  · obtain ⟨h1, h2⟩ := Bool.and_eq_true_iff.mp h
    have hi0 : 0 < i := by simpa using h1
    obtain ⟨fu', rfl⟩ : ∃ k, fu = k + 1 := ⟨fu - 1, by omega⟩
    rw [hUp, if_pos ⟨hi0, h2⟩] at hrun
    refine s_asg (sk := .lo) FS (Ev.cast (d' := .int (((i - 1) / 2 : Nat) : Int)) (ev_fdiv (ev_sub (ev_name_w (by walk_at "m:at")) ev_int) ev_int (by decide) (by decide)) (by rw [hpar hi0])) (.flat rfl) (by walk_at "m:up") ?_
    refine s_swap (d1 := encP (gP ys ((i - 1) / 2))) (d2 := encP (gP ys i)) FS (by walk_at "m:at")
      (ev_tuple (evl_w (ev_at (i := (i - 1) / 2) (ev_name_w (by walk_at "m:at")) (ev_name_w (by walk_at "m:at")) (hp_at hpl) hsz) (evl_w (ev_at (i := i) (ev_name_w (by walk_at "m:at")) (ev_name_w (by walk_at "m:at")) (hp_at hi) hsz) evl_nilU)) (Nat.le_of_ble_eq_true rfl)) rfl rfl
      (ev_name_w (by walk_at "m:at")) (by omega) (by omega) (hp_at (by omega)) rfl (by walk_at "m:up") (by walk_at "m:at")
      (ev_name_w (by walk_at "m:at")) (by omega) (by omega) (List.getElem?_eq_getElem (by simp; omega)) ?_ (by walk_at "m:up") ?_
    · rw [List.getElem_set]; split
      · rfl
      · simp [flat, flats]
    rw [Int.toNat_natCast, Int.toNat_natCast, swp_map]
    refine s_asg (sk := .lo) FS (ev_name_w (by walk_at "m:at")) (.flat rfl) (by walk_at "m:up") (s_end ?_)
    exact ⟨(i - 1) / 2, by omega, swp ys i ((i - 1) / 2), (i - 1) / 2, fu', _, rfl, by omega, by rw [swp_len]; omega, by rw [swp_len]; exact hyl, hrun, rfl⟩
  · have hend : hPush xs p = ys := by
      rw [← hrun]
      cases fu with
      | zero => rfl
      | succ fu =>
        rw [hUp, if_neg]
        rintro ⟨q1, q2⟩
        have q1 : (0 : Int) < i := by omega
        rw [q2, decide_eq_true q1] at h; cases h
    rw [hend]
    exact s_retO (by walk_at "m:at") ⟨rfl, fun _ => rfl⟩

def pop46 : FnD := fnAt PySem.Challenge.pw_k21_0046 3
abbrev Rpo (xs ys : List PN) (i : Nat) (o : Option Slot) : Rho := [some ⟨.sh, .list (xs.map encP)⟩, some ⟨.lo, encP (gP xs 0)⟩, some ⟨.lo, encP (gP xs (xs.length - 1))⟩, some ⟨.ow, .list (ys.map encP)⟩, some ⟨.lo, .int i⟩, o]
theorem pop46_fn {c : Cx} (C : CxOk c) (Blen : Bi c "len" (.builtin "len")) (stBef : Stands c bef46) {xs : List PN} (h0 : 0 < xs.length) (hl : xs.length ≤ 100000) :
    Fn c 2 pop46 [.list (xs.map encP)] (.tuple [encP (gP xs 0), .list ((hRest xs).map encP)]) true := by
  refine fn_go ["heap"] ["top", "last", "rest", "i", "child"] ["heap", "top", "last", "rest", "i", "child"] C ?_ rfl (by decide +kernel) (by decide +kernel) rfl rfl rfl [some ⟨.sh, .list (xs.map encP)⟩, none, none, none, none, none] ?_
  · intro pm cd doc vals hv
    match vals, hv with | [a], _ => rfl
  walk_at "m:enter"
  rename_i FS
  have hszx : (xs.map encP).length ≤ sizeLine := by simp [sizeLine]; omega
  refine s_when (tst_cmp (ev_vcall1 (.inl ⟨_, rfl⟩) C Blen rfl (ev_name_w (by walk_at "m:at")) (vc_len (by simp; omega))) ev_int cmp_eq) (fun h => ?_) (fun _ => ?_)
  · have := eq_of_beq h; rw [List.length_map] at this; omega
  refine s_asg (sk := .lo) FS (ev_item (d := encP (gP xs 0)) (ev_name_w (by walk_at "m:at")) ev_int (by decide) (by decide) (hp_at h0)) (.flat rfl) (by walk_at "m:up") ?_
  refine s_asg (sk := .lo) FS (ev_at (i := xs.length - 1) (d := encP (gP xs (xs.length - 1))) (ev_name_w (by walk_at "m:at")) (Ev.cast (ev_sub (ev_vcall1 (.inl ⟨_, rfl⟩) C Blen rfl (ev_name_w (by walk_at "m:at")) (vc_len (by simp; omega))) ev_int) (by rw [List.length_map]; congr 1; omega)) (hp_at (by omega)) hszx) (.flat rfl) (by walk_at "m:up") ?_
  refine s_asg (sk := .ow) FS (ev_slice (ys := (xs.take (xs.length - 1)).map encP) (ev_name_w (by walk_at "m:at")) .none (.some (Ev.cast (d' := .int ((xs.length - 1 : Nat) : Int)) (ev_sub (ev_vcall1 (.inl ⟨_, rfl⟩) C Blen rfl (ev_name_w (by walk_at "m:at")) (vc_len (by simp; omega))) ev_int) (by rw [List.length_map]; congr 1; omega))) (flats_map (fun _ => rfl) _) hszx (by rw [pick_upto, List.map_take])) .fr (by walk_at "m:up") ?_
  refine s_when (tst_cmp (ev_vcall1 (.inl ⟨_, rfl⟩) C Blen rfl (ev_name_w (by walk_at "m:at")) (vc_len (by simp; omega))) ev_int cmp_eq) (fun h => ?_) (fun h => ?_)
  · have h1 : xs.length ≤ 1 := by simp at h; omega
    have e : hRest xs = xs.take (xs.length - 1) := by
      rw [hRest, if_pos h1, show xs.length - 1 = 0 by omega]; rfl
    rw [e]
    exact s_retFO (by walk_at "m:at") rfl (by walk_at "m:at") ⟨rfl, fun _ => rfl⟩
  have h2 : 2 ≤ xs.length := by simp at h; omega
  refine s_set (j := 0) (d0 := encP (gP xs 0)) FS (by walk_at "m:at") (ev_name_w (by walk_at "m:at")) ev_int rfl (by decide) (by decide) (by
    rw [List.getElem?_map, List.getElem?_take, if_pos (by show 0 < _; omega)]
    show (xs[0]?).map encP = _
    rw [gP_get h0]; rfl) rfl (by walk_at "m:up") ?_
  have e1 : ((xs.take (xs.length - 1)).map encP).set (0 : Int).toNat (encP (gP xs (xs.length - 1))) = ((xs.take (xs.length - 1)).set 0 (gP xs (xs.length - 1))).map encP := by rw [List.map_set]; rfl
  rw [e1]
  refine s_asg (sk := .lo) FS ev_int (.flat rfl) (by walk_at "m:up") ?_
  have hRe : hRest xs = hDn xs.length 0 ((xs.take (xs.length - 1)).set 0 (gP xs (xs.length - 1))) := by rw [hRest, if_neg (by omega)]
  refine s_while (n := xs.length) (fun m ρ => ∃ ys i fu o, m = fu ∧ ys.length ≤ fu + i ∧ ys.length ≤ 100000 ∧ hDn fu i ys = hRest xs ∧ ρ = Rpo xs ys i o) ⟨_, 0, xs.length, none, rfl, by simp only [List.length_set, List.length_take]; omega, by simp only [List.length_set, List.length_take]; omega, hRe.symm, rfl⟩ ?_
  rintro m ρ' ⟨ys, i, fu, o, hm, hfu, hyl, hrun, rfl⟩
  have hsz : (ys.map encP).length ≤ sizeLine := by simp [sizeLine]; omega
  refine ⟨_, tst_cmp (ev_add (ev_mul ev_int (ev_name_w (by walk_at "m:at")) (mulOkL (by omega) (by omega))) ev_int) (ev_vcall1 (.inl ⟨_, rfl⟩) C Blen rfl (ev_name_w (by walk_at "m:at")) (vc_len (by simp; omega))) cmp_lt, fun h => ?_, fun h => ?_⟩
  · have hlt : 2 * i + 1 < ys.length := by simp at h; omega
    obtain ⟨fu', rfl⟩ : ∃ k, fu = k + 1 := ⟨fu - 1, by omega⟩
    obtain ⟨hc1, hc2⟩ := chd_lt hlt
    refine s_asg (sk := .lo) FS (Ev.cast (d' := .int ((2 * i + 1 : Nat) : Int)) (ev_add (ev_mul ev_int (ev_name_w (by walk_at "m:at")) (mulOkL (by omega) (by omega))) ev_int) (congrArg PyData.int (by omega))) (.flat rfl) (by walk_at "m:up") ?_
    refine s_whenc (q := decide (((2 * i + 1 : Nat) : Int) + 1 < ((ys.map encP).length : Int)) && bef (gP ys (2 * i + 2)) (gP ys (2 * i + 1))) (fun ρ => ρ = Rpo xs ys i (some ⟨.lo, .int (chd ys i : Nat)⟩))
      (tst_and (tst_cmp (ev_add (ev_name_w (by walk_at "m:at")) ev_int) (ev_vcall1 (.inl ⟨_, rfl⟩) C Blen rfl (ev_name_w (by walk_at "m:at")) (vc_len (by simp; omega))) cmp_lt) (fun hh => tst_bool (ev_call C stBef rfl (evl_w (ev_at (i := 2 * i + 2) (ev_name_w (by walk_at "m:at")) (Ev.cast (ev_add (ev_name_w (by walk_at "m:at")) ev_int) (congrArg PyData.int (by omega))) (hp_at (by have := of_decide_eq_true hh; rw [List.length_map] at this; omega)) hsz) (evl_w (ev_at (i := 2 * i + 1) (ev_name_w (by walk_at "m:at")) (ev_name_w (by walk_at "m:at")) (hp_at hlt) hsz) evl_nilU)) (bef46_fn C) (Nat.le_of_ble_eq_true rfl))))
      (fun hh => ?_) (fun hh => ?_) ?_
    · obtain ⟨k1, k2⟩ := Bool.and_eq_true_iff.mp hh
      have k1 : 2 * i + 2 < ys.length := by have := of_decide_eq_true k1; rw [List.length_map] at this; omega
      refine s_asg (sk := .lo) FS (Ev.cast (d' := .int ((2 * i + 2 : Nat) : Int)) (ev_add (ev_name_w (by walk_at "m:at")) ev_int) (congrArg PyData.int (by omega))) (.flat rfl) (by walk_at "m:up") (s_end ?_)
      show _ = _
      rw [chd, if_pos ⟨k1, k2⟩]
    · rw [chd, if_neg]
      rintro ⟨k1, k2⟩
      rw [k2, decide_eq_true (by rw [List.length_map]; omega)] at hh; cases hh
    rintro _ rfl
    refine s_when (tst_not (tst_bool (ev_call C stBef rfl (evl_w (ev_at (i := chd ys i) (ev_name_w (by walk_at "m:at")) (ev_name_w (by walk_at "m:at")) (hp_at hc1) hsz) (evl_w (ev_at (i := i) (ev_name_w (by walk_at "m:at")) (ev_name_w (by walk_at "m:at")) (hp_at (by omega)) hsz) evl_nilU)) (bef46_fn C) (Nat.le_of_ble_eq_true rfl)))) (fun hh => ?_) (fun hh => ?_)
    · have k2 : bef (gP ys (chd ys i)) (gP ys i) = false := by simpa using hh
      rw [hDn, if_neg (by rw [k2]; simp)] at hrun
      rw [← hrun]
      exact s_retFO (by walk_at "m:at") rfl (by walk_at "m:at") ⟨rfl, fun _ => rfl⟩
    have k2 : bef (gP ys (chd ys i)) (gP ys i) = true := by simpa using hh
    rw [hDn, if_pos ⟨hlt, k2⟩] at hrun
    refine s_swap (d1 := encP (gP ys (chd ys i))) (d2 := encP (gP ys i)) FS (by walk_at "m:at")
      (ev_tuple (evl_w (ev_at (i := chd ys i) (ev_name_w (by walk_at "m:at")) (ev_name_w (by walk_at "m:at")) (hp_at hc1) hsz) (evl_w (ev_at (i := i) (ev_name_w (by walk_at "m:at")) (ev_name_w (by walk_at "m:at")) (hp_at (by omega)) hsz) evl_nilU)) (Nat.le_of_ble_eq_true rfl)) rfl rfl
      (ev_name_w (by walk_at "m:at")) (by omega) (by omega) (hp_at (by omega)) rfl (by walk_at "m:up") (by walk_at "m:at")
      (ev_name_w (by walk_at "m:at")) (by omega) (by omega) (List.getElem?_eq_getElem (by simp; omega)) ?_ (by walk_at "m:up") ?_
    · rw [List.getElem_set]; split
      · rfl
      · simp [flat, flats]
    rw [Int.toNat_natCast, Int.toNat_natCast, swp_map]
    refine s_asg (sk := .lo) FS (ev_name_w (by walk_at "m:at")) (.flat rfl) (by walk_at "m:up") (s_end ?_)
    exact ⟨fu', by omega, swp ys i (chd ys i), chd ys i, fu', _, rfl, by rw [swp_len]; omega, by rw [swp_len]; exact hyl, hrun, rfl⟩
  · have hlt : ¬ 2 * i + 1 < ys.length := by simp at h; omega
    have hend : hRest xs = ys := by
      rw [← hrun]
      cases fu with
      | zero => rfl
      | succ fu => rw [hDn, if_neg]; rintro ⟨q, _⟩; exact hlt q
    rw [hend]
    exact s_retFO (by walk_at "m:at") rfl (by walk_at "m:at") ⟨rfl, fun _ => rfl⟩

/-! neighbours -/
abbrev encW (p : Nat × Int) : PyData := .tuple [.int p.1, .int p.2]
theorem nrL_snoc (es : List Ed) (e : Ed) (u : Nat) : nrL (es ++ [e]) u = if u = e.1 then nrL es u ++ [e.2] else nrL es u := by
  unfold nrL
  rw [List.filter_append, List.map_append, List.filter_cons]
  by_cases h : u = e.1
  · rw [if_pos h, if_pos (by simp [h])]; rfl
  · rw [if_neg h, if_neg (by simp; exact fun q => h q.symm)]; simp
def mkN (n : Nat) (es : List Ed) : List PyData := (List.range n).map fun u => .list ((nrL es u).map encW)
theorem mkN_at {n u : Nat} {es : List Ed} (h : u < n) : (mkN n es)[u]? = some (.list ((nrL es u).map encW)) := rangeMap_at h
theorem mkN_len {n : Nat} {es : List Ed} : (mkN n es).length = n := by simp [mkN]
theorem nrL_len (es : List Ed) (u : Nat) : (nrL es u).length ≤ es.length := by unfold nrL; rw [List.length_map]; exact List.length_filter_le ..
def nei46 : FnD := fnAt PySem.Challenge.pw_k21_0046 8
theorem nei46_fn {c : Cx} (C : CxOk c) (Brange : Bi c "range" (.type "range")) {n : Nat} (hn : n ≤ 5) {es : List Ed} (hl : es.length ≤ 20) (hes : ∀ e ∈ es, e.1 < n ∧ e.2.1 < n) :
    Fn c 1 nei46 [.int n, .list (es.map encE)] (.list (mkN n es)) true := by
  refine fn_go ["n", "edges"] ["out", "e"] ["n", "edges", "out", "e"] C ?_ rfl (by decide +kernel) (by decide +kernel) rfl rfl rfl [some ⟨.sh, .int n⟩, some ⟨.sh, .list (es.map encE)⟩, none, none] ?_
  · intro pm cd doc vals hv
    match vals, hv with | [a, b], _ => rfl
  walk_at "m:enter"
  rename_i FS
  refine s_comp (p := fun _ => true) (g := fun u => PyData.list []) .lo FS HasCells.nil [] [] [] []
    (it_r (it_range1 C Brange rfl (ev_name_w (by walk_at "m:at")) (by omega) (by omega))) (.flat encR_flat (by decide)) (by simp [sizeLine]; omega) (fun C1 H1 el hel => ifs_nil) (fun C1 H1 u hu _ => ev_list (k := .fr) evl_nil) (by walk_at "m:up") ?_
  refine s_forT (sk := .sh) FS (by walk_at "m:up") (it_list (ev_name_sh (by walk_at "m:at"))) .sh
      (fun j ρ => ∃ o, ρ = [some ⟨.sh, .int n⟩, some ⟨.sh, .list (es.map encE)⟩, some ⟨.ow, .list (mkN n (es.take j))⟩, o]) ⟨none, ?_⟩ ?_ ?_
  · rw [filter_tt]; rfl
  · rintro j e ρ' hj ⟨o, rfl⟩
    refine ⟨_, by walk_at "m:up", ?_⟩
    obtain ⟨h1, h2⟩ := hes e (List.mem_of_getElem? hj)
    refine s_append2 (j1 := (e.1 : Int)) (d := encW e.2) FS (by walk_at "m:at") (ev_t0 (ev_name_w (by walk_at "m:at")) ev_int rfl) (ev_tuple (evl_w (ev_t1 (ev_name_w (by walk_at "m:at")) ev_int rfl) (evl_w (ev_t2 (ev_name_w (by walk_at "m:at")) ev_int rfl) evl_nilU)) (Nat.le_of_ble_eq_true rfl)) rfl (by omega) (by omega) (mkN_at h1) (flats_map (fun _ => rfl) _) (by have := nrL_len (es.take j) e.1; rw [List.length_take] at this; simp [sizeLine]; omega) (by walk_at "m:up") (s_end ?_)
    have : mkN n (es.take (j + 1)) = (mkN n (es.take j)).set (e.1 : Int).toNat (.list ((nrL (es.take j) e.1).map encW ++ [encW e.2])) := by
      rw [Int.toNat_natCast, mkN, mkN, rangeMap_set]
      refine List.map_congr_left fun u _ => ?_
      rw [List.take_add_one, hj, Option.toList_some, nrL_snoc]
      by_cases q : u = e.1
      · rw [if_pos q, if_pos q, q, List.map_append]; rfl
      · rw [if_neg q, if_neg q]
    exact ⟨_, by rw [this]; rfl⟩
  · rintro ρ' ⟨o, rfl⟩
    exact s_retO (by walk_at "m:at") ⟨by rw [List.take_length], fun _ => rfl⟩

def hst46 : FnD := fnAt PySem.Challenge.pw_k21_0046 4
theorem hst46_fn {c : Cx} (C : CxOk c) (Blen : Bi c "len" (.builtin "len")) (Blist : Bi c "list" (.type "list")) (stBef : Stands c bef46) (stPus : Stands c pus46) (stPop : Stands c pop46) {ps : List PN} (hl : ps.length ≤ 100) :
    Fn c 3 hst46 [.list (ps.map encP)] (.list ((hSort ps).map encP)) true := by
  refine fn_go ["pairs"] ["heap", "p", "out", "top"] ["pairs", "heap", "p", "out", "top"] C ?_ rfl (by decide +kernel) (by decide +kernel) rfl rfl rfl [some ⟨.sh, .list (ps.map encP)⟩, none, none, none, none] ?_
  · intro pm cd doc vals hv
    match vals, hv with | [a], _ => rfl
  walk_at "m:enter"
  rename_i FS
  refine s_asg (sk := .lo) FS (Ev.cast (d' := .list (([] : List PN).map encP)) (ev_list (k := .fr) evl_nil) rfl) .frlo (by walk_at "m:up") ?_
  have plen : ∀ j, ((ps.take j).foldl hPush []).length ≤ 100 := fun j => by
    have := (hAll_spec (ps.take j)).2.2
    unfold hAll at this
    rw [this, List.length_take]; omega
  refine s_forT (ls := ps) (enc := encP) (sk := .sh) FS (by walk_at "m:up") (it_list (ev_name_sh (by walk_at "m:at"))) .sh
    (fun j ρ => ∃ o, ρ = [some ⟨.sh, .list (ps.map encP)⟩, some ⟨.lo, .list (((ps.take j).foldl hPush []).map encP)⟩, o, none, none]) ⟨none, rfl⟩ ?_ ?_
  · rintro j p ρ' hj ⟨o, rfl⟩
    refine ⟨_, by walk_at "m:up", ?_⟩
    refine s_asg (sk := .lo) FS (ev_call C stPus rfl (evl_w (ev_name_w (by walk_at "m:at")) (evl_w (ev_name_w (by walk_at "m:at")) evl_nilU)) (pus46_fn C Blen Blist stBef (Nat.le_trans (plen j) (by decide))) (Nat.le_of_ble_eq_true rfl)) .frlo (by walk_at "m:up") (s_end ?_)
    exact ⟨_, by rw [List.take_add_one, hj, Option.toList_some, List.foldl_append]; rfl⟩
  · rintro ρ' ⟨o, rfl⟩
    rw [List.take_length]
    refine s_asg (sk := .ow) FS (Ev.cast (d' := .list (([] : List PN).map encP)) (ev_list (k := .fr) evl_nil) rfl) .fr (by walk_at "m:up") ?_
    have hal := (hAll_spec ps).2.2
    refine s_while (n := ps.length) (fun m ρ => ∃ H out o1 o2, H.length ≤ m ∧ H.length + out.length ≤ 100 ∧ pAll m H out = hSort ps ∧ ρ = [some ⟨.sh, .list (ps.map encP)⟩, some ⟨.lo, .list (H.map encP)⟩, o1, some ⟨.ow, .list (out.map encP)⟩, o2]) ⟨hAll ps, [], o, none, by omega, by simp; omega, rfl, rfl⟩ ?_
    rintro m ρ' ⟨H, out, o1, o2, hm, hlen, hrun, rfl⟩
    refine ⟨_, tst_cmp (ev_vcall1 (.inl ⟨_, rfl⟩) C Blen rfl (ev_name_w (by walk_at "m:at")) (vc_len (by simp; omega))) ev_int cmp_gt, fun h => ?_, fun h => ?_⟩
    · have h0 : 0 < H.length := by simp at h; omega
      obtain ⟨m', rfl⟩ : ∃ m', m = m' + 1 := ⟨m - 1, by omega⟩
      rw [pAll, if_pos h0] at hrun
      have r1 := (hRest_spec h0).1
      refine s_unp2 FS (ev_call C stPop rfl (evl_w (ev_name_w (by walk_at "m:at")) evl_nilU) (pop46_fn C Blen stBef h0 (by omega)) (Nat.le_of_ble_eq_true rfl)) (sk1 := .lo) (.flat rfl (by decide)) .fr (by walk_at "m:up") (by walk_at "m:up") ?_
      refine s_append FS (by walk_at "m:at") (ev_name_w (by walk_at "m:at")) (.inr rfl) (by simp [sizeLine]; omega) (by walk_at "m:up") (s_end ?_)
      exact ⟨m', by omega, hRest H, out ++ [gP H 0], _, _, by omega, by simp; omega, hrun, by rw [List.map_append]; rfl⟩
    · have h0 : ¬ 0 < H.length := by have := of_decide_eq_false h; rw [List.length_map] at this; omega
      have e : out = hSort ps := by
        rw [← hrun]
        cases m with
        | zero => rfl
        | succ m => rw [pAll, if_neg h0]
      exact s_retO (by walk_at "m:at") ⟨by rw [e], fun _ => rfl⟩

/-! the sets -/
def pL (n : Nat) (p : Nat → Nat) : List PyData := (List.range n).map fun x => .int (p x : Int)
def zL (n : Nat) (sz : Nat → Int) : List PyData := (List.range n).map fun x => .int (sz x)
abbrev encS (n : Nat) (p : Nat → Nat) (sz : Nat → Int) : PyData := .tuple [.list (pL n p), .list (zL n sz)]
theorem pL_len {n : Nat} {p : Nat → Nat} : (pL n p).length = n := by simp [pL]
theorem zL_len {n : Nat} {sz : Nat → Int} : (zL n sz).length = n := by simp [zL]
theorem pL_at {n x : Nat} {p : Nat → Nat} (h : x < n) : (pL n p)[x]? = some (.int (p x : Int)) := rangeMap_at h
theorem zL_at {n x : Nat} {sz : Nat → Int} (h : x < n) : (zL n sz)[x]? = some (.int (sz x)) := rangeMap_at h
theorem pL_set {n x v : Nat} {p : Nat → Nat} : (pL n p).set x (.int (v : Int)) = pL n (updF p x v) := by
  rw [pL, rangeMap_set, pL]
  refine List.map_congr_left fun i _ => ?_
  unfold updF; split <;> rfl
theorem zL_set {n x : Nat} {v : Int} {sz : Nat → Int} : (zL n sz).set x (.int v) = zL n (updF sz x v) := by
  rw [zL, rangeMap_set, zL]
  refine List.map_congr_left fun i _ => ?_
  unfold updF; split <;> rfl
def smk46 : FnD := fnAt PySem.Challenge.pw_k21_0046 5
theorem smk46_fn {c : Cx} (C : CxOk c) (Brange : Bi c "range" (.type "range")) {n : Nat} (hn : n ≤ 5) :
    Fn c 1 smk46 [.int n] (encS n id fun _ => 1) true := by
  refine fn_go ["n"] [] ["n"] C ?_ rfl (by decide +kernel) (by decide +kernel) rfl rfl rfl [some ⟨.sh, .int n⟩] ?_
  · intro pm cd doc vals hv
    match vals, hv with | [a], _ => rfl
  walk_at "m:enter"
  rename_i FS
  refine s_ret (u := true) (ev_tuple (evl_fr (Ev.cast (d' := .list (pL n id)) (ev_compX (p := fun _ => true) (g := fun (v : Nat) => PyData.int (v : Int)) .lo HasCells.nil [] [] [] []
    (it_n (it_range1 C Brange rfl (ev_name_w (by walk_at "m:at")) (by omega) (by omega))) (.flat encN_flat (by decide)) (by simp [sizeLine]; omega) (fun C1 H1 el hel => ifs_nil) (fun C1 H1 u hu _ => Ev.ofFlat (ev_name_w (by walk_at "m:at")) rfl)) (by rw [filter_tt]; rfl))
    (evl_fr (Ev.cast (d' := .list (zL n fun _ => 1)) (ev_compX (p := fun _ => true) (g := fun (v : Nat) => PyData.int 1) .lo HasCells.nil [] [] [] []
    (it_n (it_range1 C Brange rfl (ev_name_w (by walk_at "m:at")) (by omega) (by omega))) (.flat encN_flat (by decide)) (by simp [sizeLine]; omega) (fun C1 H1 el hel => ifs_nil) (fun C1 H1 u hu _ => Ev.ofFlat ev_int rfl)) (by rw [filter_tt]; rfl)) evl_nil)) (Nat.le_of_ble_eq_true rfl)) ⟨rfl, fun _ => rfl⟩ (.inl rfl)

def sfd46 : FnD := fnAt PySem.Challenge.pw_k21_0046 6
theorem sfd46_fn {c : Cx} (C : CxOk c) (Blen : Bi c "len" (.builtin "len")) (Brange : Bi c "range" (.type "range")) {n : Nat} (hn : n ≤ 5) {p : Nat → Nat} {sz : Nat → Int} (U : UF n p) {x : Nat} (hx : x < n) :
    Fn c 1 sfd46 [encS n p sz, .int x] (.int (itP p n x : Int)) true := by
  refine fn_go ["sets", "x"] ["parents", "root", "_"] ["sets", "x", "parents", "root", "_"] C ?_ rfl (by decide +kernel) (by decide +kernel) rfl rfl rfl [some ⟨.sh, encS n p sz⟩, some ⟨.sh, .int x⟩, none, none, none] ?_
  · intro pm cd doc vals hv
    match vals, hv with | [a, b], _ => rfl
  walk_at "m:enter"
  rename_i FS
  have hsz : (pL n p).length ≤ sizeLine := by rw [pL_len]; simp [sizeLine]; omega
  refine s_asg (sk := .sh) FS (ev_tupitem (d := .list (pL n p)) (ev_name_sh (by walk_at "m:at")) ev_int (by decide) (by decide) rfl) .sh (by walk_at "m:up") ?_
  refine s_asg (sk := .lo) FS (ev_name_w (by walk_at "m:at")) (.flat rfl) (by walk_at "m:up") ?_
  refine s_forN (n := n) FS (by walk_at "m:up") (it_range1 C Brange rfl (Ev.cast (d' := .int n) (ev_vcall1 (.inl ⟨_, rfl⟩) C Blen rfl (ev_name_w (by walk_at "m:at")) (vc_len (by rw [pL_len]; omega))) (by rw [pL_len])) (by omega) (by omega))
    (fun j ρ => ∃ o, ρ = [some ⟨.sh, encS n p sz⟩, some ⟨.sh, .int x⟩, some ⟨.sh, .list (pL n p)⟩, some ⟨.lo, .int (itP p j x : Int)⟩, o]) ⟨none, rfl⟩ ?_ ?_
  · rintro j ρ' hj ⟨o, rfl⟩
    refine ⟨_, by walk_at "m:up", ?_⟩
    have hlt := U.it_lt hx j
    refine s_when (tst_cmp (ev_at (i := itP p j x) (ev_name_w (by walk_at "m:at")) (ev_name_w (by walk_at "m:at")) (pL_at hlt) hsz) (ev_name_w (by walk_at "m:at")) cmp_eq) (fun h => ?_) (fun h => ?_)
    · have h : p (itP p j x) = itP p j x := by simp at h; omega
      refine s_ret (u := true) (ev_name_w (by walk_at "m:at")) ⟨?_, fun _ => rfl⟩ (.inr (.inr (.inl rfl)))
      rw [show itP p n x = itP p j x by rw [show n = j + (n - j) by omega, itP_add, itP_root h]]
    · refine s_asg (sk := .lo) FS (ev_at (i := itP p j x) (ev_name_w (by walk_at "m:at")) (ev_name_w (by walk_at "m:at")) (pL_at hlt) hsz) (.flat rfl) (by walk_at "m:up") (s_end ?_)
      exact ⟨_, by rw [itP_succ]⟩
  · rintro ρ' ⟨o, rfl⟩
    exact s_ret (u := true) (ev_name_w (by walk_at "m:at")) ⟨rfl, fun _ => rfl⟩ (.inr (.inr (.inl rfl)))
end Mine

set_option maxRecDepth 100000
namespace Mine
open PySem PySem.Spec PySem.Calls PyProof.Rows

local macro_rules | `(tactic| walk_at "m:at") => `(tactic| (with_reducible repeat' (first | exact At.here | apply At.there)))
local macro_rules | `(tactic| walk_at "m:enter") => `(tactic| (intro f hsc hxs hlv FS; obtain ⟨⟨scope, locals, globals, cells, qual, func, code, frame, builtins⟩, A, h₀, xs, lv⟩ := f; (simp only at hsc hxs hlv); subst hsc hxs hlv))
local macro_rules | `(tactic| walk_at "m:up") => `(tactic| (with_reducible repeat' (first | exact Upd.here | apply Upd.there | exact Nm.here | apply Nm.there)))
local macro_rules | `(tactic| walk_at "m:sub") => `(tactic| (repeat' (first | exact Sub.refl | apply Sub.cons_same | apply Sub.cons_none | refine Sub.cons_k ?_ (.inl rfl))))

def swU (sz : Nat → Int) (t l : Nat) : Bool := decide (sz t < sz l) || ((sz t == sz l) && decide ((l : Int) < (t : Int)))
def unT (sz : Nat → Int) (t l : Nat) : Nat := if swU sz t l = true then l else t
def unL (sz : Nat → Int) (t l : Nat) : Nat := if swU sz t l = true then t else l
def sun46 : FnD := fnAt PySem.Challenge.pw_k21_0046 7
theorem sun46_fn {c : Cx} (C : CxOk c) (Blen : Bi c "len" (.builtin "len")) (Brange : Bi c "range" (.type "range")) (Blist : Bi c "list" (.type "list")) (stFd : Stands c sfd46) {n : Nat} (hn : n ≤ 5) {p : Nat → Nat} {sz : Nat → Int} (U : UF n p) {a b : Nat} (ha : a < n) (hb : b < n) (hab : itP p n a ≠ itP p n b) :
    Fn c 2 sun46 [encS n p sz, .int a, .int b] (encS n (updF p (unL sz (itP p n a) (itP p n b)) (unT sz (itP p n a) (itP p n b))) (updF sz (unT sz (itP p n a) (itP p n b)) (sz (unT sz (itP p n a) (itP p n b)) + sz (unL sz (itP p n a) (itP p n b))))) true := by
  refine fn_go ["sets", "a", "b"] ["parents", "sizes", "top", "low"] ["sets", "a", "b", "parents", "sizes", "top", "low"] C ?_ rfl (by decide +kernel) (by decide +kernel) rfl rfl rfl [some ⟨.sh, encS n p sz⟩, some ⟨.sh, .int a⟩, some ⟨.sh, .int b⟩, none, none, none, none] ?_
  · intro pm cd doc vals hv
    match vals, hv with | [a, b, c], _ => rfl
  walk_at "m:enter"
  rename_i FS
  have hszP : ∀ p, (pL n p).length ≤ sizeLine := fun p => by rw [pL_len]; simp [sizeLine]; omega
  have hszZ : ∀ p, (zL n p).length ≤ sizeLine := fun p => by rw [zL_len]; simp [sizeLine]; omega
  refine s_asg (sk := .ow) FS (ev_vcall1 (.inr ⟨_, rfl⟩) C Blist rfl (ev_tupitem (d := .list (pL n p)) (ev_name_sh (by walk_at "m:at")) ev_int (by decide) (by decide) rfl) (vc_list (flats_map (fun _ => rfl) _) (hszP _))) .fr (by walk_at "m:up") ?_
  refine s_asg (sk := .ow) FS (ev_vcall1 (.inr ⟨_, rfl⟩) C Blist rfl (ev_tupitem (d := .list (zL n sz)) (ev_name_sh (by walk_at "m:at")) ev_int (by decide) (by decide) rfl) (vc_list (flats_map (fun _ => rfl) _) (hszZ _))) .fr (by walk_at "m:up") ?_
  refine s_asg (sk := .lo) FS (ev_call C stFd rfl (evl_w (ev_name_w (by walk_at "m:at")) (evl_w (ev_name_w (by walk_at "m:at")) evl_nilU)) (sfd46_fn C Blen Brange hn U ha) (Nat.le_of_ble_eq_true rfl)) (.flat rfl) (by walk_at "m:up") ?_
  refine s_asg (sk := .lo) FS (ev_call C stFd rfl (evl_w (ev_name_w (by walk_at "m:at")) (evl_w (ev_name_w (by walk_at "m:at")) evl_nilU)) (sfd46_fn C Blen Brange hn U hb) (Nat.le_of_ble_eq_true rfl)) (.flat rfl) (by walk_at "m:up") ?_
  have ht := U.it_lt ha n
  have hl := U.it_lt hb n
  generalize itP p n a = t at *
  generalize itP p n b = l at *
  refine s_when (tst_cmp (ev_name_w (by walk_at "m:at")) (ev_name_w (by walk_at "m:at")) cmp_eq) (fun h => ?_) (fun h => ?_)
  · exfalso; simp at h; omega
  refine s_whenc (q := swU sz t l) (fun ρ => ρ = [some ⟨.sh, encS n p sz⟩, some ⟨.sh, .int a⟩, some ⟨.sh, .int b⟩, some ⟨.ow, .list (pL n p)⟩, some ⟨.ow, .list (zL n sz)⟩, some ⟨.lo, .int (unT sz t l : Int)⟩, some ⟨.lo, .int (unL sz t l : Int)⟩])
    (tst_or (tst_cmp (ev_at (i := t) (ev_name_w (by walk_at "m:at")) (ev_name_w (by walk_at "m:at")) (zL_at ht) (hszZ _)) (ev_at (i := l) (ev_name_w (by walk_at "m:at")) (ev_name_w (by walk_at "m:at")) (zL_at hl) (hszZ _)) cmp_lt)
      (fun _ => tst_and (tst_cmp (ev_at (i := t) (ev_name_w (by walk_at "m:at")) (ev_name_w (by walk_at "m:at")) (zL_at ht) (hszZ _)) (ev_at (i := l) (ev_name_w (by walk_at "m:at")) (ev_name_w (by walk_at "m:at")) (zL_at hl) (hszZ _)) cmp_eq) (fun _ => tst_cmp (ev_name_w (by walk_at "m:at")) (ev_name_w (by walk_at "m:at")) cmp_lt))) (fun h => ?_) (fun h => ?_) ?_
  · refine s_unp2s FS (ev_tuple (evl_w (ev_name_w (by walk_at "m:at")) (evl_w (ev_name_w (by walk_at "m:at")) evl_nilU)) (Nat.le_of_ble_eq_true rfl)) rfl rfl (by walk_at "m:up") (by walk_at "m:up") (s_end ?_)
    show _ = _
    rw [unT, unL, if_pos h, if_pos h]
  · rw [unT, unL, h]; rfl
  rintro _ rfl
  have hT : unT sz t l < n := by unfold unT; split <;> assumption
  have hL : unL sz t l < n := by unfold unL; split <;> assumption
  generalize unT sz t l = T at hT
  generalize unL sz t l = L at hL
  refine s_set (j := (L : Int)) FS (by walk_at "m:at") (ev_name_w (by walk_at "m:at")) (ev_name_w (by walk_at "m:at")) rfl (by omega) (by omega) (pL_at hL) rfl (by walk_at "m:up") ?_
  rw [Int.toNat_natCast, pL_set]
  refine s_set (j := (T : Int)) FS (by walk_at "m:at") (ev_add (ev_at (i := T) (ev_name_w (by walk_at "m:at")) (ev_name_w (by walk_at "m:at")) (zL_at hT) (hszZ _)) (ev_at (i := L) (ev_name_w (by walk_at "m:at")) (ev_name_w (by walk_at "m:at")) (zL_at hL) (hszZ _))) (ev_name_w (by walk_at "m:at")) rfl (by omega) (by omega) (zL_at hT) rfl (by walk_at "m:up") ?_
  rw [Int.toNat_natCast, zL_set]
  exact s_retOO (by walk_at "m:at") (by walk_at "m:at") (by simp) ⟨rfl, fun _ => rfl⟩

def bth46 : FnD := fnAt PySem.Challenge.pw_k21_0046 9
theorem bth46_fn {c : Cx} (C : CxOk c) {es : List Ed} (hl : es.length ≤ 6) :
    Fn c 1 bth46 [.list (es.map encE)] (.list ((both es).map encE)) true := by
  refine fn_go ["edges"] [] ["edges"] C ?_ rfl (by decide +kernel) (by decide +kernel) rfl rfl rfl [some ⟨.sh, .list (es.map encE)⟩] ?_
  · intro pm cd doc vals hv
    match vals, hv with | [a], _ => rfl
  walk_at "m:enter"
  rename_i FS
  refine s_ret (u := true) (ev_addL (Ev.cast (d' := .list (es.map encE)) (ev_compX (xs := es) (enc := encE) (p := fun _ => true) (g := fun e => encE e) .sh HasCells.nil [] [] [] []
    (it_list (ev_name_sh (by walk_at "m:at"))) .sh (by simp [sizeLine]; omega) (fun C1 H1 el hel => ifs_nil) (fun C1 H1 e he _ => Ev.ofFlat (ev_tuple (evl_w (ev_t0 (ev_name_w (by walk_at "m:at")) ev_int rfl) (evl_w (ev_t1 (ev_name_w (by walk_at "m:at")) ev_int rfl) (evl_w (ev_t2 (ev_name_w (by walk_at "m:at")) ev_int rfl) evl_nilU))) (Nat.le_of_ble_eq_true rfl)) rfl)) (by rw [filter_tt]))
    (Ev.cast (d' := .list ((es.map fun e => (e.2.1, e.1, e.2.2)).map encE)) (ev_compX (xs := es) (enc := encE) (p := fun _ => true) (g := fun e => encE (e.2.1, e.1, e.2.2)) .sh HasCells.nil [] [] [] []
    (it_list (ev_name_sh (by walk_at "m:at"))) .sh (by simp [sizeLine]; omega) (fun C1 H1 el hel => ifs_nil) (fun C1 H1 e he _ => Ev.ofFlat (ev_tuple (evl_w (ev_t1 (ev_name_w (by walk_at "m:at")) ev_int rfl) (evl_w (ev_t0 (ev_name_w (by walk_at "m:at")) ev_int rfl) (evl_w (ev_t2 (ev_name_w (by walk_at "m:at")) ev_int rfl) evl_nilU))) (Nat.le_of_ble_eq_true rfl)) rfl)) (by rw [filter_tt, List.map_map]; rfl))
    (flats_map (fun _ => rfl) _) (flats_map (fun _ => rfl) _) (by simp [sizeLine]; omega)) ⟨by rw [both, List.map_append], fun _ => rfl⟩ (.inl rfl)

def bwt46 : FnD := fnAt PySem.Challenge.pw_k21_0046 10
theorem bwt46_fn {c : Cx} (C : CxOk c) (Blen : Bi c "len" (.builtin "len")) (Brange : Bi c "range" (.type "range")) (Blist : Bi c "list" (.type "list")) (stBef : Stands c bef46) (stPus : Stands c pus46) (stPop : Stands c pop46) (stHs : Stands c hst46) {es : List Ed} (hl : es.length ≤ 6) :
    Fn c 4 bwt46 [.list (es.map encE)] (.list ((bwt es).map encE)) true := by
  refine fn_go ["edges"] ["order"] ["edges", "order"] C ?_ rfl (by decide +kernel) (by decide +kernel) rfl rfl rfl [some ⟨.sh, .list (es.map encE)⟩, none] ?_
  · intro pm cd doc vals hv
    match vals, hv with | [a], _ => rfl
  walk_at "m:enter"
  rename_i FS
  have H0 := HasCells.ofs (ys := ["edges"]) FS bwt46.scope rfl ["edges", "order"] rfl (by decide +kernel)
  have hsz : (es.map encE).length ≤ sizeLine := by simp [sizeLine]; omega
  have eat : ∀ {i}, i < es.length → (es.map encE)[i]? = some (encE (gE es i)) := fun {i} h => by rw [List.getElem?_map, gE_get h]; rfl
  obtain ⟨hs1, hs2, hs3⟩ := hSort_spec (idxP es)
  have hil : (idxP es).length = es.length := by simp [idxP]
  refine s_asg (sk := .lo) FS (ev_call C stHs rfl (evl_w (Ev.cast (d' := .list ((idxP es).map encP)) (ev_compX (p := fun _ => true) (g := fun (i : Nat) => encP ((gE es i).2.2, i)) .lo H0 [0] ["edges"] [some ⟨.sh, .list (es.map encE)⟩] []
    (it_n (it_range1 C Brange rfl (Ev.cast (d' := .int (es.length : Int)) (ev_vcall1 (.inl ⟨_, rfl⟩) C Blen rfl (ev_name_w (by walk_at "m:at")) (vc_len (by simp; omega))) (by simp)) (by omega) (by omega))) (.flat encN_flat (by decide)) (by simp [sizeLine]; omega) (fun C1 H1 el hel => ifs_nil) (fun C1 H1 i hi _ => ?_)) ?_) evl_nilU) (hst46_fn C Blen Blist stBef stPus stPop (by omega)) (Nat.le_of_ble_eq_true rfl)) .frlo (by walk_at "m:up") ?_
  · have hi : i < es.length := by simpa using hi
    exact Ev.ofFlat (ev_tuple (evl_w (ev_t2 (d := .int (gE es i).2.2) (ev_at (i := i) (ev_name_w (by walk_at "m:at")) (ev_name_w (by walk_at "m:at")) (eat hi) hsz) ev_int rfl) (evl_w (ev_name_w (by walk_at "m:at")) evl_nilU)) (Nat.le_of_ble_eq_true rfl)) rfl
  · rw [filter_tt, Int.toNat_natCast, idxP, List.map_map]; rfl
  refine s_ret (u := true) (ev_compX (xs := hSort (idxP es)) (enc := encP) (p := fun _ => true) (g := fun q => encE (gE es q.2)) .lo H0 [0] ["edges"] [some ⟨.sh, .list (es.map encE)⟩] []
    (it_list (ev_name_lo (by walk_at "m:at"))) .lo (by rw [hs3, hil]; simp [sizeLine]; omega) (fun C1 H1 el hel => ifs_nil) (fun C1 H1 q hq _ => ?_)) ⟨by rw [filter_tt, bwt, List.map_map]; rfl, fun _ => rfl⟩ (.inl rfl)
  have hi := (idxP_mem.mp ((hs2 q).mp hq)).1
  exact Ev.ofFlat (ev_at (i := q.2) (ev_name_w (by walk_at "m:at")) (ev_t1 (ev_name_w (by walk_at "m:at")) ev_int rfl) (eat hi) hsz) rfl
end Mine

set_option maxRecDepth 100000
namespace Mine
open PySem PySem.Spec PySem.Calls PyProof.Rows

local macro_rules | `(tactic| walk_at "m:at") => `(tactic| (with_reducible repeat' (first | exact At.here | apply At.there)))
local macro_rules | `(tactic| walk_at "m:enter") => `(tactic| (intro f hsc hxs hlv FS; obtain ⟨⟨scope, locals, globals, cells, qual, func, code, frame, builtins⟩, A, h₀, xs, lv⟩ := f; (simp only at hsc hxs hlv); subst hsc hxs hlv))
local macro_rules | `(tactic| walk_at "m:up") => `(tactic| (with_reducible repeat' (first | exact Upd.here | apply Upd.there | exact Nm.here | apply Nm.there)))
local macro_rules | `(tactic| walk_at "m:sub") => `(tactic| (repeat' (first | exact Sub.refl | apply Sub.cons_same | apply Sub.cons_none | refine Sub.cons_k ?_ (.inl rfl))))

def kru46 : FnD := fnAt PySem.Challenge.pw_k21_0046 11
theorem kru46_fn {c : Cx} (C : CxOk c) (Blen : Bi c "len" (.builtin "len")) (Brange : Bi c "range" (.type "range")) (Blist : Bi c "list" (.type "list")) (stBef : Stands c bef46) (stPus : Stands c pus46) (stPop : Stands c pop46) (stHs : Stands c hst46) (stMk : Stands c smk46) (stFd : Stands c sfd46) (stUn : Stands c sun46) (stBw : Stands c bwt46)
    {n : Nat} (hn : n ≤ 5) {es : List Ed} (hl : es.length ≤ 6) (hes : ∀ e ∈ es, e.1 < n ∧ e.2.1 < n) :
    Fn c 5 kru46 [.int n, .list (es.map encE)] (.list ((KC (bwt es) id).map encE)) true := by
  refine fn_go ["n", "edges"] ["sets", "chosen", "e"] ["n", "edges", "sets", "chosen", "e"] C ?_ rfl (by decide +kernel) (by decide +kernel) rfl rfl rfl [some ⟨.sh, .int n⟩, some ⟨.sh, .list (es.map encE)⟩, none, none, none] ?_
  · intro pm cd doc vals hv
    match vals, hv with | [a, b], _ => rfl
  walk_at "m:enter"
  rename_i FS
  have hbe : ∀ e ∈ bwt es, e.1 < n ∧ e.2.1 < n := fun e he => hes e ((bwt_mem es e).mp he)
  have hbl := bwt_len es
  refine s_asg (sk := .lo) FS (ev_call C stMk rfl (evl_w (ev_name_w (by walk_at "m:at")) evl_nilU) (smk46_fn C Brange hn) (Nat.le_of_ble_eq_true rfl)) .frlo (by walk_at "m:up") ?_
  refine s_asg (sk := .ow) FS (Ev.cast (d' := .list (([] : List Ed).map encE)) (ev_list (k := .fr) evl_nil) rfl) .fr (by walk_at "m:up") ?_
  refine s_forT (ls := bwt es) (enc := encE) (sk := .lo) FS (by walk_at "m:up") (it_list (ev_call C stBw rfl (evl_w (ev_name_w (by walk_at "m:at")) evl_nilU) (bwt46_fn C Blen Brange Blist stBef stPus stPop stHs hl) (Nat.le_of_ble_eq_true rfl))) .fr
    (fun j ρ => ∃ p sz lab out o, UF n p ∧ UL n p lab ∧ out ++ KC ((bwt es).drop j) lab = KC (bwt es) id ∧ out.length ≤ j ∧ ρ = [some ⟨.sh, .int n⟩, some ⟨.sh, .list (es.map encE)⟩, some ⟨.lo, encS n p sz⟩, some ⟨.ow, .list (out.map encE)⟩, o]) ⟨id, fun _ => 1, id, [], none, UF.init n, UL.init n, rfl, Nat.le_refl _, rfl⟩ ?_ ?_
  · rintro j e ρ' hj ⟨p, sz, lab, out, o, U, L, hK, hlen, rfl⟩
    refine ⟨_, by walk_at "m:up", ?_⟩
    obtain ⟨h1, h2⟩ := hbe e (List.mem_of_getElem? hj)
    have hjl : j < (bwt es).length := (List.getElem?_eq_some_iff.mp hj).1
    have hdr : (bwt es).drop j = e :: (bwt es).drop (j + 1) := by
      rw [List.drop_eq_getElem_cons hjl]; congr 1; exact (List.getElem?_eq_some_iff.mp hj).2
    rw [hdr, KC] at hK
    refine s_when (tst_cmp (ev_call C stFd rfl (evl_w (ev_name_w (by walk_at "m:at")) (evl_w (ev_t0 (ev_name_w (by walk_at "m:at")) ev_int rfl) evl_nilU)) (sfd46_fn C Blen Brange hn U h1) (Nat.le_of_ble_eq_true rfl)) (ev_call C stFd rfl (evl_w (ev_name_w (by walk_at "m:at")) (evl_w (ev_t1 (ev_name_w (by walk_at "m:at")) ev_int rfl) evl_nilU)) (sfd46_fn C Blen Brange hn U h2) (Nat.le_of_ble_eq_true rfl)) cmp_ne) (fun h => ?_) (fun h => ?_)
    · have hne : itP p n e.1 ≠ itP p n e.2.1 := by simp at h; omega
      rw [if_neg (fun q => hne ((L _ _ h1 h2).mpr q))] at hK
      obtain ⟨U', L'⟩ := UL.union U L h1 h2 hne (top := unT sz (itP p n e.1) (itP p n e.2.1)) (low := unL sz (itP p n e.1) (itP p n e.2.1)) (by unfold unT unL; split <;> simp)
      refine s_asg (sk := .lo) FS (ev_call C stUn rfl (evl_w (ev_name_w (by walk_at "m:at")) (evl_w (ev_t0 (ev_name_w (by walk_at "m:at")) ev_int rfl) (evl_w (ev_t1 (ev_name_w (by walk_at "m:at")) ev_int rfl) evl_nilU))) (sun46_fn C Blen Brange Blist stFd hn U h1 h2 hne) (Nat.le_of_ble_eq_true rfl)) .frlo (by walk_at "m:up") ?_
      refine s_append FS (by walk_at "m:at") (ev_name_w (by walk_at "m:at")) (.inr rfl) (by simp [sizeLine]; omega) (by walk_at "m:up") (s_end (s_end ?_))
      exact ⟨_, _, _, out ++ [e], _, U', L', by rw [List.append_assoc]; exact hK, by simp; omega, by rw [List.map_append]; rfl⟩
    · have heq : itP p n e.1 = itP p n e.2.1 := by simp at h; omega
      rw [if_pos ((L _ _ h1 h2).mp heq)] at hK
      exact s_end ⟨_, _, _, out, _, U, L, hK, by omega, rfl⟩
  · rintro ρ' ⟨p, sz, lab, out, o, U, L, hK, hlen, rfl⟩
    rw [List.drop_length, KC, List.append_nil] at hK
    exact s_retO (by walk_at "m:at") ⟨by rw [hK], fun _ => rfl⟩

/-! the law's own lightest tree -/
def t46 (es : List Ed) : List T3 := es.map fun e => (e.2.2, (e.1 : Int), (e.2.1 : Int))
def l46 (es : List Ed) : List Ed := (srt3 (t46 es)).map fun t => (t.2.1.toNat, t.2.2.toNat, t.1)
theorem t46_mem {es : List Ed} {t : T3} : t ∈ t46 es ↔ ((t.2.1.toNat, t.2.2.toNat, t.1) ∈ es ∧ 0 ≤ t.2.1 ∧ 0 ≤ t.2.2) := by
  unfold t46
  rw [List.mem_map]
  constructor
  · rintro ⟨e, he, rfl⟩
    exact ⟨he, by simp, by simp⟩
  · rintro ⟨h, h1, h2⟩
    exact ⟨_, h, by simp only [Int.toNat_of_nonneg h1, Int.toNat_of_nonneg h2]⟩
theorem l46_le {es : List Ed} (hl : es.length ≤ 6) : LeW (l46 es) := by
  obtain ⟨h1, _⟩ := srt3_spec (ts := t46 es) (by simpa [t46] using hl)
  exact List.pairwise_map.mpr h1
theorem l46_mem {es : List Ed} (hl : es.length ≤ 6) (e : Ed) : e ∈ l46 es ↔ e ∈ es := by
  obtain ⟨_, h2, _⟩ := srt3_spec (ts := t46 es) (by simpa [t46] using hl)
  unfold l46
  rw [List.mem_map]
  constructor
  · rintro ⟨t, ht, rfl⟩
    exact (t46_mem.mp ((h2 t).mp ht)).1
  · intro he
    refine ⟨(e.2.2, (e.1 : Int), (e.2.1 : Int)), (h2 _).mpr (t46_mem.mpr ⟨he, by simp, by simp⟩), by simp⟩
def lig46 : FnD := fnAt PySem.Challenge.pw_k21_0046 16
theorem lig46_fn {c : Cx} (C : CxOk c) (Brange : Bi c "range" (.type "range")) (Blist : Bi c "list" (.type "list")) (Bsorted : Bi c "sorted" (.builtin "sorted"))
    {n : Nat} (hn : n ≤ 5) {es : List Ed} (hl : es.length ≤ 6) (hes : ∀ e ∈ es, e.1 < n ∧ e.2.1 < n) :
    Fn c 1 lig46 [.int n, .list (es.map encE)] (.int (KR (l46 es) id)) true := by
  refine fn_go ["n", "edges"] ["label", "total", "w", "a", "b", "keep", "gone"] ["n", "edges", "label", "total", "w", "a", "b", "keep", "gone"] C ?_ rfl (by decide +kernel) (by decide +kernel) rfl rfl rfl [some ⟨.sh, .int n⟩, some ⟨.sh, .list (es.map encE)⟩, none, none, none, none, none, none, none] ?_
  · intro pm cd doc vals hv
    match vals, hv with | [a, b], _ => rfl
  walk_at "m:enter"
  rename_i FS
  have H0 := HasCells.ofs (ys := ["keep", "gone"]) FS lig46.scope rfl ["n", "edges", "label", "total", "w", "a", "b", "keep", "gone"] rfl (by decide +kernel)
  have hszP : ∀ p, (pL n p).length ≤ sizeLine := fun p => by rw [pL_len]; simp [sizeLine]; omega
  obtain ⟨q1, q2, q3⟩ := srt3_spec (ts := t46 es) (by simpa [t46] using hl)
  refine s_asg (sk := .ow) FS (Ev.cast (d' := .list (pL n id)) (ev_listRange C Brange Blist rfl rfl (ev_name_w (by walk_at "m:at")) (by omega)) rfl) .fr (by walk_at "m:up") ?_
  refine s_asg (sk := .lo) FS ev_int (.flat rfl) (by walk_at "m:up") ?_
  refine s_for3 (i1 := 4) (i2 := 5) (i3 := 6) (ls := srt3 (t46 es)) FS (it_listL (ev_vcall1 (.inl ⟨_, rfl⟩) C Bsorted rfl (Ev.cast (d' := .list ((t46 es).map encI)) (ev_compX (xs := es) (enc := encE) (p := fun _ => true) (g := fun e => encI (e.2.2, (e.1 : Int), (e.2.1 : Int))) .sh HasCells.nil [] [] [] []
      (it_list (ev_name_sh (by walk_at "m:at"))) .sh (by simp [sizeLine]; omega) (fun C1 H1 el hel => ifs_nil) (fun C1 H1 e he _ => Ev.ofFlat (ev_tuple (evl_w (ev_t2 (ev_name_w (by walk_at "m:at")) ev_int rfl) (evl_w (ev_t0 (ev_name_w (by walk_at "m:at")) ev_int rfl) (evl_w (ev_t1 (ev_name_w (by walk_at "m:at")) ev_int rfl) evl_nilU))) (Nat.le_of_ble_eq_true rfl)) rfl)) (by rw [filter_tt, t46, List.map_map]; rfl)) (vc_sorted3 (by simpa [t46] using hl)))) (.flat rfl (flat_map (fun _ => rfl) _))
    (fun j ρ => ∃ lab t o1 o2 o3 o4 o5, t + KR ((l46 es).drop j) lab = KR (l46 es) id ∧ ρ = [some ⟨.sh, .int n⟩, some ⟨.sh, .list (es.map encE)⟩, some ⟨.ow, .list (pL n lab)⟩, some ⟨.lo, .int t⟩, o1, o2, o3, o4, o5]) ⟨id, 0, _, _, _, _, _, by rw [List.drop_zero]; omega, rfl⟩ ?_ ?_
  · rintro j el ρ' hj ⟨lab, t, o1, o2, o3, o4, o5, hK, rfl⟩
    refine ⟨_, _, _, by walk_at "m:up", by walk_at "m:up", by walk_at "m:up", ?_⟩
    obtain ⟨he, hp1, hp2⟩ := t46_mem.mp ((q2 el).mp (List.mem_of_getElem? hj))
    obtain ⟨w, a, b⟩ := el
    simp only at he hp1 hp2 ⊢
    obtain ⟨a, rfl⟩ := Int.eq_ofNat_of_zero_le hp1
    obtain ⟨b, rfl⟩ := Int.eq_ofNat_of_zero_le hp2
    rw [Int.toNat_natCast, Int.toNat_natCast] at he
    obtain ⟨h1, h2⟩ := hes _ he
    simp only at h1 h2
    have hjl : j < (srt3 (t46 es)).length := (List.getElem?_eq_some_iff.mp hj).1
    have hdr : (l46 es).drop j = (a, b, w) :: (l46 es).drop (j + 1) := by
      have hjl' : j < (l46 es).length := by rw [l46, List.length_map]; exact hjl
      rw [List.drop_eq_getElem_cons hjl']
      congr 1
      have := (List.getElem?_eq_some_iff.mp hj).2
      simp only [l46, List.getElem_map, this, Int.toNat_natCast]
    rw [hdr, KR] at hK
    simp only at hK
    refine s_asg (sk := .lo) FS (ev_at (i := a) (ev_name_w (by walk_at "m:at")) (ev_name_w (by walk_at "m:at")) (pL_at h1) (hszP _)) (.flat rfl) (by walk_at "m:up") ?_
    refine s_asg (sk := .lo) FS (ev_at (i := b) (ev_name_w (by walk_at "m:at")) (ev_name_w (by walk_at "m:at")) (pL_at h2) (hszP _)) (.flat rfl) (by walk_at "m:up") ?_
    refine s_when (tst_cmp (ev_name_w (by walk_at "m:at")) (ev_name_w (by walk_at "m:at")) cmp_ne) (fun h => ?_) (fun h => ?_)
    · have hne : ¬ lab a = lab b := by simp at h; omega
      rw [if_neg hne] at hK
      refine s_asg (sk := .lo) FS (ev_add (ev_name_w (by walk_at "m:at")) (ev_name_w (by walk_at "m:at"))) (.flat rfl) (by walk_at "m:up") ?_
      refine s_comp (ls := List.range n) (enc := fun (x : Nat) => PyData.int (lab x : Int)) (p := fun _ => true) (g := fun (x : Nat) => PyData.int (mrg lab a b x : Int)) .lo FS H0 [8, 7] ["gone", "keep"] [some ⟨.lo, .int (lab b : Int)⟩, some ⟨.lo, .int (lab a : Int)⟩] []
        (it_list (Ev.cast (ev_name_w (by walk_at "m:at")) (by rfl))) (.flat (flat_map (fun _ => rfl) _) (by decide)) (by simp [sizeLine]; omega) (fun C1 H1 el hel => ifs_nil) (fun C1 H1 x hx _ => ?_) (by walk_at "m:up") (s_end (s_end ?_))
      · refine Ev.ofFlat (ev_ifexp (k := .w) (tst_cmp (ev_name_w (by walk_at "m:at")) (ev_name_w (by walk_at "m:at")) cmp_eq) (fun h => Ev.cast (ev_name_w (by walk_at "m:at")) ?_) (fun h => Ev.cast (ev_name_w (by walk_at "m:at")) ?_)) rfl
        · have h : lab x = lab b := by simp at h; omega
          rw [mrg, if_pos h]
        · have h : ¬ lab x = lab b := by simp at h; omega
          rw [mrg, if_neg h]
      · exact ⟨_, _, _, _, _, _, _, by rw [Int.add_assoc]; exact hK, by rw [filter_tt]; rfl⟩
    · have heq : lab a = lab b := by simp at h; omega
      rw [if_pos heq] at hK
      exact s_end ⟨_, _, _, _, _, _, _, hK, rfl⟩
  · rintro ρ' ⟨lab, t, o1, o2, o3, o4, o5, hK, rfl⟩
    have e : (l46 es).drop (srt3 (t46 es)).length = [] := List.drop_eq_nil_of_le (by simp [l46])
    rw [e, KR, Int.add_zero] at hK
    exact s_ret (u := true) (ev_name_w (by walk_at "m:at")) ⟨by rw [hK], fun _ => rfl⟩ (.inr (.inr (.inl rfl)))
end Mine

set_option maxRecDepth 100000
namespace Mine
open PySem PySem.Spec PySem.Calls PyProof.Rows

local macro_rules | `(tactic| walk_at "m:at") => `(tactic| (with_reducible repeat' (first | exact At.here | apply At.there)))
local macro_rules | `(tactic| walk_at "m:enter") => `(tactic| (intro f hsc hxs hlv FS; obtain ⟨⟨scope, locals, globals, cells, qual, func, code, frame, builtins⟩, A, h₀, xs, lv⟩ := f; (simp only at hsc hxs hlv); subst hsc hxs hlv))
local macro_rules | `(tactic| walk_at "m:up") => `(tactic| (with_reducible repeat' (first | exact Upd.here | apply Upd.there | exact Nm.here | apply Nm.there)))
local macro_rules | `(tactic| walk_at "m:sub") => `(tactic| (repeat' (first | exact Sub.refl | apply Sub.cons_same | apply Sub.cons_none | refine Sub.cons_k ?_ (.inl rfl))))

def seL (n : Nat) (se : Nat → Bool) : List PyData := (List.range n).map fun v => .bool (se v)
theorem seL_at {n v : Nat} {se : Nat → Bool} (h : v < n) : (seL n se)[v]? = some (.bool (se v)) := rangeMap_at h
theorem seL_len {n : Nat} {se : Nat → Bool} : (seL n se).length = n := by simp [seL]
theorem seL_set {n v : Nat} {se : Nat → Bool} : (seL n se).set v (.bool true) = seL n (updF se v true) := by
  rw [seL, rangeMap_set, seL]
  refine List.map_congr_left fun i _ => ?_
  unfold updF; split <;> rfl
def pri46 : FnD := fnAt PySem.Challenge.pw_k21_0046 12
abbrev Rp46 (n : Nat) (es : List Ed) (se : Nat → Bool) (t : Int) (o1 o2 o3 o4 o5 o6 : Option Slot) : Rho := [some ⟨.sh, .int n⟩, some ⟨.sh, .list (es.map encE)⟩, some ⟨.lo, .list (mkN n (both es))⟩, some ⟨.ow, .list (seL n se)⟩, some ⟨.lo, .int t⟩, o1, o2, o3, o4, o5, o6]
theorem pri46_fn {c : Cx} (C : CxOk c) (Blen : Bi c "len" (.builtin "len")) (Brange : Bi c "range" (.type "range")) (Blist : Bi c "list" (.type "list")) (stBef : Stands c bef46) (stPus : Stands c pus46) (stPop : Stands c pop46) (stNei : Stands c nei46) (stBth : Stands c bth46)
    {n : Nat} (hn : n ≤ 5) {es : List Ed} (hlen : es.length ≤ 6) (hes : ∀ e ∈ es, e.1 < n ∧ e.2.1 < n) {l : List Ed} (hl : LeW l) (hm : ∀ e, e ∈ l ↔ e ∈ es) :
    Fn c 3 pri46 [.int n, .list (es.map encE)] (.int (KR l id)) true := by
  refine fn_go ["n", "edges"] ["near", "seen", "total", "start", "heap", "top", "weight", "u", "pair"] ["n", "edges", "near", "seen", "total", "start", "heap", "top", "weight", "u", "pair"] C ?_ rfl (by decide +kernel) (by decide +kernel) rfl rfl rfl [some ⟨.sh, .int n⟩, some ⟨.sh, .list (es.map encE)⟩, none, none, none, none, none, none, none, none, none] ?_
  · intro pm cd doc vals hv
    match vals, hv with | [a, b], _ => rfl
  walk_at "m:enter"
  rename_i FS
  have hbl : (both es).length ≤ 12 := by simp [both]; omega
  have hbe : ∀ e ∈ both es, e.1 < n ∧ e.2.1 < n := fun e he => by
    rcases List.mem_append.mp he with q | q
    · exact hes e q
    · obtain ⟨e', he', rfl⟩ := List.mem_map.mp q
      exact ⟨(hes e' he').2, (hes e' he').1⟩
  have hszS : ∀ se, (seL n se).length ≤ sizeLine := fun se => by rw [seL_len]; simp [sizeLine]; omega
  have hszN : (mkN n (both es)).length ≤ sizeLine := by rw [mkN_len]; simp [sizeLine]; omega
  refine s_asg (sk := .lo) FS (ev_call C stNei rfl (evl_w (ev_name_w (by walk_at "m:at")) (evl_w (ev_call C stBth rfl (evl_w (ev_name_w (by walk_at "m:at")) evl_nilU) (bth46_fn C hlen) (Nat.le_of_ble_eq_true rfl)) evl_nilU)) (nei46_fn C Brange hn (by omega) hbe) (Nat.le_of_ble_eq_true rfl)) .frlo (by walk_at "m:up") ?_
  refine s_comp (p := fun _ => true) (g := fun (v : Nat) => PyData.bool false) .lo FS HasCells.nil [] [] [] []
    (it_n (it_range1 C Brange rfl (ev_name_w (by walk_at "m:at")) (by omega) (by omega))) (.flat encN_flat (by decide)) (by simp [sizeLine]; omega) (fun C1 H1 el hel => ifs_nil) (fun C1 H1 u hu _ => Ev.ofFlat ev_bool rfl) (by walk_at "m:up") ?_
  rw [filter_tt]
  refine s_asg (sk := .lo) FS ev_int (.flat rfl) (by walk_at "m:up") ?_
  refine s_forN (n := n) FS (by walk_at "m:up") (it_range1 C Brange rfl (Ev.cast (d' := .int n) (ev_name_w (by walk_at "m:at")) rfl) (by omega) (by omega))
    (fun j ρ => ∃ se lab t o1 o2 o3 o4 o5 o6, PO es l se lab t ∧ (∀ x, x < j → se x = true) ∧ ρ = Rp46 n es se t o1 o2 o3 o4 o5 o6) ⟨fun _ => false, id, 0, none, none, none, none, none, none, PO.init es l, fun x h => absurd h (Nat.not_lt_zero _), rfl⟩ ?_ ?_
  · rintro j ρ' hj ⟨se, lab, t, o1, o2, o3, o4, o5, o6, O, hsee, rfl⟩
    refine ⟨_, by walk_at "m:up", ?_⟩
    refine s_asg (sk := .lo) FS (Ev.cast (d' := .list (([] : List PN).map encP)) (ev_list (k := .fr) evl_nil) rfl) .frlo (by walk_at "m:up") ?_
    refine s_whenc (q := !se j) (fun ρ => ρ = Rp46 n es se t (some ⟨.lo, .int (j : Int)⟩) (some ⟨.lo, .list ((if se j = true then ([] : List PN) else [(0, j)]).map encP)⟩) o3 o4 o5 o6) (tst_not (tst_bool (ev_at (i := j) (ev_name_w (by walk_at "m:at")) (ev_name_w (by walk_at "m:at")) (seL_at hj) (hszS _)))) (fun h => ?_) (fun h => ?_) ?_
    · have h : se j = false := by simpa using h
      refine s_asg (sk := .lo) FS (Ev.cast (d' := .list ([((0 : Int), j)].map encP)) (ev_list (evl_fr (Ev.ofFlat (ev_tuple (evl_w ev_int (evl_w (ev_name_w (by walk_at "m:at")) evl_nilU)) (Nat.le_of_ble_eq_true rfl)) rfl) evl_nil) (Nat.le_of_ble_eq_true rfl)) rfl) .frlo (by walk_at "m:up") (s_end ?_)
      show _ = _
      rw [h]; rfl
    · have h : se j = true := by simpa using h
      rw [h]; rfl
    rintro _ rfl
    refine s_while (n := 100) (fun m ρ => ∃ (st : Pst) (o3 o4 o5 o6 : Option Slot), ((∃ Dn lab, PI n es l Dn j st.1 lab st.2.1 st.2.2) ∨ (st.2.2 = [] ∧ (∃ lab, PO es l st.1 lab st.2.1) ∧ st.1 j = true)) ∧ pMe n es st ≤ m ∧ m ≤ 100 ∧ (∀ x, x < j → st.1 x = true) ∧
      ρ = Rp46 n es st.1 st.2.1 (some ⟨.lo, .int (j : Int)⟩) (some ⟨.lo, .list (st.2.2.map encP)⟩) o3 o4 o5 o6) ⟨(se, t, if se j = true then [] else [(0, j)]), o3, o4, o5, o6, ?_, ?_, Nat.le_refl _, hsee, rfl⟩ ?_
    · by_cases q : se j = true
      · exact .inr ⟨by simp only [if_pos q], ⟨lab, O⟩, q⟩
      · refine .inl ⟨fun x => se x = true, lab, ?_⟩
        simp only [if_neg q]
        exact O.go (Bool.eq_false_iff.mpr q) hj
    · have h1 : suN n (fun x => if se x = true then 0 else 1) ≤ n * 1 := suN_bd fun i => by split <;> decide
      have h2 : 2 * es.length * suN n (fun x => if se x = true then 0 else 1) ≤ 12 * 5 := Nat.mul_le_mul (by omega) (by omega)
      have h3 : (if se j = true then ([] : List PN) else [(0, j)]).length ≤ 1 := by split <;> simp
      simp only [pMe]; omega
    · rintro m ρ' ⟨st, o3, o4, o5, o6, hI, hme, hm100, hsee, rfl⟩
      have hHl : st.2.2.length ≤ 100 := by unfold pMe at hme; omega
      refine ⟨_, tst_cmp (ev_vcall1 (.inl ⟨_, rfl⟩) C Blen rfl (ev_name_w (by walk_at "m:at")) (vc_len (by simp; omega))) ev_int cmp_gt, fun h => ?_, fun h => ?_⟩
      · have h0 : 0 < st.2.2.length := by have := of_decide_eq_true h; rw [List.length_map] at this; omega
        obtain ⟨Dn, lab, I⟩ := hI.resolve_right fun q => by rw [q.1] at h0; exact absurd h0 (by simp)
        obtain ⟨⟨lab', I'⟩, hdec, hmono⟩ := pStep_ok hes hl hm I h0
        obtain ⟨r1, r2⟩ := hRest_spec h0
        have hu : (gP st.2.2 0).2 < n := I.hn _ ((r2 _).mpr (.inl rfl))
        have hHO := I.ho.rest
        refine s_unp2 FS (ev_call C stPop rfl (evl_w (ev_name_w (by walk_at "m:at")) evl_nilU) (pop46_fn C Blen stBef h0 (by omega)) (Nat.le_of_ble_eq_true rfl)) (sk1 := .lo) (.flat rfl (by decide)) .fr (by walk_at "m:up") (by walk_at "m:up") ?_
        refine s_unp2 FS (ev_name_w (by walk_at "m:at")) (sk1 := .lo) (sk2 := .lo) (.flat rfl (by decide)) (.flat rfl (by decide)) (by walk_at "m:up") (by walk_at "m:up") ?_
        have hfin : ∀ ρ, (∃ o3 o4 o5 o6, ρ = Rp46 n es (pStep es st).1 (pStep es st).2.1 (some ⟨.lo, .int (j : Int)⟩) (some ⟨.lo, .list ((pStep es st).2.2.map encP)⟩) o3 o4 o5 o6) →
            ∃ m', m' < m ∧ ∃ (st : Pst) (o3 o4 o5 o6 : Option Slot), ((∃ Dn lab, PI n es l Dn j st.1 lab st.2.1 st.2.2) ∨ (st.2.2 = [] ∧ (∃ lab, PO es l st.1 lab st.2.1) ∧ st.1 j = true)) ∧ pMe n es st ≤ m' ∧ m' ≤ 100 ∧ (∀ x, x < j → st.1 x = true) ∧
              ρ = Rp46 n es st.1 st.2.1 (some ⟨.lo, .int (j : Int)⟩) (some ⟨.lo, .list (st.2.2.map encP)⟩) o3 o4 o5 o6 := by
          rintro ρ ⟨o3, o4, o5, o6, rfl⟩
          exact ⟨m - 1, by omega, pStep es st, o3, o4, o5, o6, .inl ⟨Dn, lab', I'⟩, by omega, by omega, fun x hx => hmono x (hsee x hx), rfl⟩
        unfold pStep at hfin
        generalize hx : gP st.2.2 0 = x at hu hfin ⊢
        generalize hRest st.2.2 = H at hfin hHO r1 ⊢
        refine s_when (tst_not (tst_bool (ev_at (i := x.2) (ev_name_w (by walk_at "m:at")) (ev_name_w (by walk_at "m:at")) (seL_at hu) (hszS _)))) (fun h => ?_) (fun h => ?_)
        · have h : st.1 x.2 = false := by simpa using h
          simp only [h, Bool.false_eq_true, if_false] at hfin
          refine s_set (j := (x.2 : Int)) FS (by walk_at "m:at") ev_bool (ev_name_w (by walk_at "m:at")) rfl (by omega) (by omega) (seL_at hu) rfl (by walk_at "m:up") ?_
          rw [Int.toNat_natCast, seL_set]
          refine s_asg (sk := .lo) FS (ev_add (ev_name_w (by walk_at "m:at")) (ev_name_w (by walk_at "m:at"))) (.flat rfl) (by walk_at "m:up") ?_
          have hnl := near_len (es := es) (u := x.2)
          have nbl : ∀ i, (nbP (updF st.1 x.2 true) H ((nrL (both es) x.2).take i)).length ≤ 200 := fun i => by
            have := (nbP_spec (updF st.1 x.2 true) ((nrL (both es) x.2).take i) H hHO).2.2
            rw [List.length_take] at this; omega
          refine s_forT (ls := nrL (both es) x.2) (enc := encW) (sk := .lo) FS (by walk_at "m:up") (it_list (ev_at (i := x.2) (ev_name_lo (by walk_at "m:at")) (ev_name_w (by walk_at "m:at")) (mkN_at hu) hszN)) .lo
            (fun i ρ => ∃ o6, ρ = Rp46 n es (updF st.1 x.2 true) (st.2.1 + x.1) (some ⟨.lo, .int (j : Int)⟩) (some ⟨.lo, .list ((nbP (updF st.1 x.2 true) H ((nrL (both es) x.2).take i)).map encP)⟩) (some ⟨.lo, encP x⟩) (some ⟨.lo, .int x.1⟩) (some ⟨.lo, .int (x.2 : Int)⟩) o6) ⟨_, rfl⟩ ?_ ?_
          · rintro i p ρ' hi ⟨o6, rfl⟩
            refine ⟨_, by walk_at "m:up", ?_⟩
            have hp : p.1 < n := by
              rcases mem_near.mp (List.mem_of_getElem? hi) with q | q
              · exact (hes _ q).2
              · exact (hes _ q).1
            have hstep : nbP (updF st.1 x.2 true) H ((nrL (both es) x.2).take (i + 1)) = if updF st.1 x.2 true p.1 = true then nbP (updF st.1 x.2 true) H ((nrL (both es) x.2).take i) else hPush (nbP (updF st.1 x.2 true) H ((nrL (both es) x.2).take i)) (p.2, p.1) := by
              rw [nbP, List.take_add_one, hi, Option.toList_some, List.foldl_append]; rfl
            have hnb := nbl i
            rw [hstep]
            generalize nbP (updF st.1 x.2 true) H ((nrL (both es) x.2).take i) = H1 at hnb
            refine s_when (tst_not (tst_bool (ev_at (i := p.1) (ev_name_w (by walk_at "m:at")) (ev_t0 (ev_name_w (by walk_at "m:at")) ev_int rfl) (seL_at hp) (hszS _)))) (fun h => ?_) (fun h => ?_)
            · have h : updF st.1 x.2 true p.1 = false := by simpa using h
              refine s_asg (sk := .lo) FS (ev_call C stPus rfl (evl_w (ev_name_w (by walk_at "m:at")) (evl_w (ev_tuple (evl_w (ev_t1 (ev_name_w (by walk_at "m:at")) ev_int rfl) (evl_w (ev_t0 (ev_name_w (by walk_at "m:at")) ev_int rfl) evl_nilU)) (Nat.le_of_ble_eq_true rfl)) evl_nilU)) (pus46_fn (p := (p.2, p.1)) C Blen Blist stBef (by omega)) (Nat.le_of_ble_eq_true rfl)) .frlo (by walk_at "m:up") (s_end (s_end ?_))
              exact ⟨_, by rw [h]; rfl⟩
            · have h : updF st.1 x.2 true p.1 = true := by simpa using h
              exact s_end ⟨_, by rw [h]; rfl⟩
          · rintro ρ' ⟨o6, rfl⟩
            rw [List.take_length]
            exact s_end (s_end (hfin _ ⟨_, _, _, _, rfl⟩))
        · have h : st.1 x.2 = true := by simpa using h
          simp only [h, if_true] at hfin
          exact s_end (hfin _ ⟨_, _, _, _, rfl⟩)
      · have h0 : st.2.2 = [] := List.length_eq_zero_iff.mp (by have := of_decide_eq_false h; rw [List.length_map] at this; omega)
        have hO : (∃ lab, PO es l st.1 lab st.2.1) ∧ st.1 j = true := by
          rcases hI with ⟨Dn, lab, I⟩ | ⟨_, q⟩
          · rw [h0] at I
            obtain ⟨O', hj'⟩ := I.fin
            exact ⟨⟨lab, O'⟩, hj'⟩
          · exact q
        obtain ⟨⟨lab, O'⟩, hj'⟩ := hO
        refine s_end ⟨st.1, lab, st.2.1, _, _, _, _, _, _, O', fun x hx => ?_, rfl⟩
        by_cases q : x = j
        · rw [q]; exact hj'
        · exact hsee x (by omega)
  · rintro ρ' ⟨se, lab, t, o1, o2, o3, o4, o5, o6, O, hsee, rfl⟩
    exact s_ret (u := true) (ev_name_w (by walk_at "m:at")) ⟨by rw [O.fin hes hm hsee], fun _ => rfl⟩ (.inr (.inr (.inl rfl)))
end Mine

set_option maxRecDepth 100000
namespace Mine
open PySem PySem.Spec PySem.Calls PyProof.Rows

local macro_rules | `(tactic| walk_at "m:at") => `(tactic| (with_reducible repeat' (first | exact At.here | apply At.there)))
local macro_rules | `(tactic| walk_at "m:enter") => `(tactic| (intro f hsc hxs hlv FS; obtain ⟨⟨scope, locals, globals, cells, qual, func, code, frame, builtins⟩, A, h₀, xs, lv⟩ := f; (simp only at hsc hxs hlv); subst hsc hxs hlv))
local macro_rules | `(tactic| walk_at "m:up") => `(tactic| (with_reducible repeat' (first | exact Upd.here | apply Upd.there | exact Nm.here | apply Nm.there)))
local macro_rules | `(tactic| walk_at "m:sub") => `(tactic| (repeat' (first | exact Sub.refl | apply Sub.cons_same | apply Sub.cons_none | refine Sub.cons_k ?_ (.inl rfl))))

def two46 : FnD := fnAt PySem.Challenge.pw_k21_0046 13
theorem two46_fn {c : Cx} (C : CxOk c) (BM : BMok c) (HT : HasTab c two46) (Blen : Bi c "len" (.builtin "len")) (Brange : Bi c "range" (.type "range")) (Blist : Bi c "list" (.type "list")) (Bsum : Bi c "sum" (.builtin "sum"))
    (stBef : Stands c bef46) (stPus : Stands c pus46) (stPop : Stands c pop46) (stHs : Stands c hst46) (stMk : Stands c smk46) (stFd : Stands c sfd46) (stUn : Stands c sun46) (stNei : Stands c nei46) (stBth : Stands c bth46) (stBw : Stands c bwt46) (stKr : Stands c kru46) (stPr : Stands c pri46)
    {n : Nat} (hn : n ≤ 5) {es : List Ed} (hl : es.length ≤ 6) (hes : ∀ e ∈ es, e.1 < n ∧ e.2.1 < n) :
    Fn c 6 two46 [.int n, .list (es.map encE)] (.bool true) true := by
  refine fn_goC ["n", "edges"] [] ["n", "edges"] C ?_ rfl (by decide +kernel) (by decide +kernel) rfl rfl rfl [some ⟨.sh, .int n⟩, some ⟨.sh, .list (es.map encE)⟩] ?_
  · intro pm cd doc vals hv
    match vals, hv with | [a, b], _ => rfl
  intro f hsc hxs hlv HC FS
  have HTc := codeTab_of HT HC
  clear HC
  obtain ⟨⟨scope, locals, globals, cells, qual, func, code, frame, builtins⟩, A, h₀, xs, lv⟩ := f
  simp only at hsc hxs hlv
  subst hsc hxs hlv
  refine s_ret (u := true) (ev_cmp (ev_sumT C BM HTc Bsum rfl (ev_call C stKr rfl (evl_w (ev_name_w (by walk_at "m:at")) (evl_w (ev_name_w (by walk_at "m:at")) evl_nilU)) (kru46_fn C Blen Brange Blist stBef stPus stPop stHs stMk stFd stUn stBw hn hl hes) (Nat.le_of_ble_eq_true rfl)) [] (by rfl) (by decide +kernel) (by rfl) (by rfl) (by rfl) (by rfl))
    (ev_call C stPr rfl (evl_w (ev_name_w (by walk_at "m:at")) (evl_w (ev_name_w (by walk_at "m:at")) evl_nilU)) (pri46_fn C Blen Brange Blist stBef stPus stPop stNei stBth hn hl hes (bwt_le es) (bwt_mem es)) (Nat.le_of_ble_eq_true rfl)) cmp_eq) ⟨?_, fun _ => rfl⟩ (.inl rfl)
  rw [KC_sum, beq_self_eq_true]

def w46 (ns : List Int) (j : Nat) : Int := if cellD ns 2 (7 * 2 + 4) % 2 = 0 then ((cellD ns (4 + 2 * (j : Int)) (7 * (4 + 2 * (j : Int)) + 4)).natAbs : Int) % 4 else (cellD ns (4 + 2 * (j : Int)) (7 * (4 + 2 * (j : Int)) + 4)).natAbs
def n46 (ns : List Int) (j : Nat) : Int := cellD ns (3 + 2 * (j : Int)) (7 * (3 + 2 * (j : Int)) + 4)
def e46 (ns : List Int) (n : Nat) (j : Nat) : Ed := ((n46 ns j % n).toNat, (n46 ns j / n % n).toNat, w46 ns j)
def law46 : FnD := fnAt PySem.Challenge.pw_k21_0046 17
abbrev X46 : List Str := ["script", "n", "edges", "j", "ends", "w", "kept"]
abbrev R46 (ns : List Int) (n : Nat) (es : List Ed) (o1 o2 o3 o4 : Option Slot) : Rho := [some ⟨.sh, .list (ns.map .int)⟩, some ⟨.sh, .int n⟩, some ⟨.ow, .list (es.map encE)⟩, o1, o2, o3, o4]
theorem law46_fn {c : Cx} (C : CxOk c) (BM : BMok c) (HT : HasTab c two46) (Blen : Bi c "len" (.builtin "len")) (Brange : Bi c "range" (.type "range")) (Blist : Bi c "list" (.type "list")) (Bsum : Bi c "sum" (.builtin "sum")) (Babs : Bi c "abs" (.builtin "abs")) (Bsorted : Bi c "sorted" (.builtin "sorted"))
    (stBef : Stands c bef46) (stPus : Stands c pus46) (stPop : Stands c pop46) (stHs : Stands c hst46) (stMk : Stands c smk46) (stFd : Stands c sfd46) (stUn : Stands c sun46) (stNei : Stands c nei46) (stBth : Stands c bth46) (stBw : Stands c bwt46) (stKr : Stands c kru46) (stPr : Stands c pri46) (stTwo : Stands c two46) (stCell : Stands c cell46) (stLig : Stands c lig46)
    {ns : List Int} (hns : ns.length ≤ 63) : Fn c 7 law46 [.list (ns.map .int)] (.bool true) true := by
  obtain ⟨n, hN⟩ : ∃ n : Nat, cellD ns 0 (7 * 0 + 4) % 6 = (n : Int) := ⟨(cellD ns 0 (7 * 0 + 4) % 6).toNat, by omega⟩
  have hn5 : n ≤ 5 := by omega
  obtain ⟨m, hM⟩ : ∃ m : Nat, cellD ns 1 (7 * 1 + 4) % 7 = (m : Int) := ⟨(cellD ns 1 (7 * 1 + 4) % 7).toNat, by omega⟩
  have hm6 : m ≤ 6 := by omega
  refine fn_go ["script"] X46.tail X46 C ?_ rfl (by decide +kernel) (by decide +kernel) rfl rfl rfl [some ⟨.sh, .list (ns.map .int)⟩, none, none, none, none, none, none] ?_
  · intro pm cd doc vals hv
    match vals, hv with | [a], _ => rfl
  walk_at "m:enter"
  rename_i FS
  refine s_asg (sk := .sh) FS (Ev.cast (d' := .int n) (ev_mod (ev_call C stCell rfl (evl_w (ev_name_w (by walk_at "m:at")) (evl_w ev_int evl_nilU)) (cell46_fn C Blen hns (by decide)) (Nat.le_of_ble_eq_true rfl)) ev_int (by decide)) (by rw [hN])) (.flat rfl) (by walk_at "m:up") ?_
  clear hN
  refine s_asg (sk := .ow) FS (Ev.cast (d' := .list (([] : List Ed).map encE)) (ev_list (k := .fr) evl_nil) rfl) .fr (by walk_at "m:up") ?_
  refine s_whenc (fun ρ => ∃ es o1 o2 o3 o4, es.length ≤ 6 ∧ (∀ e ∈ es, e.1 < n ∧ e.2.1 < n) ∧ ρ = R46 ns n es o1 o2 o3 o4) (tst_cmp (ev_name_w (by walk_at "m:at")) ev_int cmp_gt) (fun h => ?_) (fun h => ⟨[], _, _, _, _, by simp, nofun, rfl⟩) ?_
  · have hnI : (0 : Int) < n := by simpa using h
    have he46 : ∀ j, (e46 ns n j).1 < n ∧ (e46 ns n j).2.1 < n := fun j => by
      have a1 := Int.emod_nonneg (n46 ns j) (b := (n : Int)) (by omega)
      have a2 := Int.emod_lt_of_pos (n46 ns j) hnI
      have b1 := Int.emod_nonneg (n46 ns j / n) (b := (n : Int)) (by omega)
      have b2 := Int.emod_lt_of_pos (n46 ns j / n) hnI
      simp only [e46]; omega
    refine s_forN (n := m) FS (by walk_at "m:up") (it_range1 C Brange rfl (Ev.cast (d' := .int m) (ev_mod (ev_call C stCell rfl (evl_w (ev_name_w (by walk_at "m:at")) (evl_w ev_int evl_nilU)) (cell46_fn C Blen hns (by decide)) (Nat.le_of_ble_eq_true rfl)) ev_int (by decide)) (by rw [hM])) (by omega) (by omega))
      (fun j ρ => ∃ o1 o2 o3, ρ = R46 ns n ((List.range j).map (e46 ns n)) o1 o2 o3 none) ⟨_, _, _, rfl⟩ ?_ ?_
    · rintro j ρ' hj ⟨o1, o2, o3, rfl⟩
      clear hM
      refine ⟨_, by walk_at "m:up", ?_⟩
      refine s_asg (sk := .lo) FS (Ev.cast (d' := .int (n46 ns j)) (ev_call C stCell rfl (evl_w (ev_name_w (by walk_at "m:at")) (evl_w (ev_add ev_int (ev_mul ev_int (ev_name_w (by walk_at "m:at")) (mulOkL (by omega) (by omega)))) evl_nilU)) (cell46_fn C Blen hns (by omega)) (Nat.le_of_ble_eq_true rfl)) rfl) (.flat rfl) (by walk_at "m:up") ?_
      refine s_asg (sk := .lo) FS (ev_vcall1 (.inl ⟨_, rfl⟩) C Babs rfl (ev_call C stCell rfl (evl_w (ev_name_w (by walk_at "m:at")) (evl_w (ev_add ev_int (ev_mul ev_int (ev_name_w (by walk_at "m:at")) (mulOkL (by omega) (by omega)))) evl_nilU)) (cell46_fn C Blen hns (by omega)) (Nat.le_of_ble_eq_true rfl)) vc_abs) (.flat rfl) (by walk_at "m:up") ?_
      refine s_whenc (fun ρ => ρ = R46 ns n ((List.range j).map (e46 ns n)) (some ⟨.lo, .int (j : Int)⟩) (some ⟨.lo, .int (n46 ns j)⟩) (some ⟨.lo, .int (w46 ns j)⟩) none) (tst_cmp (ev_mod (ev_call C stCell rfl (evl_w (ev_name_w (by walk_at "m:at")) (evl_w ev_int evl_nilU)) (cell46_fn C Blen hns (by decide)) (Nat.le_of_ble_eq_true rfl)) ev_int (by decide)) ev_int cmp_eq) (fun h => ?_) (fun h => ?_) ?_
      · have h : cellD ns 2 (7 * 2 + 4) % 2 = 0 := by simpa using h
        refine s_asg (sk := .lo) FS (ev_mod (ev_name_w (by walk_at "m:at")) ev_int (by decide)) (.flat rfl) (by walk_at "m:up") (s_end ?_)
        show _ = _
        rw [w46, if_pos h]
      · have h : ¬ cellD ns 2 (7 * 2 + 4) % 2 = 0 := by simpa using h
        rw [w46, if_neg h]
      rintro _ rfl
      have a1 := Int.emod_nonneg (n46 ns j) (b := (n : Int)) (by omega)
      have b1 := Int.emod_nonneg (n46 ns j / n) (b := (n : Int)) (by omega)
      refine s_append FS (by walk_at "m:at") (Ev.cast (d' := encE (e46 ns n j)) (ev_tuple (evl_w (ev_mod (ev_name_w (by walk_at "m:at")) (ev_name_w (by walk_at "m:at")) hnI) (evl_w (ev_mod (ev_fdiv (ev_name_w (by walk_at "m:at")) (ev_name_w (by walk_at "m:at")) hnI (by omega)) (ev_name_w (by walk_at "m:at")) hnI) (evl_w (ev_name_w (by walk_at "m:at")) evl_nilU))) (Nat.le_of_ble_eq_true rfl)) ?_) (.inr rfl) (by simp [sizeLine]; omega) (by walk_at "m:up") (s_end ?_)
      · show PyData.tuple [_, _, _] = PyData.tuple [_, _, _]
        simp only [e46]
        rw [Int.toNat_of_nonneg a1, Int.toNat_of_nonneg b1]
      · exact ⟨_, _, _, by rw [List.range_succ, List.map_append]; unfold R46; rw [List.map_append]; rfl⟩
    · rintro ρ' ⟨o1, o2, o3, rfl⟩
      refine s_end ⟨_, _, _, _, _, by simpa using hm6, fun e he => ?_, rfl⟩
      obtain ⟨i, _, rfl⟩ := List.mem_map.mp he
      exact he46 i
  rintro _ ⟨es, o1, o2, o3, o4, hl, hes, rfl⟩
  refine s_comp (ls := es) (enc := encE) (p := fun _ => true) (g := fun e => encE e) .lo FS HasCells.nil [] [] [] []
    (it_list (ev_name_w (by walk_at "m:at"))) (.flat (flat_map (fun _ => rfl) _) (by decide)) (by simp [sizeLine]; omega) (fun C1 H1 el hel => ifs_nil) (fun C1 H1 e he _ => Ev.ofFlat (ev_name_w (by walk_at "m:at")) rfl) (by walk_at "m:up") ?_
  rw [filter_tt]
  refine s_when (tst_cmp (ev_call C stTwo rfl (evl_w (ev_name_w (by walk_at "m:at")) (evl_w (ev_name_w (by walk_at "m:at")) evl_nilU)) (two46_fn C BM HT Blen Brange Blist Bsum stBef stPus stPop stHs stMk stFd stUn stNei stBth stBw stKr stPr hn5 hl hes) (Nat.le_of_ble_eq_true rfl)) ev_bool cmp_isnot_bool) (fun h => ?_) (fun _ => ?_)
  · cases h
  refine s_when (tst_cmp (ev_name_w (by walk_at "m:at")) (ev_name_w (by walk_at "m:at")) (cmp_nev (Sm.shaped (n := 2) Sm.edges) (Sm.shaped (n := 2) Sm.edges))) (fun h => ?_) (fun _ => ?_)
  · rw [Sm.eqv (n := 2) Sm.edges] at h; cases h
  refine s_when (tst_cmp (ev_call C stPr rfl (evl_w (ev_name_w (by walk_at "m:at")) (evl_w (ev_name_w (by walk_at "m:at")) evl_nilU)) (pri46_fn C Blen Brange Blist stBef stPus stPop stNei stBth hn5 hl hes (l46_le hl) (l46_mem hl)) (Nat.le_of_ble_eq_true rfl)) (ev_call C stLig rfl (evl_w (ev_name_w (by walk_at "m:at")) (evl_w (ev_name_w (by walk_at "m:at")) evl_nilU)) (lig46_fn C Brange Blist Bsorted hn5 hl hes) (Nat.le_of_ble_eq_true rfl)) cmp_ne) (fun h => ?_) (fun _ => ?_)
  · exfalso; simp at h
  exact s_ret (u := true) ev_bool ⟨rfl, fun _ => rfl⟩ (.inl rfl)
end Mine

open PySem PySem.W PySem.Spec PyProof.Rows
set_option maxRecDepth 100000 in
set_option maxHeartbeats 8000000 in
open_top Mine.hd46 for PySem.Challenge.rw_k21_0046
set_option maxRecDepth 100000 in
set_option maxHeartbeats 8000000 in
theorem PySem.Challenge.cw_k21_0046_holds : PySem.Challenge.rw_k21_0046.Holds := by
  refine Mine.hd46 ?_
  intro w s₀ s₁ mg mb G Y fa o pm cd doc dV kV ho hd hcd hD hmg hg args vals as hpre hlay hrd hwl hlo
  clear Y hD
  refine Ground.open G ?_
  intro T B D TE TW
  clear B D TE TW
  wrow_args hpre hlay hrd hwl hlo
  rename_i ns _ _ _ _ _ as' _ a vs _ _ _ _ r0 _ _ hlen _
  have hl : ns.length ≤ 63 := by omega
  refine Mine.law_endM T hg hmg 15 rfl 12 rfl (fun P hP HT => Mine.law46_fn (Mine.cxOkG T hP) (Mine.bmG T hP) HT (Mine.biG T rfl (by decide) (by decide +kernel)) (Mine.biG T rfl (by decide) (by decide +kernel)) (Mine.biG T rfl (by decide) (by decide +kernel)) (Mine.biG T rfl (by decide) (by decide +kernel)) (Mine.biG T rfl (by decide) (by decide +kernel)) (Mine.biG T rfl (by decide) (by decide +kernel)) (Mine.standsM T hP 0 rfl) (Mine.standsM T hP 1 rfl) (Mine.standsM T hP 2 rfl) (Mine.standsM T hP 3 rfl) (Mine.standsM T hP 4 rfl) (Mine.standsM T hP 5 rfl) (Mine.standsM T hP 6 rfl) (Mine.standsM T hP 7 rfl) (Mine.standsM T hP 8 rfl) (Mine.standsM T hP 9 rfl) (Mine.standsM T hP 10 rfl) (Mine.standsM T hP 11 rfl) (Mine.standsM T hP 12 rfl) (Mine.standsM T hP 13 rfl) (Mine.standsM T hP 14 rfl) hl) (by decide) (.cons (Mine.reads_il r0) .nil) ?_ ?_
  · intro c; rfl
  · wrow_post

