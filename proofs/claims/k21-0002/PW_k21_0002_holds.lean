import PyProof.Rows.All
import Wide.All
import OpenK.AllK
import Wide.FinOn
import PySem.Challenge.RW_k21_0002
set_option Elab.async false
set_option linter.unusedVariables false
namespace Mine
open PySem PySem.Spec PySem.Calls PyProof.Rows

/-! the context of a law's run -/
structure Cx where
  prog : Program
  w : World
  hB : Heap
  X : Addr → Prop
  mg : Str → Option Value
  mb : Str → Option Value
  os : OsState

abbrev Cx.M (c : Cx) : Model := model c.prog c.w

structure Up (X : Addr → Prop) (h h' : Heap) : Prop where
  kp : ∀ b o, ¬ X b → h.get? b = some o → h'.get? b = some o
  th : ∀ b o, h.get? b = some o → ∃ o', h'.get? b = some o'

theorem Up.refl (X : Addr → Prop) (h : Heap) : Up X h h := ⟨fun _ _ _ e => e, fun _ o e => ⟨o, e⟩⟩
theorem Up.of {X : Addr → Prop} {h h' : Heap} (k : ∀ b o, h.get? b = some o → h'.get? b = some o) : Up X h h' :=
  ⟨fun b o _ e => k b o e, fun b o e => ⟨o, k b o e⟩⟩
theorem Up.trans {X : Addr → Prop} {h h' h'' : Heap} (a : Up X h h') (b : Up X h' h'') : Up X h h'' :=
  ⟨fun x o n e => b.kp x o n (a.kp x o n e), fun x o e => let ⟨_, e'⟩ := a.th x o e; b.th x _ e'⟩
theorem Up.none {X : Addr → Prop} {h h' : Heap} (u : Up X h h') {a : Addr} (e : h'.get? a = none) : h.get? a = none := by
  cases q : h.get? a with
  | none => rfl
  | some o => obtain ⟨o', e'⟩ := u.th a o q; rw [e] at e'; cases e'

structure Wf (c : Cx) (s : Shared) : Prop where
  base : ∀ b o, ¬ c.X b → c.hB.get? b = some o → s.heap.get? b = some o
  tab : ∀ b, c.X b → ∃ ps : { a : Array Value // TriplesOk a.toList }, s.heap.get? b = some { cls := .none, data := .fields ps.1 }
  old : OldK c.hB s.heap
  gens : AllBare s.gens
  os : s.os = c.os

structure Ext (c : Cx) (s s' : Shared) : Prop where
  up : Up c.X s.heap s'.heap
  wf : Wf c s'

theorem Ext.refl {c : Cx} {s : Shared} (W : Wf c s) : Ext c s s := ⟨Up.refl _ _, W⟩
theorem Ext.trans {c : Cx} {s s' s'' : Shared} (a : Ext c s s') (b : Ext c s' s'') : Ext c s s'' := ⟨a.up.trans b.up, b.wf⟩
theorem Wf.keeps {c : Cx} {s s' : Shared} (W : Wf c s) (hk : ∀ b o, s.heap.get? b = some o → s'.heap.get? b = some o) (hg : s'.gens = s.gens) (ho : s'.os = s.os) : Wf c s' where
  base := fun b o n e => hk b o (W.base b o n e)
  tab := fun b x => let ⟨ps, e⟩ := W.tab b x; ⟨ps, hk _ _ e⟩
  old := W.old.step_keeps hk
  gens := hg ▸ W.gens
  os := ho.trans W.os
theorem Ext.of {c : Cx} {s s' : Shared} (W : Wf c s) (hk : ∀ b o, s.heap.get? b = some o → s'.heap.get? b = some o) (hg : s'.gens = s.gens := by rfl) (ho : s'.os = s.os := by rfl) : Ext c s s' :=
  ⟨Up.of hk, W.keeps hk hg ho⟩
theorem Ext.keeps {c : Cx} {s s' : Shared} (W : Wf c s) (k : Keeps s s') : Ext c s s' := by
  obtain ⟨h', tk, rfl, hk⟩ := k
  exact Ext.of W hk
theorem Ext.toks {c : Cx} {s : Shared} (W : Wf c s) (tk : Nat) : Ext c s { s with toks := tk } := Ext.of W fun _ _ e => e
theorem Ext.push {c : Cx} {s : Shared} (W : Wf c s) (o : Obj) (tk : Nat) : Ext c s { s with heap := s.heap.push o, toks := tk } :=
  Ext.of W fun _ _ e => Heap.get?_push_of_some o e

/-! a change at one address that the base does not know -/
theorem oldK_same {h₀ h h' : Heap} (K : OldK h₀ h) {a : Addr} (ha : h₀.get? a = none) (hs : ∀ b, b ≠ a → h'.get? b = h.get? b) : OldK h₀ h' := by
  have ne : ∀ b o, h₀.get? b = some o → b ≠ a := fun b o e q => by rw [q, ha] at e; cases e
  refine ⟨fun b o e => ?_, fun b o e => let ⟨o', ho'⟩ := K.there b o e; ⟨o', (hs b (ne b o e)).trans ho'⟩⟩
  rcases K.old b o e with x | ⟨t, hc, vs, more, hv, x⟩ | ⟨rfl, hc, ⟨o', es, n, ho', r⟩, z⟩
  · exact .inl ((hs b (ne b o e)).trans x)
  · exact .inr (.inl ⟨t, hc, vs, more, hv, (hs b (ne b o e)).trans x⟩)
  · exact .inr (.inr ⟨rfl, hc, ⟨o', es, n, (hs _ (ne _ o e)).trans ho', r⟩, fun key => by rw [OldK.staticOf_congr (hs _ (ne _ o e)) key]; exact z key⟩)

theorem Wf.sameBut {c : Cx} {s : Shared} {h' : Heap} {a : Addr} {tk : Nat} (W : Wf c s) (hs : Heap.SameBut a s.heap h') (ha : c.hB.get? a = none) (hX : ¬ c.X a) : Wf c { s with heap := h', toks := tk } where
  base := fun b o n e => (hs.2 b (fun q => by rw [q, ha] at e; cases e)).trans (W.base b o n e)
  tab := fun b x => let ⟨ps, e⟩ := W.tab b x; ⟨ps, (hs.2 b (fun q => hX (q ▸ x))).trans e⟩
  old := oldK_same W.old ha hs.2
  gens := W.gens
  os := W.os

/-! data in the heap, as the library's Reads, but a dict (of tuples of ints to ints) with its hashes -/
mutual
inductive Reads (h : Heap) : Value → PyData → List Addr → Prop
  | none : Reads h .none .none []
  | bool (b) : Reads h (.bool b) (.bool b) []
  | int (i t) : Reads h (.int i t) (.int i) []
  | str (x t) : Reads h (.str x t) (.str x) []
  | list {a o vs n xs as} : h.get? a = some o → o.cls = .type "list" → o.data = .seq vs n → ReadsAll h vs.toList xs as → Reads h (.ref a) (.list xs) (a :: as)
  | tuple {a o vs n xs as} : h.get? a = some o → o.cls = .type "tuple" → o.data = .seq vs n → ReadsAll h vs.toList xs as → Reads h (.ref a) (.tuple xs) as
  | dict {a : Addr} {o es n} {xs : List (List Int × Addr × Value)} {ps : List (List Int × Int)} : h.get? a = some o → o.cls = .type "dict" → o.data = .dict es n → (a == sysModules) = false → (∀ prog w, h.DictOfH (tupleKind (intKind prog w)) a xs) → xs.map (·.1) = ps.map (·.1) →
      (∀ (j : Nat) x p, xs[j]? = some x → ps[j]? = some p → ∃ t, x.2.2 = .int p.2 t) → Reads h (.ref a) (.dict (ps.map fun p => (.tuple (p.1.map .int), .int p.2))) [a]
  | dictL {a : Addr} {o es n} {kvs : List (Int × Value)} {ps : List (Int × List Int)} {as} : h.get? a = some o → o.cls = .type "dict" → o.data = .dict es n → (a == sysModules) = false → (∀ prog w, h.DictOf (intKind prog w) a kvs) → kvs.map (·.1) = ps.map (·.1) →
      ReadsAll h (kvs.map (·.2)) (ps.map fun p => .list (p.2.map .int)) as → Reads h (.ref a) (.dict (ps.map fun p => (.int p.1, .list (p.2.map .int)))) (a :: as)
  | flt (b : UInt64) (t : Tok) : Reads h (.float b t) (.dict [(.none, .int b.toNat)]) []
inductive ReadsAll (h : Heap) : List Value → List PyData → List Addr → Prop
  | nil : ReadsAll h [] [] []
  | cons {v vs d ds as bs} : Reads h v d as → ReadsAll h vs ds bs → ReadsAll h (v :: vs) (d :: ds) (as ++ bs)
end
/-- the datum of a float -/
abbrev fltD (b : UInt64) : PyData := .dict [(.none, .int b.toNat)]
def isFlt : List (PyData × PyData) → Bool
  | [(.none, .int _)] => true
  | _ => false
theorem isFlt_t (ps : List (List Int × Int)) : isFlt (ps.map fun p => (.tuple (p.1.map .int), .int p.2)) = false := by
  cases ps with
  | nil => rfl
  | cons p ps => cases ps <;> rfl
theorem isFlt_l (ps : List (Int × List Int)) : isFlt (ps.map fun p => (.int p.1, .list (p.2.map .int))) = false := by
  cases ps with
  | nil => rfl
  | cons p ps => cases ps <;> rfl
mutual
theorem Reads.lib {h : Heap} {v : Value} {d : PyData} {as : List Addr} (r : Reads h v d as) (hc : d.canLay0 = true) : PySem.Reads h v d as :=
  match r with
  | .none => .none
  | .bool b => .bool b
  | .int i t => .int i t
  | .str x t => .str x t
  | .list h1 h2 h3 h4 => .list h1 h2 h3 (ReadsAll.lib h4 (by simpa [PyData.canLay0] using hc))
  | .tuple h1 h2 h3 h4 => .tuple h1 h2 h3 (ReadsAll.lib h4 (by simpa [PyData.canLay0] using hc))
  | .dict .. => by simp [PyData.canLay0] at hc
  | .dictL .. => by simp [PyData.canLay0] at hc
  | .flt .. => by simp [PyData.canLay0] at hc
theorem ReadsAll.lib {h : Heap} {vs : List Value} {ds : List PyData} {as : List Addr} (r : ReadsAll h vs ds as) (hc : PyData.canLayAll0 ds = true) : PySem.ReadsAll h vs ds as :=
  match r with
  | .nil => .nil
  | .cons h1 h2 => by
    simp only [PyData.canLayAll0, Bool.and_eq_true] at hc
    exact .cons (Reads.lib h1 hc.1) (ReadsAll.lib h2 hc.2)
end
theorem reads_ints {h : Heap} : ∀ {vs : List Value} {ns : List Int} {as : List Addr}, PySem.ReadsAll h vs (ns.map .int) as → ReadsAll h vs (ns.map .int) as
  | _, [], _, r => by cases r; exact .nil
  | _, n :: ns, _, r => by
    cases r with | cons r1 r2 => cases r1; exact .cons (.int _ _) (reads_ints r2)
theorem reads_il {h : Heap} {v : Value} {ns : List Int} {as : List Addr} (r : PySem.Reads h v (.list (ns.map .int)) as) : Reads h v (.list (ns.map .int)) as := by
  cases r with | list h1 h2 h3 h4 => exact .list h1 h2 h3 (reads_ints h4)
/-! the relation Reads under changes -/
def Plainish (o : Obj) : Prop := (o.cls = .type "tuple" ∨ o.cls = .type "list" ∨ o.cls = .type "dict")
mutual
theorem reads_upon {h h' : Heap} {v : Value} {d : PyData} {as : List Addr} (r : Reads h v d as)
    (hl : ∀ a ∈ as, ∀ o, h.get? a = some o → Plainish o → h'.get? a = some o)
    (ht : ∀ a o, h.get? a = some o → o.cls = .type "tuple" → (∃ vs n, o.data = .seq vs n) → h'.get? a = some o) : Reads h' v d as :=
  match r with
  | .none => .none
  | .bool b => .bool b
  | .int i t => .int i t
  | .str x t => .str x t
  | .list h1 h2 h3 h4 => .list (hl _ (List.mem_cons_self ..) _ h1 (.inr (.inl h2))) h2 h3 (readsAll_upon h4 (fun a ha => hl a (List.mem_cons_of_mem _ ha)) ht)
  | .tuple h1 h2 h3 h4 => .tuple (ht _ _ h1 h2 ⟨_, _, h3⟩) h2 h3 (readsAll_upon h4 hl ht)
  | .dict k1 k2 k3 h0 h1 h2 h3 => .dict (hl _ (List.mem_cons_self ..) _ k1 (.inr (.inr k2))) k2 k3 h0 (fun prog w => by
      obtain ⟨o, es, ep, g1, g2, g3, g4, g5, g6⟩ := h1 prog w
      refine ⟨o, es, ep, hl _ (List.mem_cons_self ..) _ g1 (.inr (.inr g2.1)), g2, g3, g4, fun x hx => ?_, g6⟩
      obtain ⟨o', items, n, k1, k2, k3, k4⟩ := g5 x hx
      exact ⟨o', items, n, ht _ _ k1 k2 ⟨_, _, k3⟩, k2, k3, k4⟩) h2 h3
  | .dictL k1 k2 k3 h0 h1 h2 h3 => .dictL (hl _ (List.mem_cons_self ..) _ k1 (.inr (.inr k2))) k2 k3 h0 (fun prog w => by
      obtain ⟨o, es, ep, g1, g2, g3, g4⟩ := h1 prog w
      exact ⟨o, es, ep, hl _ (List.mem_cons_self ..) _ g1 (.inr (.inr g2.1)), g2, g3, g4⟩) h2 (readsAll_upon h3 (fun a ha => hl a (List.mem_cons_of_mem _ ha)) ht)
  | .flt b t => .flt b t
theorem readsAll_upon {h h' : Heap} {vs : List Value} {ds : List PyData} {as : List Addr} (r : ReadsAll h vs ds as)
    (hl : ∀ a ∈ as, ∀ o, h.get? a = some o → Plainish o → h'.get? a = some o)
    (ht : ∀ a o, h.get? a = some o → o.cls = .type "tuple" → (∃ vs n, o.data = .seq vs n) → h'.get? a = some o) : ReadsAll h' vs ds as :=
  match r with
  | .nil => .nil
  | .cons h1 h2 => .cons (reads_upon h1 (fun a ha => hl a (List.mem_append_left _ ha)) ht) (readsAll_upon h2 (fun a ha => hl a (List.mem_append_right _ ha)) ht)
end
theorem not_tab {c : Cx} {s : Shared} (W : Wf c s) {a : Addr} {o : Obj} (e : s.heap.get? a = some o) (hc : o.cls ≠ .none) : ¬ c.X a := fun x => by
  obtain ⟨ps, q⟩ := W.tab a x
  rw [q] at e; cases e; exact hc rfl
theorem plainish_cls {o : Obj} (p : Plainish o) : o.cls ≠ .none := by
  rcases p with q | q | q <;> rw [q] <;> nofun
theorem Ext.reads {c : Cx} {s s' : Shared} {v : Value} {d : PyData} {as : List Addr} (W : Wf c s) (x : Ext c s s') (r : Reads s.heap v d as) : Reads s'.heap v d as :=
  reads_upon r (fun a _ o e p => x.up.kp a o (not_tab W e (plainish_cls p)) e) (fun a o e p _ => x.up.kp a o (not_tab W e (by rw [p]; nofun)) e)
theorem Ext.readsAll {c : Cx} {s s' : Shared} {vs : List Value} {ds : List PyData} {as : List Addr} (W : Wf c s) (x : Ext c s s') (r : ReadsAll s.heap vs ds as) : ReadsAll s'.heap vs ds as :=
  readsAll_upon r (fun a _ o e p => x.up.kp a o (not_tab W e (plainish_cls p)) e) (fun a o e p _ => x.up.kp a o (not_tab W e (by rw [p]; nofun)) e)

/-! every object of a footprint is a list or a dict -/
def ListOrDict (o : Obj) : Prop := (o.cls = .type "list" ∧ ∃ vs n, o.data = .seq vs n) ∨ (o.cls = .type "dict" ∧ ∃ es n, o.data = .dict es n)
mutual
theorem reads_objs {h : Heap} {v : Value} {d : PyData} {as : List Addr} (r : Reads h v d as) : ∀ a ∈ as, ∃ o, h.get? a = some o ∧ ListOrDict o :=
  match r with
  | .none => nofun
  | .bool _ => nofun
  | .int _ _ => nofun
  | .str _ _ => nofun
  | .list h1 h2 h3 h4 => fun a ha => (List.mem_cons.mp ha).elim (fun e => e ▸ ⟨_, h1, .inl ⟨h2, _, _, h3⟩⟩) (readsAll_objs h4 a)
  | .tuple _ _ _ h4 => readsAll_objs h4
  | .dict h1 h2 h3 _ _ _ _ => fun a ha => (List.mem_singleton.mp ha) ▸ ⟨_, h1, .inr ⟨h2, _, _, h3⟩⟩
  | .dictL h1 h2 h3 _ _ _ h4 => fun a ha => (List.mem_cons.mp ha).elim (fun e => e ▸ ⟨_, h1, .inr ⟨h2, _, _, h3⟩⟩) (readsAll_objs h4 a)
  | .flt _ _ => nofun
theorem readsAll_objs {h : Heap} {vs : List Value} {ds : List PyData} {as : List Addr} (r : ReadsAll h vs ds as) : ∀ a ∈ as, ∃ o, h.get? a = some o ∧ ListOrDict o :=
  match r with
  | .nil => nofun
  | .cons h1 h2 => fun a ha => (List.mem_append.mp ha).elim (reads_objs h1 a) (readsAll_objs h2 a)
end

def Pl (h : Heap) (a : Addr) : Prop := ∃ o, h.get? a = some o ∧ ListOrDict o ∧ o.dict = none ∧ o.slots = #[]
theorem Pl.ext {c : Cx} {s s' : Shared} {a : Addr} (W : Wf c s) (x : Ext c s s') (p : Pl s.heap a) : Pl s'.heap a :=
  let ⟨o, e, l, q⟩ := p
  ⟨o, x.up.kp a o (not_tab W e (by rcases l with ⟨q, _⟩ | ⟨q, _⟩ <;> rw [q] <;> nofun)) e, l, q⟩

/-! flat data: no list, no dict within -/
mutual
def flat : PyData → Bool
  | .none | .bool _ | .int _ | .str _ => true
  | .list _ => false
  | .dict kvs => isFlt kvs
  | .tuple xs => flats xs
def flats : List PyData → Bool
  | [] => true
  | x :: r => flat x && flats r
end
mutual
theorem reads_flat {h : Heap} {v : Value} {d : PyData} {as : List Addr} (r : Reads h v d as) (hf : flat d = true) : as = [] :=
  match r with
  | .none => rfl
  | .bool _ => rfl
  | .int _ _ => rfl
  | .str _ _ => rfl
  | .list .. => by simp [flat] at hf
  | .tuple _ _ _ h4 => readsAll_flat h4 (by simpa [flat] using hf)
  | .dict .. => by simp only [flat, isFlt_t] at hf; cases hf
  | .dictL .. => by simp only [flat, isFlt_l] at hf; cases hf
  | .flt _ _ => rfl
theorem readsAll_flat {h : Heap} {vs : List Value} {ds : List PyData} {as : List Addr} (r : ReadsAll h vs ds as) (hf : flats ds = true) : as = [] :=
  match r with
  | .nil => rfl
  | .cons h1 h2 => by
    simp only [flats, Bool.and_eq_true] at hf
    rw [reads_flat h1 hf.1, readsAll_flat h2 hf.2]; rfl
end

end Mine

namespace Mine
open PySem PySem.Spec PySem.Calls PyProof.Rows

inductive K where
  | sh | lo | ow
  deriving DecidableEq
structure Slot where
  k : K
  d : PyData
abbrev Rho := List (Option Slot)

structure Fm where
  env : Env
  A : Around
  h₀ : Heap
  xs : List Str
  lv : Nat

def Loads (env : Env) (h : Heap) (x : Str) (v : Value) : Prop :=
  (env.kindOf x = some .local ∧ ∃ m, h.Ns env.locals m ∧ m x = some v) ∨
  ((env.kindOf x = some .cell ∨ env.kindOf x = some .free) ∧ ∃ a, env.cells.lookup x = some a ∧ h.IsCell a (some v))

/-- room for n more levels of calls -/
structure Room (n : Nat) (A : Around) : Prop where
  hand : A.handled = none
  depth : A.depth + 10 * n + 10 < recursionLimit
  units : A.units + 100 * n + 200 < cLine
  guards : A.guards = some []

structure FmOk (c : Cx) (f : Fm) : Prop where
  kind : f.env.scope.kind = .function
  glob : f.env.globals = mainGlobals
  bi : f.env.builtins = builtinsNs
  room : Room f.lv f.A
  base : Up c.X c.hB f.h₀

structure St (c : Cx) (f : Fm) (ρ : Rho) (mo : Addr → Prop) (val : Nat → Value) (fp : Nat → List Addr) (s : Shared) : Prop where
  wf : Wf c s
  ok : FmOk c f
  keep : Up c.X f.h₀ s.heap
  ns : ∃ m, s.heap.Ns f.env.locals m
  cells : ∀ x a, f.env.cells.lookup x = some a → ∃ v, s.heap.IsCell a v
  var : ∀ i sl, ρ[i]? = some (some sl) → ∃ x, f.xs[i]? = some x ∧ Loads f.env s.heap x (val i) ∧ Reads s.heap (val i) sl.d (fp i)
  own : ∀ i sl, ρ[i]? = some (some sl) → sl.k = .ow → (fp i).Nodup ∧ ∀ a ∈ fp i, mo a
  shr : ∀ i sl, ρ[i]? = some (some sl) → sl.k ≠ .ow → ∀ a ∈ fp i, ¬ mo a
  loc : ∀ i sl, ρ[i]? = some (some sl) → sl.k = .lo → ∀ a ∈ fp i, f.h₀.get? a = none
  apart : ∀ i j sl sl', i ≠ j → ρ[i]? = some (some sl) → ρ[j]? = some (some sl') → sl.k = .ow → sl'.k = .ow → ∀ a ∈ fp i, a ∉ fp j
  moNew : ∀ a, mo a → f.h₀.get? a = none
  moPl : ∀ a, mo a → Pl s.heap a
  moL : ¬ mo f.env.locals
  fpL : ∀ i sl, ρ[i]? = some (some sl) → f.env.locals ∉ fp i

theorem St.moIn {c : Cx} {f : Fm} {ρ : Rho} {mo : Addr → Prop} {val : Nat → Value} {fp : Nat → List Addr} {s : Shared} (S : St c f ρ mo val fp s) (a : Addr) (h : mo a) : ∃ o, s.heap.get? a = some o ∧ ListOrDict o :=
  let ⟨o, e, l, _⟩ := S.moPl a h; ⟨o, e, l⟩
theorem Ns.ext {c : Cx} {s s' : Shared} {a : Addr} {m : Str → Option Value} (W : Wf c s) (x : Ext c s s') (n : s.heap.Ns a m) : s'.heap.Ns a m := by
  obtain ⟨o, es, ep, ho, hd, r⟩ := n
  refine ⟨o, es, ep, x.up.kp a o (fun hx => ?_) ho, hd, r⟩
  obtain ⟨ps, e⟩ := W.tab a hx
  rw [e] at ho; cases ho; cases hd
theorem IsCell.ext {c : Cx} {s s' : Shared} {a : Addr} {v : Option Value} (W : Wf c s) (x : Ext c s s') (n : s.heap.IsCell a v) : s'.heap.IsCell a v := by
  obtain ⟨o, ho, hd⟩ := n
  refine ⟨o, x.up.kp a o (fun hx => ?_) ho, hd⟩
  obtain ⟨ps, e⟩ := W.tab a hx
  rw [e] at ho; cases ho; cases hd
theorem Loads.ext {c : Cx} {s s' : Shared} {env : Env} {y : Str} {v : Value} (W : Wf c s) (x : Ext c s s') (n : Loads env s.heap y v) : Loads env s'.heap y v := by
  rcases n with ⟨hk, m, hn, hm⟩ | ⟨hk, a, ha, hc⟩
  · exact .inl ⟨hk, m, Ns.ext W x hn, hm⟩
  · exact .inr ⟨hk, a, ha, IsCell.ext W x hc⟩
theorem listOrDict_ext {c : Cx} {s s' : Shared} {a : Addr} {o : Obj} (W : Wf c s) (x : Ext c s s') (e : s.heap.get? a = some o) (p : ListOrDict o) : s'.heap.get? a = some o :=
  x.up.kp a o (not_tab W e (by rcases p with ⟨q, _⟩ | ⟨q, _⟩ <;> rw [q] <;> nofun)) e

theorem St.ext {c : Cx} {f : Fm} {ρ : Rho} {mo : Addr → Prop} {val : Nat → Value} {fp : Nat → List Addr} {s s' : Shared} (S : St c f ρ mo val fp s) (x : Ext c s s') : St c f ρ mo val fp s' where
  wf := x.wf
  ok := S.ok
  keep := S.keep.trans x.up
  ns := let ⟨m, n⟩ := S.ns; ⟨m, Ns.ext S.wf x n⟩
  cells := fun y a e => let ⟨v, n⟩ := S.cells y a e; ⟨v, IsCell.ext S.wf x n⟩
  var := fun i sl e => let ⟨y, h1, h2, h3⟩ := S.var i sl e; ⟨y, h1, h2.ext S.wf x, x.reads S.wf h3⟩
  own := S.own
  shr := S.shr
  loc := S.loc
  apart := S.apart
  moNew := S.moNew
  moPl := fun a h => (S.moPl a h).ext S.wf x
  moL := S.moL
  fpL := S.fpL

/-! kinds of results -/
inductive EK where
  | w | sh | lo | fr
  | us (is : List Nat)

def KOk0 (f : Fm) (mo : Addr → Prop) (fp : Nat → List Addr) (h h' : Heap) : EK → List Addr → Prop
  | .w, _ => True
  | .sh, as => ∀ a ∈ as, ¬ mo a
  | .lo, as => ∀ a ∈ as, ¬ mo a ∧ f.h₀.get? a = none
  | .fr, as => as.Nodup ∧ (∀ a ∈ as, h.get? a = none) ∧ ∀ a ∈ as, Pl h' a
  | .us is, as => as = is.flatMap fp
def KOk (f : Fm) (mo : Addr → Prop) (fp : Nat → List Addr) (h h' : Heap) (k : EK) (as : List Addr) : Prop := f.env.locals ∉ as ∧ KOk0 f mo fp h h' k as

def Ev (c : Cx) (f : Fm) (ρ : Rho) (e : Expr) (d : PyData) (k : EK) : Prop :=
  ∀ mo val fp s E, St c f ρ mo val fp s → wpAny c.M f.A (eval e f.env) (fun v s' => Ext c s s' ∧ ∃ as, Reads s'.heap v d as ∧ KOk f mo fp s.heap s'.heap k as) E s

section
variable {c : Cx} {f : Fm} {ρ : Rho} {mo : Addr → Prop} {val : Nat → Value} {fp : Nat → List Addr} {s : Shared} {E : Value → Shared → Prop} {e : Expr} {d : PyData} {k : EK}

theorem Ev.bind {Q : Value → Shared → Prop} (h : Ev c f ρ e d k) (S : St c f ρ mo val fp s)
    (hn : ∀ v s' as, Ext c s s' → St c f ρ mo val fp s' → Reads s'.heap v d as → KOk f mo fp s.heap s'.heap k as → Q v s') : wpAny c.M f.A (eval e f.env) Q E s :=
  wpAny_mono (h mo val fp s E S) (fun v s' ⟨x, as, r, ko⟩ => hn v s' as x (S.ext x) r ko) fun _ _ z => z

theorem Ev.w (h : Ev c f ρ e d k) : Ev c f ρ e d .w := fun mo val fp s E S => h.bind S fun v s' as x _ r ko => ⟨x, as, r, ko.1, trivial⟩
theorem KOk.nil {h h' : Heap} (hk : ∀ is, k = .us is → is = []) : KOk f mo fp h h' k [] := by
  refine ⟨nofun, ?_⟩
  cases k with
  | w => trivial
  | sh => exact nofun
  | lo => exact nofun
  | fr => exact ⟨.nil, nofun, nofun⟩
  | us is => rw [hk is rfl]; rfl
theorem Ev.ofFlat (h : Ev c f ρ e d k) (hf : flat d = true) : Ev c f ρ e d .fr := fun mo val fp s E S => h.bind S fun v s' as x _ r _ => ⟨x, as, r, by rw [reads_flat r hf]; exact ⟨nofun, .nil, nofun, nofun⟩⟩
theorem Ev.ofFlatU (h : Ev c f ρ e d k) (hf : flat d = true) : Ev c f ρ e d (.us []) := fun mo val fp s E S => h.bind S fun v s' as x _ r _ => ⟨x, as, r, by rw [reads_flat r hf]; exact ⟨nofun, rfl⟩⟩
theorem Ev.ofFlatLo (h : Ev c f ρ e d k) (hf : flat d = true) : Ev c f ρ e d .lo := fun mo val fp s E S => h.bind S fun v s' as x _ r _ => ⟨x, as, r, by rw [reads_flat r hf]; exact ⟨nofun, nofun⟩⟩
theorem KOk.fr_lo (S : St c f ρ mo val fp s) {as : List Addr} {s' : Shared} (h : KOk f mo fp s.heap s'.heap .fr as) : KOk f mo fp s.heap s'.heap .lo as := ⟨h.1, fun a ha => by
  have e := h.2.2.1 a ha
  refine ⟨fun m => ?_, S.keep.none e⟩
  obtain ⟨o, q, _⟩ := S.moIn a m
  rw [e] at q; cases q⟩
theorem frOk (S : St c f ρ mo val fp s) {as : List Addr} {h' : Heap} (h1 : as.Nodup) (h2 : ∀ a ∈ as, s.heap.get? a = none) (h3 : ∀ a ∈ as, Pl h' a) : KOk f mo fp s.heap h' .fr as :=
  ⟨fun h => (by obtain ⟨m, o, _, _, q, _⟩ := S.ns; rw [h2 _ h] at q; cases q), h1, h2, h3⟩
theorem Ev.lo (h : Ev c f ρ e d .fr) : Ev c f ρ e d .lo := fun mo val fp s E S => h.bind S fun v s' as x _ r ko => ⟨x, as, r, KOk.fr_lo S ko⟩
theorem Ev.sh (h : Ev c f ρ e d .lo) : Ev c f ρ e d .sh := fun mo val fp s E S => h.bind S fun v s' as x _ r ko => ⟨x, as, r, ko.1, fun a ha => (ko.2 a ha).1⟩
theorem Ev.cast {d' : PyData} (h : Ev c f ρ e d k) (q : d = d') : Ev c f ρ e d' k := q ▸ h

/-- where a name stands in the frame's list -/
inductive At : List Str → Rho → Str → Slot → Nat → Prop
  | here {x : Str} {xs : List Str} {sl : Slot} {ρ : Rho} : At (x :: xs) (some sl :: ρ) x sl 0
  | there {x y : Str} {xs : List Str} {sl : Slot} {o : Option Slot} {ρ : Rho} {i : Nat} : At xs ρ x sl i → At (y :: xs) (o :: ρ) x sl (i + 1)
theorem At.slot {xs : List Str} {ρ : Rho} {x : Str} {sl : Slot} {i : Nat} (h : At xs ρ x sl i) : ρ[i]? = some (some sl) := by
  induction h with
  | here => rfl
  | there _ ih => simpa using ih
theorem At.name {xs : List Str} {ρ : Rho} {x : Str} {sl : Slot} {i : Nat} (h : At xs ρ x sl i) : xs[i]? = some x := by
  induction h with
  | here => rfl
  | there _ ih => simpa using ih

theorem load_any {x : Str} {v : Value} {Q : Value → Shared → Prop} {env : Env} {M : Model} {A : Around} (hk : env.scope.kind = .function) (l : Loads env s.heap x v) (h : Q v s) (hn : (x == ("__classdict__" : Str)) = false) :
    wpAny M A (loadName env x) Q E s := by
  rcases l with ⟨h1, m, h2, h3⟩ | ⟨h1 | h1, a, h2, h3⟩
  · exact wpAny_loadName_local hk h1 h2 h3 h
  · exact wpAny_loadName_cell hk h1 h2 h3 h
  · exact wpAny_loadName_free hk h1 h2 h3 h hn

theorem name_step {x : Str} {pos : Pos} {sl : Slot} {i : Nat} {Q : Value → Shared → Prop} (S : St c f ρ mo val fp s) (h : At f.xs ρ x sl i) (hq : Reads s.heap (val i) sl.d (fp i) → Q (val i) s)
    (hd : (x == ("__debug__" : Str)) = false) (hn : (x == ("__classdict__" : Str)) = false) : wpAny c.M f.A (eval (.Name x pos) f.env) Q E s := by
  obtain ⟨y, h1, h2, h3⟩ := S.var i sl h.slot
  rw [h.name] at h1; cases h1
  exact wpAny_Name (load_any S.ok.kind h2 (hq h3) hn) hd

/-- a variable, as it lies -/
theorem ev_name_w {x : Str} {pos : Pos} {k : K} {d : PyData} {i : Nat} (h : At f.xs ρ x ⟨k, d⟩ i) (hd : (x == ("__debug__" : Str)) = false := by decide +kernel) (hn : (x == ("__classdict__" : Str)) = false := by decide +kernel) :
    Ev c f ρ (.Name x pos) d .w := fun mo val fp s E S => name_step S h (fun r => ⟨Ext.refl S.wf, fp i, r, S.fpL i _ h.slot, trivial⟩) hd hn
theorem ev_name_us {x : Str} {pos : Pos} {k : K} {d : PyData} {i : Nat} (h : At f.xs ρ x ⟨k, d⟩ i) (hd : (x == ("__debug__" : Str)) = false := by decide +kernel) (hn : (x == ("__classdict__" : Str)) = false := by decide +kernel) :
    Ev c f ρ (.Name x pos) d (.us [i]) := fun mo val fp s E S => name_step S h (fun r => ⟨Ext.refl S.wf, fp i, r, S.fpL i _ h.slot, by simp [KOk0]⟩) hd hn
theorem ev_name_sh {x : Str} {pos : Pos} {d : PyData} {i : Nat} {k : K} (h : At f.xs ρ x ⟨k, d⟩ i) (hk : k ≠ .ow := by decide) (hd : (x == ("__debug__" : Str)) = false := by decide +kernel) (hn : (x == ("__classdict__" : Str)) = false := by decide +kernel) :
    Ev c f ρ (.Name x pos) d .sh := fun mo val fp s E S => name_step S h (fun r => ⟨Ext.refl S.wf, fp i, r, S.fpL i _ h.slot, S.shr i _ h.slot hk⟩) hd hn
theorem ev_name_lo {x : Str} {pos : Pos} {d : PyData} {i : Nat} (h : At f.xs ρ x ⟨.lo, d⟩ i) (hd : (x == ("__debug__" : Str)) = false := by decide +kernel) (hn : (x == ("__classdict__" : Str)) = false := by decide +kernel) :
    Ev c f ρ (.Name x pos) d .lo := fun mo val fp s E S => name_step S h (fun r => ⟨Ext.refl S.wf, fp i, r, S.fpL i _ h.slot, fun a ha => ⟨S.shr i _ h.slot (by nofun) a ha, S.loc i _ h.slot rfl a ha⟩⟩) hd hn

theorem ev_int {i : Int} {n : Nat} {pos : Pos} : Ev c f ρ (.Constant (.int i) n pos) (.int i) .fr := fun _ _ _ _ _ S =>
  wpAny_Constant_int ⟨Ext.toks S.wf _, [], .int _ _, nofun, .nil, nofun, nofun⟩
theorem ev_none {n : Nat} {pos : Pos} : Ev c f ρ (.Constant .none n pos) .none .fr := fun _ _ _ _ _ S =>
  wpAny_Constant_none ⟨Ext.refl S.wf, [], .none, nofun, .nil, nofun, nofun⟩
theorem ev_bool {b : Bool} {n : Nat} {pos : Pos} : Ev c f ρ (.Constant (.bool b) n pos) (.bool b) .fr := fun _ _ _ _ _ S =>
  wpAny_Constant_bool ⟨Ext.refl S.wf, [], .bool _, nofun, .nil, nofun, nofun⟩
theorem ev_str {x : Str} {n : Nat} {pos : Pos} : Ev c f ρ (.Constant (.str x) n pos) (.str x) .fr := fun _ _ _ _ _ S =>
  wpAny_Constant_str ⟨Ext.toks S.wf _, [], .str _ _, nofun, .nil, nofun, nofun⟩
end

end Mine

namespace Mine
open PySem PySem.Spec PySem.Calls PyProof.Rows

section
variable {c : Cx} {f : Fm} {ρ : Rho} {mo : Addr → Prop} {val : Nat → Value} {fp : Nat → List Addr} {s : Shared} {E : Value → Shared → Prop}
  {e l r x y : Expr} {d d1 d2 : PyData} {k k1 k2 : EK} {pos : Pos} {a b : Int}

theorem frNil {h h' : Heap} : KOk f mo fp h h' .fr [] := ⟨nofun, .nil, nofun, nofun⟩

/-! two operands -/
theorem ev_bin {op : Operator} (h1 : Ev c f ρ l d1 k1) (h2 : Ev c f ρ r d2 k2)
    (h : ∀ s v1 v2 as1 as2 E, Wf c s → Room f.lv f.A → Reads s.heap v1 d1 as1 → Reads s.heap v2 d2 as2 →
      wpAny c.M f.A (binaryOp op v1 v2) (fun v s' => Ext c s s' ∧ ∃ as, Reads s'.heap v d as ∧ as.Nodup ∧ (∀ a ∈ as, s.heap.get? a = none) ∧ ∀ a ∈ as, Pl s'.heap a) E s) : Ev c f ρ (.BinOp l op r pos) d .fr := by
  intro mo val fp s E S
  refine wpAny_BinOp (h1.bind S fun v1 s1 as1 x1 S1 r1 _ => h2.bind S1 fun v2 s2 as2 x2 S2 r2 _ => ?_)
  refine wpAny_mono (h s2 v1 v2 as1 as2 E S2.wf S.ok.room (x2.reads S1.wf r1) r2) (fun v s3 ⟨x3, as, r3, n3, q3, p3⟩ => ?_) fun _ _ z => z
  exact ⟨(x1.trans x2).trans x3, as, r3, frOk S n3 (fun a ha => (x1.trans x2).up.none (q3 a ha)) p3⟩

theorem ev_add (h1 : Ev c f ρ l (.int a) k1) (h2 : Ev c f ρ r (.int b) k2) : Ev c f ρ (.BinOp l .Add r pos) (.int (a + b)) .fr :=
  ev_bin h1 h2 fun s v1 v2 as1 as2 E W _ r1 r2 => by cases r1; cases r2; exact P.add_int ⟨Ext.toks W _, [], .int _ _, .nil, nofun, nofun⟩
theorem ev_sub (h1 : Ev c f ρ l (.int a) k1) (h2 : Ev c f ρ r (.int b) k2) : Ev c f ρ (.BinOp l .Sub r pos) (.int (a - b)) .fr :=
  ev_bin h1 h2 fun s v1 v2 as1 as2 E W _ r1 r2 => by cases r1; cases r2; exact P.sub_int ⟨Ext.toks W _, [], .int _ _, .nil, nofun, nofun⟩
theorem ev_mul (h1 : Ev c f ρ l (.int a) k1) (h2 : Ev c f ρ r (.int b) k2) (hm : IntMulOk a b) : Ev c f ρ (.BinOp l .Mult r pos) (.int (a * b)) .fr :=
  ev_bin h1 h2 fun s v1 v2 as1 as2 E W _ r1 r2 => by cases r1; cases r2; exact P.mul_int ⟨Ext.toks W _, [], .int _ _, .nil, nofun, nofun⟩ hm
theorem ev_mod (h1 : Ev c f ρ l (.int a) k1) (h2 : Ev c f ρ r (.int b) k2) (hb : 0 < b) : Ev c f ρ (.BinOp l .Mod r pos) (.int (a % b)) .fr :=
  ev_bin h1 h2 fun s v1 v2 as1 as2 E W _ r1 r2 => by
    cases r1; cases r2
    exact PyProof.Rows.mod_int (by omega) ⟨Ext.toks W _, [], by rw [Int.fmod_eq_emod_of_nonneg _ (by omega)]; exact .int _ _, .nil, nofun, nofun⟩
theorem ev_fdiv (h1 : Ev c f ρ l (.int a) k1) (h2 : Ev c f ρ r (.int b) k2) (hb : 0 < b) (hs : b < 1073741824) : Ev c f ρ (.BinOp l .FloorDiv r pos) (.int (a / b)) .fr :=
  ev_bin h1 h2 fun s v1 v2 as1 as2 E W _ r1 r2 => by
    cases r1; cases r2
    refine AutoIntOps.floordiv_1 (by simp; omega) (by rw [PyProof.noPylong_small (by omega)]; simp) ?_
    show (fun v s' => _) _ _
    exact ⟨Ext.toks W _, [], by rw [Int.fdiv_eq_ediv_of_nonneg _ (by omega)]; exact .int _ _, .nil, nofun, nofun⟩
theorem ev_neg (h1 : Ev c f ρ x (.int a) k1) : Ev c f ρ (.UnaryOp .USub x pos) (.int (-a)) .fr := by
  intro mo val fp s E S
  refine wpAny_UnaryOp (h1.bind S fun v1 s1 as1 x1 S1 r1 _ => ?_)
  cases r1
  exact P.neg_int ⟨x1.trans (Ext.toks S1.wf _), [], .int _ _, frNil⟩

/-! comparisons -/
def Cmp (c : Cx) (n : Nat) (op : CmpOp) (d1 d2 : PyData) (b : Bool) : Prop :=
  ∀ A s v1 v2 as1 as2 E (Q : Value → Shared → Prop), Wf c s → Room n A → Reads s.heap v1 d1 as1 → Reads s.heap v2 d2 as2 → Q (.bool b) s → wpAny c.M A (compareOp op v1 v2) Q E s

theorem ev_cmp {op : CmpOp} {q : Bool} (h1 : Ev c f ρ l d1 k1) (h2 : Ev c f ρ r d2 k2) (h : Cmp c f.lv op d1 d2 q) (hm : behindInMarks op r = false := by with_unfolding_all rfl) :
    Ev c f ρ (.Compare l [op] [r] pos) (.bool q) .fr := by
  intro mo val fp s E S
  refine wpAny_Compare1 (h1.bind S fun v1 s1 as1 x1 S1 r1 _ => h2.bind S1 fun v2 s2 as2 x2 S2 r2 _ => ?_) hm
  exact h _ _ _ _ _ _ _ _ S2.wf S.ok.room (x2.reads S1.wf r1) r2 ⟨x1.trans x2, [], .bool _, frNil⟩

theorem cmp_lt {n : Nat} : Cmp c n .Lt (.int a) (.int b) (decide (a < b)) := fun _ _ _ _ _ _ _ _ _ _ r1 r2 h => by cases r1; cases r2; exact P.lt_int h
theorem cmp_le {n : Nat} : Cmp c n .LtE (.int a) (.int b) (decide (a ≤ b)) := fun _ _ _ _ _ _ _ _ _ _ r1 r2 h => by cases r1; cases r2; exact P.le_int h
theorem cmp_gt {n : Nat} : Cmp c n .Gt (.int a) (.int b) (decide (b < a)) := fun _ _ _ _ _ _ _ _ _ _ r1 r2 h => by cases r1; cases r2; exact P.gt_int h
theorem cmp_ge {n : Nat} : Cmp c n .GtE (.int a) (.int b) (decide (b ≤ a)) := fun _ _ _ _ _ _ _ _ _ _ r1 r2 h => by cases r1; cases r2; exact P.ge_int h
theorem cmp_eq {n : Nat} : Cmp c n .Eq (.int a) (.int b) (a == b) := fun _ _ _ _ _ _ _ _ _ _ r1 r2 h => by cases r1; cases r2; exact P.eq_int h
theorem cmp_ne {n : Nat} : Cmp c n .NotEq (.int a) (.int b) (a != b) := fun _ _ _ _ _ _ _ _ _ _ r1 r2 h => by cases r1; cases r2; exact P.ne_int h
theorem cmp_eqv {n : Nat} (h1 : SeqAt.shaped d1 = true) (h2 : SeqAt.shaped d2 = true) : Cmp c n .Eq d1 d2 (PyData.eqv d1 d2) := fun _ _ _ _ _ _ _ _ _ R r1 r2 h =>
  SeqAt.compareEq_shaped (r1.lib (SeqAt.canLay_of_shaped h1)) (r2.lib (SeqAt.canLay_of_shaped h2)) h1 h2 (by have := R.units; omega) h
theorem cmp_nev {n : Nat} (h1 : SeqAt.shaped d1 = true) (h2 : SeqAt.shaped d2 = true) : Cmp c n .NotEq d1 d2 (!PyData.eqv d1 d2) := fun _ _ _ _ _ _ _ _ _ R r1 r2 h =>
  SeqAt.compareNe_shaped (r1.lib (SeqAt.canLay_of_shaped h1)) (r2.lib (SeqAt.canLay_of_shaped h2)) h1 h2 (by have := R.units; omega) h
theorem cmp_in {n : Nat} {xs : List PyData} (h1 : SeqAt.shaped d1 = true) (h2 : PyData.canLayAll0 xs = true) : Cmp c n .In d1 (.list xs) (xs.any fun y => PyData.eqv y d1) := fun _ _ _ _ _ _ _ _ _ R r1 r2 h =>
  SeqAt.in_list_reads (r2.lib (by simpa [PyData.canLay0] using h2)) (r1.lib (SeqAt.canLay_of_shaped h1)) h2 (SeqAt.canLay_of_shaped h1) (by have := R.units; have h4 := SeqAt.depth_of_shaped h1; have h5 : min (PyData.depthAll xs) d1.depth ≤ d1.depth := Nat.min_le_right _ _; omega) h
theorem cmp_notin {n : Nat} {xs : List PyData} (h1 : SeqAt.shaped d1 = true) (h2 : PyData.canLayAll0 xs = true) : Cmp c n .NotIn d1 (.list xs) (!xs.any fun y => PyData.eqv y d1) := fun _ _ _ _ _ _ _ _ _ R r1 r2 h =>
  SeqAt.notIn_list_reads (r2.lib (by simpa [PyData.canLay0] using h2)) (r1.lib (SeqAt.canLay_of_shaped h1)) h2 (SeqAt.canLay_of_shaped h1) (by have := R.units; have h4 := SeqAt.depth_of_shaped h1; have h5 : min (PyData.depthAll xs) d1.depth ≤ d1.depth := Nat.min_le_right _ _; omega) h

def isNone : PyData → Bool
  | .none => true
  | _ => false
def isBool (q : Bool) : PyData → Bool
  | .bool b => b == q
  | _ => false
theorem cmp_is_none {n : Nat} : Cmp c n .Is d1 .none (isNone d1) := fun _ _ _ _ _ _ _ _ _ _ r1 r2 h => by
  cases r2; cases r1 <;> first | exact wpAny_is_self rfl h | exact wpAny_is_other rfl nofun h
theorem cmp_isnot_none {n : Nat} : Cmp c n .IsNot d1 .none (!isNone d1) := fun _ _ _ _ _ _ _ _ _ _ r1 r2 h => by
  cases r2; cases r1 <;> first | exact wpAny_isNot_plain rfl h | exact wpAny_isNot_other rfl nofun h
theorem cmp_is_bool {n : Nat} {q : Bool} : Cmp c n .Is d1 (.bool q) (isBool q d1) := fun _ _ _ _ _ _ _ _ _ _ r1 r2 h => by
  cases r2; cases r1 <;> first | exact wpAny_is_other rfl nofun h | skip
  rename_i b
  refine wpAny_is_plain rfl ?_
  have : (Value.bool b == Value.bool q) = (b == q) := by cases b <;> cases q <;> rfl
  rw [this]; exact h
theorem cmp_isnot_bool {n : Nat} {q : Bool} : Cmp c n .IsNot d1 (.bool q) (!isBool q d1) := fun _ _ _ _ _ _ _ _ _ _ r1 r2 h => by
  cases r2; cases r1 <;> first | exact wpAny_isNot_other rfl nofun h | skip
  rename_i b
  refine wpAny_isNot_plain rfl ?_
  have : (Value.bool b == Value.bool q) = (b == q) := by cases b <;> cases q <;> rfl
  rw [this]; exact h

/-! truth of a test -/
def Tst (c : Cx) (f : Fm) (ρ : Rho) (e : Expr) (b : Bool) : Prop :=
  ∀ mo val fp s E, St c f ρ mo val fp s → wpAny c.M f.A (isTrue e f.env (eval e f.env)) (fun t s' => t = b ∧ Ext c s s') E s

theorem Tst.bind {q : Bool} {Q : Bool → Shared → Prop} (h : Tst c f ρ e q) (S : St c f ρ mo val fp s) (hn : ∀ s', Ext c s s' → St c f ρ mo val fp s' → Q q s') :
    wpAny c.M f.A (isTrue e f.env (eval e f.env)) Q E s :=
  wpAny_mono (h mo val fp s E S) (fun t s' ⟨ht, x⟩ => ht ▸ hn s' x (S.ext x)) fun _ _ z => z

def truth : PyData → Bool
  | .none => false
  | .bool b => b
  | .int i => i != 0
  | .str x => x.length != 0
  | .list xs => !xs.isEmpty
  | .tuple xs => !xs.isEmpty
  | .dict xs => !xs.isEmpty

theorem tst_cmp {op : CmpOp} {q : Bool} (h1 : Ev c f ρ l d1 k1) (h2 : Ev c f ρ r d2 k2) (h : Cmp c f.lv op d1 d2 q) (hm : behindInMarks op r = false := by with_unfolding_all rfl) :
    Tst c f ρ (.Compare l [op] [r] pos) q := by
  intro mo val fp s E S
  refine wpAny_isTrue_Compare1 (h1.bind S fun v1 s1 as1 x1 S1 r1 _ => h2.bind S1 fun v2 s2 as2 x2 S2 r2 _ => ?_) hm
  exact h _ _ _ _ _ _ _ _ S2.wf S.ok.room (x2.reads S1.wf r1) r2 (wpAny_truthy_bool ⟨rfl, x1.trans x2⟩)
theorem tst_not {q : Bool} (h : Tst c f ρ x q) : Tst c f ρ (.UnaryOp .Not x pos) (!q) := fun mo val fp s E S =>
  wpAny_isTrue_Not (h.bind S fun s' x _ => ⟨rfl, x⟩)
theorem tst_bool {q : Bool} (h : Ev c f ρ e (.bool q) k) (he : ∀ env whole, isTrue e env whole = (do let v ← whole; standAt e.pos; holding [v] (truthy v)) := by intro _ _; rfl) : Tst c f ρ e q := fun mo val fp s E S =>
  wpAny_isTrue_value (h.bind S fun v s' as x S' r _ => by cases r; exact wpAny_truthy_bool ⟨rfl, x⟩) (he _ _)
theorem tst_int (h : Ev c f ρ e (.int a) k) (he : ∀ env whole, isTrue e env whole = (do let v ← whole; standAt e.pos; holding [v] (truthy v)) := by intro _ _; rfl) : Tst c f ρ e (a != 0) := fun mo val fp s E S =>
  wpAny_isTrue_value (h.bind S fun v s' as x S' r _ => by cases r; exact P.truthy_int ⟨rfl, x⟩) (he _ _)

inductive TstL (c : Cx) (f : Fm) (ρ : Rho) (op : BoolOp) : List Expr → Bool → Prop
  | last {x : Expr} {q : Bool} : Tst c f ρ x q → TstL c f ρ op [x] q
  | stop {x : Expr} {q : Bool} {rest : List Expr} : Tst c f ρ x q → q = (match op with | .And => false | .Or => true) → TstL c f ρ op (x :: rest) q
  | go {x : Expr} {q t : Bool} {rest : List Expr} : Tst c f ρ x q → q = (match op with | .And => true | .Or => false) → TstL c f ρ op rest t → TstL c f ρ op (x :: rest) t
theorem tst_allTrue {op : BoolOp} {es : List Expr} {q : Bool} (h : TstL c f ρ op es q) : ∀ {mo val fp s E}, St c f ρ mo val fp s → wpAny c.M f.A (allTrue op es f.env) (fun t s' => t = q ∧ Ext c s s') E s := by
  induction h with
  | last h =>
    intro mo val fp s E S
    cases op
    · refine wpAny_allTrue_And_cons (h.bind S fun s' x S' => ?_)
      split
      · rename_i e; exact wpAny_allTrue_And_nil ⟨e.symm, x⟩
      · rename_i e; exact ⟨by simpa using e, x⟩
    · refine wpAny_allTrue_Or_cons (h.bind S fun s' x S' => ?_)
      split
      · rename_i e; exact ⟨e.symm, x⟩
      · rename_i e; exact wpAny_allTrue_Or_nil ⟨by simpa using e, x⟩
  | stop h e =>
    intro mo val fp s E S
    cases op
    · refine wpAny_allTrue_And_cons (h.bind S fun s' x S' => ?_)
      subst e; exact ⟨rfl, x⟩
    · refine wpAny_allTrue_Or_cons (h.bind S fun s' x S' => ?_)
      subst e; exact ⟨rfl, x⟩
  | go h e _ ih =>
    intro mo val fp s E S
    cases op
    · refine wpAny_allTrue_And_cons (h.bind S fun s' x S' => ?_)
      subst e; exact wpAny_mono (ih S') (fun t s2 ⟨q, x2⟩ => ⟨q, x.trans x2⟩) fun _ _ z => z
    · refine wpAny_allTrue_Or_cons (h.bind S fun s' x S' => ?_)
      subst e; exact wpAny_mono (ih S') (fun t s2 ⟨q, x2⟩ => ⟨q, x.trans x2⟩) fun _ _ z => z
theorem tst_boolop {op : BoolOp} {es : List Expr} {q : Bool} (h : TstL c f ρ op es q) : Tst c f ρ (.BoolOp op es pos) q := fun mo val fp s E S =>
  wpAny_isTrue_BoolOp (tst_allTrue h S)
/-- and, or of two tests: the second is asked only where the first leaves it open -/
theorem tst_and {p q : Bool} (h1 : Tst c f ρ x p) (h2 : p = true → Tst c f ρ y q) : Tst c f ρ (.BoolOp .And [x, y] pos) (p && q) := by
  cases p with
  | false => exact tst_boolop (.stop h1 rfl)
  | true => exact tst_boolop (.go h1 rfl (.last (h2 rfl)))
theorem tst_or {p q : Bool} (h1 : Tst c f ρ x p) (h2 : p = false → Tst c f ρ y q) : Tst c f ρ (.BoolOp .Or [x, y] pos) (p || q) := by
  cases p with
  | true => exact tst_boolop (.stop h1 rfl)
  | false => exact tst_boolop (.go h1 rfl (.last (h2 rfl)))
theorem tst_and3 {z : Expr} {p q t : Bool} (h1 : Tst c f ρ x p) (h2 : p = true → Tst c f ρ y q) (h3 : p = true → q = true → Tst c f ρ z t) : Tst c f ρ (.BoolOp .And [x, y, z] pos) (p && q && t) := by
  cases p with
  | false => exact tst_boolop (.stop h1 rfl)
  | true =>
    cases q with
    | false => exact tst_boolop (.go h1 rfl (.stop (h2 rfl) rfl))
    | true => exact tst_boolop (.go h1 rfl (.go (h2 rfl) rfl (.last (h3 rfl rfl))))
theorem tst_and4 {z u : Expr} {p q t v : Bool} (h1 : Tst c f ρ x p) (h2 : p = true → Tst c f ρ y q) (h3 : p = true → q = true → Tst c f ρ z t) (h4 : p = true → q = true → t = true → Tst c f ρ u v) :
    Tst c f ρ (.BoolOp .And [x, y, z, u] pos) (p && q && t && v) := by
  cases p with
  | false => exact tst_boolop (.stop h1 rfl)
  | true =>
    cases q with
    | false => exact tst_boolop (.go h1 rfl (.stop (h2 rfl) rfl))
    | true =>
      cases t with
      | false => exact tst_boolop (.go h1 rfl (.go (h2 rfl) rfl (.stop (h3 rfl rfl) rfl)))
      | true => exact tst_boolop (.go h1 rfl (.go (h2 rfl) rfl (.go (h3 rfl rfl) rfl (.last (h4 rfl rfl rfl)))))

/-! and, or as values, of bools -/
theorem ev_and {p q : Bool} (h1 : Ev c f ρ x (.bool p) k1) (h2 : p = true → Ev c f ρ y (.bool q) k2) : Ev c f ρ (.BoolOp .And [x, y] pos) (.bool (p && q)) .fr := by
  intro mo val fp s E S
  refine wpAny_And2 (h1.bind S fun v1 s1 as1 x1 S1 r1 _ => ?_)
  cases r1
  refine wpAny_truthy_bool ?_
  cases p with
  | false => exact ⟨x1, [], .bool _, frNil⟩
  | true => exact (h2 rfl).bind S1 fun v2 s2 as2 x2 S2 r2 _ => by cases r2; exact ⟨x1.trans x2, [], .bool _, frNil⟩
theorem ev_or {p q : Bool} (h1 : Ev c f ρ x (.bool p) k1) (h2 : p = false → Ev c f ρ y (.bool q) k2) : Ev c f ρ (.BoolOp .Or [x, y] pos) (.bool (p || q)) .fr := by
  intro mo val fp s E S
  refine wpAny_Or2 (h1.bind S fun v1 s1 as1 x1 S1 r1 _ => ?_)
  cases r1
  refine wpAny_truthy_bool ?_
  cases p with
  | true => exact ⟨x1, [], .bool _, frNil⟩
  | false => exact (h2 rfl).bind S1 fun v2 s2 as2 x2 S2 r2 _ => by cases r2; exact ⟨x1.trans x2, [], .bool _, frNil⟩
theorem ev_not {q : Bool} (h : Ev c f ρ x (.bool q) k) : Ev c f ρ (.UnaryOp .Not x pos) (.bool (!q)) .fr := by
  intro mo val fp s E S
  refine wpAny_UnaryOp (h.bind S fun v1 s1 as1 x1 S1 r1 _ => ?_)
  cases r1
  exact not_value (wpAny_truthy_bool ⟨x1, [], .bool _, frNil⟩)
theorem ev_ifexp {t : Expr} {q : Bool} (ht : Tst c f ρ t q) (h1 : q = true → Ev c f ρ x d k) (h2 : q = false → Ev c f ρ y d k) : Ev c f ρ (.IfExp t x y pos) d k := by
  intro mo val fp s E S
  refine wpAny_IfExp (ht.bind S fun s1 x1 S1 => ?_)
  have go : ∀ {z}, Ev c f ρ z d k → wpAny c.M f.A (eval z f.env) (fun v s' => Ext c s s' ∧ ∃ as, Reads s'.heap v d as ∧ KOk f mo fp s.heap s'.heap k as) E s1 := fun h =>
    h.bind S1 fun v s2 as x2 S2 r ko => ⟨x1.trans x2, as, r, by
      refine ⟨ko.1, ?_⟩
      cases k with
      | w => trivial
      | sh => exact ko.2
      | lo => exact ko.2
      | fr => exact ⟨ko.2.1, fun a ha => x1.up.none (ko.2.2.1 a ha), ko.2.2.2⟩
      | us is => exact ko.2⟩
  cases q with
  | true => exact go (h1 rfl)
  | false => exact go (h2 rfl)
end
end Mine

namespace Mine
open PySem PySem.Spec PySem.Calls PyProof.Rows

/-! items -/
theorem readsAll_item {h : Heap} : ∀ {vs : List Value} {ds : List PyData} {as : List Addr}, ReadsAll h vs ds as → ∀ {i : Nat} {d : PyData}, ds[i]? = some d → ∃ v bs, vs[i]? = some v ∧ Reads h v d bs ∧ bs.Sublist as
  | _, _, _, .nil, i, d, e => by simp at e
  | _, _, _, .cons (as := as) (bs := bs) r rs, 0, d, e => by
    simp at e; subst e
    exact ⟨_, as, rfl, r, List.sublist_append_left _ _⟩
  | _, _, _, .cons (as := as) (bs := bs) r rs, i + 1, d, e => by
    obtain ⟨v, cs, h1, h2, h3⟩ := readsAll_item rs (i := i) (d := d) (by simpa using e)
    exact ⟨v, cs, by simpa using h1, h2, h3.trans (List.sublist_append_right _ _)⟩
theorem readsAll_length {h : Heap} : ∀ {vs : List Value} {ds : List PyData} {as : List Addr}, ReadsAll h vs ds as → vs.length = ds.length
  | _, _, _, .nil => rfl
  | _, _, _, .cons _ r => by simp [readsAll_length r]

def EK.sub : EK → EK
  | .us _ => .w
  | k => k
theorem KOk.sub {f : Fm} {mo : Addr → Prop} {fp : Nat → List Addr} {h h' : Heap} {k : EK} {as bs : List Addr} (x : KOk f mo fp h h' k as) (hs : bs.Sublist as) : KOk f mo fp h h' k.sub bs := by
  refine ⟨fun h => x.1 (hs.subset h), ?_⟩
  replace x := x.2
  cases k with
  | w => trivial
  | sh => exact fun a ha => x a (hs.subset ha)
  | lo => exact fun a ha => x a (hs.subset ha)
  | fr => exact ⟨x.1.sublist hs, fun a ha => x.2.1 a (hs.subset ha), fun a ha => x.2.2 a (hs.subset ha)⟩
  | us is => trivial
theorem KOk.earlier {c : Cx} {f : Fm} {mo : Addr → Prop} {fp : Nat → List Addr} {s s' : Shared} {h' : Heap} {k : EK} {as : List Addr} (x : Ext c s s') (ko : KOk f mo fp s'.heap h' k as) : KOk f mo fp s.heap h' k as := by
  refine ⟨ko.1, ?_⟩
  replace ko := ko.2
  cases k with
  | w => trivial
  | sh => exact ko
  | lo => exact ko
  | fr => exact ⟨ko.1, fun a ha => x.up.none (ko.2.1 a ha), ko.2.2⟩
  | us is => exact ko
theorem KOk.later {c : Cx} {f : Fm} {mo : Addr → Prop} {fp : Nat → List Addr} {s' s'' : Shared} {h : Heap} {k : EK} {as : List Addr} (W : Wf c s') (x : Ext c s' s'') (ko : KOk f mo fp h s'.heap k as) : KOk f mo fp h s''.heap k as := by
  refine ⟨ko.1, ?_⟩
  replace ko := ko.2
  cases k with
  | w => trivial
  | sh => exact ko
  | lo => exact ko
  | fr => exact ⟨ko.1, ko.2.1, fun a ha => (ko.2.2 a ha).ext W x⟩
  | us is => exact ko

section
variable {c : Cx} {f : Fm} {ρ : Rho} {mo : Addr → Prop} {val : Nat → Value} {fp : Nat → List Addr} {s : Shared} {E : Value → Shared → Prop}
  {e l r x y : Expr} {d d1 d2 : PyData} {k k1 k2 : EK} {pos : Pos} {a b i : Int} {xs : List PyData} {es : List Expr} {ds : List PyData}

theorem ev_item (h1 : Ev c f ρ l (.list xs) k1) (h2 : Ev c f ρ r (.int i) k2) (h0 : 0 ≤ i) (hfit : i < 2 ^ 63) (hx : xs[i.toNat]? = some d)
    (hs : ∀ o i, subscripted r false o i = operate [o, i] (getItem o i) := by intros; rfl) : Ev c f ρ (.Subscript l r pos) d k1.sub := by
  intro mo val fp s E S
  refine Subscript_ (h1.bind S fun v1 s1 as1 x1 S1 r1 k1 => h2.bind S1 fun v2 s2 as2 x2 S2 r2 _ => ?_)
  have r1' := x2.reads S1.wf r1
  cases r2
  cases r1' with
  | list g1 g2 g3 g4 =>
    obtain ⟨v, bs, q1, q2, q3⟩ := readsAll_item g4 hx
    refine tail_any (T := "list") ⟨_, g1, g2⟩ slot_list_getitem.lookup ?_ (hs _ _)
    exact wpAny_getItem_list ⟨_, g1, g2, _, g3⟩ h0 hfit (by simpa using q1) ⟨x1.trans x2, bs, q2, KOk.sub (KOk.later S1.wf x2 (by assumption)) (q3.trans (List.sublist_cons_self ..))⟩
/-- an item from behind: xs[-1] -/
theorem ev_last (h1 : Ev c f ρ l (.list xs) k1) (h2 : Ev c f ρ r (.int (-1)) k2) (hx : xs.getLast? = some d)
    (hs : ∀ o i, subscripted r false o i = operate [o, i] (getItem o i) := by intros; rfl) : Ev c f ρ (.Subscript l r pos) d k1.sub := by
  intro mo val fp s E S
  refine Subscript_ (h1.bind S fun v1 s1 as1 x1 S1 r1 k1 => h2.bind S1 fun v2 s2 as2 x2 S2 r2 _ => ?_)
  have r1' := x2.reads S1.wf r1
  cases r2
  cases r1' with
  | list g1 g2 g3 g4 =>
    rw [List.getLast?_eq_getElem?] at hx
    have hl := readsAll_length g4
    have hpos : 0 < xs.length := by
      rcases Nat.eq_zero_or_pos xs.length with q | q
      · rw [q] at hx; have := List.length_eq_zero_iff.mp q; subst this; simp at hx
      · exact q
    obtain ⟨v, bs, q1, q2, q3⟩ := readsAll_item g4 hx
    rename_i o vs n _
    have hsz : vs.size = xs.length := by simpa using hl
    refine tail_any (T := "list") ⟨_, g1, g2⟩ slot_list_getitem.lookup ?_ (hs _ _)
    refine wpAny_getItem_list_neg ⟨_, g1, g2, _, g3⟩ (by omega) (by omega) (by omega) ?_ ⟨x1.trans x2, bs, q2, KOk.sub (KOk.later S1.wf x2 (by assumption)) (q3.trans (List.sublist_cons_self ..))⟩
    have e1 : ((-1 : Int) + (vs.size : Int)).toNat = xs.length - 1 := by omega
    rw [e1]; simpa using q1
theorem ev_tupitem (h1 : Ev c f ρ l (.tuple xs) k1) (h2 : Ev c f ρ r (.int i) k2) (h0 : 0 ≤ i) (hfit : i < 2 ^ 63) (hx : xs[i.toNat]? = some d)
    (hs : ∀ o i, subscripted r false o i = operate [o, i] (getItem o i) := by intros; rfl) : Ev c f ρ (.Subscript l r pos) d k1.sub := by
  intro mo val fp s E S
  refine Subscript_ (h1.bind S fun v1 s1 as1 x1 S1 r1 k1 => h2.bind S1 fun v2 s2 as2 x2 S2 r2 _ => ?_)
  have r1' := x2.reads S1.wf r1
  cases r2
  cases r1' with
  | tuple g1 g2 g3 g4 =>
    obtain ⟨v, bs, q1, q2, q3⟩ := readsAll_item g4 hx
    refine tail_any (T := "tuple") ⟨_, g1, g2⟩ slot_tuple_getitem.lookup ?_ (hs _ _)
    have hlt : i.toNat < xs.length := by
      rcases Nat.lt_or_ge i.toNat xs.length with q | q
      · exact q
      · rw [List.getElem?_eq_none q] at hx; cases hx
    have hl := readsAll_length g4
    rename_i o vs n
    have hsz : vs.size = xs.length := by simpa using hl
    exact PyProof.Rows.getItem_tuple (j := i.toNat) ⟨_, g1, g2, _, g3⟩ (by omega) hfit
      (by unfold seqIndex?; have e1 : ¬ (i < 0) := by omega
          have e2 : i < (vs.size : Int) := by omega
          simp [e1, h0, e2]) (by simpa using q1) ⟨x1.trans x2, bs, q2, KOk.sub (KOk.later S1.wf x2 (by assumption)) q3⟩

/-! lists of expressions -/
def EvL (c : Cx) (f : Fm) (ρ : Rho) (es : List Expr) (ds : List PyData) (k : EK) : Prop :=
  ∀ pos mo val fp s E, St c f ρ mo val fp s → wpAny c.M f.A (spliced (backTo pos (starEach es f.env))) (fun vs s' => Ext c s s' ∧ ∃ as, ReadsAll s'.heap vs ds as ∧ KOk f mo fp s.heap s'.heap k as) E s

theorem evl_nil (hk : ∀ is, k = .us is → is = [] := by nofun) : EvL c f ρ [] [] k := fun pos mo val fp s E S =>
  args_nil ⟨Ext.refl S.wf, [], .nil, KOk.nil hk⟩
theorem evl_nilU : EvL c f ρ [] [] (.us []) := evl_nil fun is e => by cases e; rfl
theorem evl_cons_any {k : EK} (h1 : Ev c f ρ e d k1) (h2 : EvL c f ρ es ds k2)
    (hk : ∀ mo fp (s s1 s2 : Shared) as bs v, Ext c s s1 → Reads s1.heap v d as → KOk0 f mo fp s.heap s2.heap k1 as → KOk0 f mo fp s1.heap s2.heap k2 bs → KOk0 f mo fp s.heap s2.heap k (as ++ bs))
    (he : ∀ env rest, starEach (e :: rest) env = (false, eval e env) :: starEach rest env := by intros; rfl) : EvL c f ρ (e :: es) (d :: ds) k := fun pos mo val fp s E S =>
  args_cons (h1.bind S fun v1 s1 as1 x1 S1 r1 ko1 => wpAny_mono (h2 pos mo val fp s1 E S1) (fun vs s2 ⟨x2, bs, r2, ko2⟩ =>
    ⟨x1.trans x2, as1 ++ bs, .cons (x2.reads S1.wf r1) r2, fun h => (List.mem_append.mp h).elim ko1.1 ko2.1, hk mo fp s s1 s2 as1 bs v1 x1 r1 (KOk.later S1.wf x2 ko1).2 ko2.2⟩) fun _ _ z => z) (he _ _)
theorem evl_w (h1 : Ev c f ρ e d k1) (h2 : EvL c f ρ es ds k2) (he : ∀ env rest, starEach (e :: rest) env = (false, eval e env) :: starEach rest env := by intros; rfl) : EvL c f ρ (e :: es) (d :: ds) .w :=
  evl_cons_any h1 h2 (fun _ _ _ _ _ _ _ _ _ _ _ _ => trivial) he
theorem evl_sh (h1 : Ev c f ρ e d .sh) (h2 : EvL c f ρ es ds .sh) (he : ∀ env rest, starEach (e :: rest) env = (false, eval e env) :: starEach rest env := by intros; rfl) : EvL c f ρ (e :: es) (d :: ds) .sh :=
  evl_cons_any h1 h2 (fun _ _ _ _ _ _ _ _ _ _ a b x hx => (List.mem_append.mp hx).elim (a x) (b x)) he
theorem evl_lo (h1 : Ev c f ρ e d .lo) (h2 : EvL c f ρ es ds .lo) (he : ∀ env rest, starEach (e :: rest) env = (false, eval e env) :: starEach rest env := by intros; rfl) : EvL c f ρ (e :: es) (d :: ds) .lo :=
  evl_cons_any h1 h2 (fun _ _ _ _ _ _ _ _ _ _ a b x hx => (List.mem_append.mp hx).elim (a x) (b x)) he
theorem evl_fr (h1 : Ev c f ρ e d .fr) (h2 : EvL c f ρ es ds .fr) (he : ∀ env rest, starEach (e :: rest) env = (false, eval e env) :: starEach rest env := by intros; rfl) : EvL c f ρ (e :: es) (d :: ds) .fr :=
  evl_cons_any h1 h2 (fun mo fp s s1 s2 as bs v x r a b => ⟨List.nodup_append.mpr ⟨a.1, b.1, fun p hp q hq e => by
    subst e
    obtain ⟨o, ho, _⟩ := reads_objs r p hp
    rw [b.2.1 p hq] at ho; cases ho⟩, fun p hp => (List.mem_append.mp hp).elim (a.2.1 p) fun hq => x.up.none (b.2.1 p hq), fun p hp => (List.mem_append.mp hp).elim (a.2.2 p) (b.2.2 p)⟩) he
theorem evl_us {is js : List Nat} (h1 : Ev c f ρ e d (.us is)) (h2 : EvL c f ρ es ds (.us js)) (he : ∀ env rest, starEach (e :: rest) env = (false, eval e env) :: starEach rest env := by intros; rfl) : EvL c f ρ (e :: es) (d :: ds) (.us (is ++ js)) :=
  evl_cons_any h1 h2 (fun mo fp s s1 s2 as bs v x r (a : as = _) (b : bs = _) => by show as ++ bs = _; rw [a, b, List.flatMap_append]) he

theorem ev_tuple {n : Nat} (h : EvL c f ρ es ds k) (hsz : ds.length ≤ sizeLine := by decide) : Ev c f ρ (.Tuple es n pos) (.tuple ds) k := by
  intro mo val fp s E S
  refine Tuple_ (wpAny_mono (h pos mo val fp s E S) (fun vs s1 ⟨x1, as, r1, ko⟩ => ?_) fun _ _ z => z)
  refine wpAny_newTuple ?_ (by rw [readsAll_length r1]; exact hsz)
  have x2 : Ext c s1 { s1 with heap := s1.heap.push { cls := .type "tuple", data := .seq vs.toArray } } := Ext.push x1.wf _ _
  exact ⟨x1.trans x2, as, .tuple (Heap.get?_push_size _ rfl) rfl rfl (x2.readsAll x1.wf (by simpa using r1)), ko.later x1.wf x2⟩
theorem get_size_none (h : Heap) : h.get? h.objs.size = none := by
  cases e : h.get? h.objs.size with
  | none => rfl
  | some o => exact absurd (Heap.lt_size e) (Nat.lt_irrefl _)
theorem KOk.cons (S : St c f ρ mo val fp s) {s1 : Shared} {as : List Addr} {D : Addr} (x : Ext c s s1) (hD : s1.heap.get? D = none) (hin : ∀ a ∈ as, ∃ o, s1.heap.get? a = some o) {h' : Heap} (hP : Pl h' D) (ko : KOk f mo fp s.heap h' k as) : KOk f mo fp s.heap h' k.sub (D :: as) := by
  have hDs := x.up.none hD
  have h1 : ¬ mo D := fun m => by obtain ⟨o, q, _⟩ := S.moIn D m; rw [hDs] at q; cases q
  refine ⟨fun h => (List.mem_cons.mp h).elim (fun e => by obtain ⟨m, o, _, _, q, _⟩ := S.ns; rw [e, hDs] at q; cases q) ko.1, ?_⟩
  replace ko := ko.2
  cases k with
  | w => trivial
  | sh => exact fun a ha => (List.mem_cons.mp ha).elim (fun e => e ▸ h1) (ko a)
  | lo => exact fun a ha => (List.mem_cons.mp ha).elim (fun e => e ▸ ⟨h1, S.keep.none hDs⟩) (ko a)
  | fr => exact ⟨List.nodup_cons.mpr ⟨fun hm => (by obtain ⟨o, q⟩ := hin D hm; rw [hD] at q; cases q), ko.1⟩, fun a ha => (List.mem_cons.mp ha).elim (fun e => e ▸ hDs) (ko.2.1 a), fun a ha => (List.mem_cons.mp ha).elim (fun e => e ▸ hP) (ko.2.2 a)⟩
  | us is => trivial
theorem ev_list (h : EvL c f ρ es ds k) (hsz : ds.length ≤ sizeLine := by decide) : Ev c f ρ (.List es pos) (.list ds) k.sub := by
  intro mo val fp s E S
  refine List_ (wpAny_mono (h pos mo val fp s E S) (fun vs s1 ⟨x1, as, r1, ko⟩ => ?_) fun _ _ z => z)
  refine wpAny_newList ?_ (by rw [readsAll_length r1]; exact hsz)
  have x2 : Ext c s1 { s1 with heap := s1.heap.push { cls := .type "list", data := .seq vs.toArray } } := Ext.push x1.wf _ _
  refine ⟨x1.trans x2, s1.heap.objs.size :: as, .list (Heap.get?_push_size _ rfl) rfl rfl (x2.readsAll x1.wf (by simpa using r1)), ?_⟩
  exact KOk.cons S x1 (get_size_none _) (fun a ha => let ⟨o, q, _⟩ := readsAll_objs r1 a ha; ⟨o, q⟩) ⟨_, Heap.get?_push_size _ rfl, .inl ⟨rfl, _, _, rfl⟩, rfl, rfl⟩ (ko.later x1.wf x2)

/-! the context's names -/
structure CxOk (c : Cx) : Prop where
  g : c.hB.Ns mainGlobals c.mg
  gX : ¬ c.X mainGlobals
  b : c.hB.Ns builtinsNs c.mb
  bX : ¬ c.X builtinsNs
  nolimit : c.hB.NoLimit
  sX : ¬ c.X cStatics
  nodigits : ∃ mc, c.hB.Ns cStatics mc ∧ mc "sys.int_max_str_digits" = none
  builtins : ∀ x : Str, x ≠ "__name__" → c.mb x = bootBuiltins x

theorem Ns.base {c : Cx} {s : Shared} {a : Addr} {m : Str → Option Value} (W : Wf c s) (n : c.hB.Ns a m) (hX : ¬ c.X a) : s.heap.Ns a m := by
  obtain ⟨o, es, ep, ho, r⟩ := n
  exact ⟨o, es, ep, W.base _ _ hX ho, r⟩
theorem NoLimit.base {c : Cx} {s : Shared} (W : Wf c s) (C : CxOk c) : s.heap.NoLimit := by
  obtain ⟨mc, n, e⟩ := C.nolimit
  exact ⟨mc, Ns.base W n C.sX, e⟩

structure FnD where
  name : Str
  params : Arguments
  body : List Stmt
  scope : Scope

structure Has (c : Cx) (d : FnD) (fa : Addr) (o : Obj) (pm code doc : Value) : Prop where
  at_ : c.mg d.name = some (.ref fa)
  obj : c.hB.get? fa = some o
  nX : ¬ c.X fa
  data : o.data = .func (docDef d.name d.params d.body d.scope pm code doc)
  crec : c.hB.CodeRec code d.name
  cX : ∀ a, code = .ref a → ¬ c.X a
theorem Has.codeRec {d : FnD} {fa : Addr} {o : Obj} {pm code doc : Value} (H : Has c d fa o pm code doc) (W : Wf c s) : s.heap.CodeRec code d.name := by
  obtain ⟨a, ob, vs, t, e, g, r⟩ := H.crec
  exact ⟨a, ob, vs, t, e, W.base _ _ (H.cX a e) g, r⟩

/-- what a call of a def gives: a datum of new objects -/
def Fn (c : Cx) (lv : Nat) (d : FnD) (args : List PyData) (res : PyData) (u : Bool) : Prop :=
  ∀ A s vals ass E fa o pm code doc, Has c d fa o pm code doc → Room lv A → Wf c s → ReadsAll s.heap vals args ass →
    wpAny c.M A (call (.ref fa) vals) (fun v s' => Ext c s s' ∧ ∃ as, Reads s'.heap v res as ∧ (∀ a ∈ as, s.heap.get? a = none) ∧ (u = true → as.Nodup ∧ ∀ a ∈ as, Pl s'.heap a)) E s

theorem Room.mono {n m : Nat} {A : Around} (R : Room n A) (h : m ≤ n) : Room m A := ⟨R.hand, by have := R.depth; omega, by have := R.units; omega, R.guards⟩

/-- the function stands in the module -/
def Stands (c : Cx) (d : FnD) : Prop := ∃ fa o pm code doc, Has c d fa o pm code doc

theorem call_core {d : FnD} {args : List PyData} {res : PyData} {u : Bool} {lv : Nat} {np : Pos} {e : Expr} (C : CxOk c) (H : Stands c d) (hx : f.env.kindOf d.name = some .globalImplicit)
    (ha : EvL c f ρ (e :: es) args k) (hf : Fn c lv d args res u) (hlv : lv ≤ f.lv)
    (hd : (d.name == ("__debug__" : Str)) = false) (he : ∀ env rest, starEach (e :: rest) env = (false, eval e env) :: starEach rest env)
    (S : St c f ρ mo val fp s) :
    wpAny c.M f.A (eval (.Call (.Name d.name np) (e :: es) [] pos) f.env) (fun v s' => Ext c s s' ∧ ∃ as, Reads s'.heap v res as ∧ (∀ a ∈ as, s.heap.get? a = none) ∧ (u = true → as.Nodup ∧ ∀ a ∈ as, Pl s'.heap a)) E s := by
  obtain ⟨fa, o, pm, code, doc, H⟩ := H
  refine Call_ (Name_function_global S.ok.kind hx ?_ hd)
  refine loadGlobal_global (mg := c.mg) (by rw [S.ok.glob]; exact Ns.base S.wf C.g C.gX) H.at_ ?_
  refine callWith_def (o := o) H.data ?_ (he _ _)
  refine wpAny_mono (ha pos mo val fp s E S) (fun vs s1 ⟨x1, as, r1, _⟩ => ⟨x1.wf.base _ _ H.nX H.obj, ?_⟩) fun _ _ z => z
  refine wpAny_mono (hf f.A s1 vs as E fa o pm code doc H (S.ok.room.mono hlv) x1.wf r1) (fun v s2 ⟨x2, bs, r2, n2, u2⟩ => ?_) fun _ _ z => z
  exact ⟨x1.trans x2, bs, r2, fun a h => x1.up.none (n2 a h), u2⟩

theorem ev_call {d : FnD} {args : List PyData} {res : PyData} {lv : Nat} {np : Pos} {e : Expr} (C : CxOk c) (H : Stands c d) (hx : f.env.kindOf d.name = some .globalImplicit)
    (ha : EvL c f ρ (e :: es) args k) (hf : Fn c lv d args res true) (hlv : lv ≤ f.lv)
    (hd : (d.name == ("__debug__" : Str)) = false := by decide +kernel) (he : ∀ env rest, starEach (e :: rest) env = (false, eval e env) :: starEach rest env := by intros; rfl) :
    Ev c f ρ (.Call (.Name d.name np) (e :: es) [] pos) res .fr := fun mo val fp s E S =>
  wpAny_mono (call_core C H hx ha hf hlv hd he S) (fun v s' ⟨x, as, r, n, u⟩ => ⟨x, as, r, frOk S (u rfl).1 n (u rfl).2⟩) fun _ _ z => z
theorem ev_callLo {d : FnD} {args : List PyData} {res : PyData} {lv : Nat} {np : Pos} {e : Expr} {u : Bool} (C : CxOk c) (H : Stands c d) (hx : f.env.kindOf d.name = some .globalImplicit)
    (ha : EvL c f ρ (e :: es) args k) (hf : Fn c lv d args res u) (hlv : lv ≤ f.lv)
    (hd : (d.name == ("__debug__" : Str)) = false := by decide +kernel) (he : ∀ env rest, starEach (e :: rest) env = (false, eval e env) :: starEach rest env := by intros; rfl) :
    Ev c f ρ (.Call (.Name d.name np) (e :: es) [] pos) res .lo := fun mo val fp s E S =>
  wpAny_mono (call_core C H hx ha hf hlv hd he S) (fun v s' ⟨x, as, r, n, u⟩ => ⟨x, as, r, (fun h => (by obtain ⟨m, o, _, _, q, _⟩ := S.ns; rw [n _ h] at q; cases q)), fun a h => ⟨fun m => (by obtain ⟨o, q, _⟩ := S.moIn a m; rw [n a h] at q; cases q), S.keep.none (n a h)⟩⟩) fun _ _ z => z
end
end Mine

namespace Mine
open PySem PySem.Spec PySem.Calls PyProof.Rows

def Pv (f : Fm) (a : Addr) : Prop := a = f.env.locals ∨ ∃ x, f.env.cells.lookup x = some a

structure FmS (c : Cx) (f : Fm) : Prop where
  kinds : ∀ (i : Nat) (x : Str), f.xs[i]? = some x → f.env.kindOf x = some .local ∨ (f.env.kindOf x = some .cell ∧ ∃ a, f.env.cells.lookup x = some a)
  nd : f.xs.Nodup
  inj : ∀ x y a, f.env.cells.lookup x = some a → f.env.cells.lookup y = some a → x = y
  pv : ∀ a, Pv f a → f.h₀.get? a = none
  base : Up c.X c.hB f.h₀

structure Step (c : Cx) (f : Fm) (mo : Addr → Prop) (s : Shared) (mo' : Addr → Prop) (s' : Shared) : Prop where
  kp : ∀ b o, ¬ c.X b → ¬ Pv f b → ¬ mo b → s.heap.get? b = some o → s'.heap.get? b = some o
  th : ∀ b o, s.heap.get? b = some o → ∃ o', s'.heap.get? b = some o'
  mo : ∀ b, mo' b → mo b ∨ s.heap.get? b = none

theorem Step.refl {c : Cx} {f : Fm} {mo : Addr → Prop} {s : Shared} : Step c f mo s mo s := ⟨fun _ _ _ _ _ e => e, fun _ o e => ⟨o, e⟩, fun _ h => .inl h⟩
theorem Step.ext {c : Cx} {f : Fm} {mo : Addr → Prop} {s s' : Shared} (x : Ext c s s') : Step c f mo s mo s' := ⟨fun b o h _ _ e => x.up.kp b o h e, x.up.th, fun _ h => .inl h⟩
theorem Step.none {c : Cx} {f : Fm} {mo mo' : Addr → Prop} {s s' : Shared} (x : Step c f mo s mo' s') {a : Addr} (e : s'.heap.get? a = none) : s.heap.get? a = none := by
  cases q : s.heap.get? a with
  | none => rfl
  | some o => obtain ⟨o', e'⟩ := x.th a o q; rw [e] at e'; cases e'
theorem Step.trans {c : Cx} {f : Fm} {mo mo' mo'' : Addr → Prop} {s s' s'' : Shared} (a : Step c f mo s mo' s') (b : Step c f mo' s' mo'' s'') : Step c f mo s mo'' s'' where
  kp := fun x o h1 h2 h3 e => b.kp x o h1 h2 (fun h => (a.mo x h).elim h3 fun q => by rw [e] at q; cases q) (a.kp x o h1 h2 h3 e)
  th := fun x o e => let ⟨_, e'⟩ := a.th x o e; b.th x _ e'
  mo := fun x h => (b.mo x h).elim (a.mo x) fun q => .inr (a.none q)
theorem Step.less {c : Cx} {f : Fm} {mo mo' mo'' : Addr → Prop} {s s' : Shared} (h : ∀ b, mo' b → mo b) (b : Step c f mo' s mo'' s') : Step c f mo s mo'' s' where
  kp := fun x o h1 h2 h3 e => b.kp x o h1 h2 (fun q => h3 (h x q)) e
  th := b.th
  mo := fun x q => (b.mo x q).imp (h x) id

def upd {α : Type} (g : Nat → α) (i : Nat) (v : α) : Nat → α := fun j => if j = i then v else g j
theorem upd_self {α : Type} (g : Nat → α) (i : Nat) (v : α) : upd g i v i = v := by simp [upd]
theorem upd_ne {α : Type} (g : Nat → α) (i : Nat) (v : α) {j : Nat} (h : j ≠ i) : upd g i v j = g j := by simp [upd, h]

def SlotOk (f : Fm) (ρ : Rho) (i : Nat) (mo : Addr → Prop) (fp : Nat → List Addr) (h : Heap) (k : K) (as : List Addr) : Prop :=
  match k with
  | .sh => ∀ a ∈ as, ¬ mo a
  | .lo => ∀ a ∈ as, ¬ mo a ∧ f.h₀.get? a = none
  | .ow => as.Nodup ∧ (∀ a ∈ as, ¬ mo a ∧ f.h₀.get? a = none) ∧ (∀ j sl, j ≠ i → ρ[j]? = some (some sl) → ∀ a ∈ fp j, a ∉ as) ∧ ∀ a ∈ as, Pl h a
def moWith (mo : Addr → Prop) (k : K) (as : List Addr) : Addr → Prop := fun a => mo a ∨ (k = .ow ∧ a ∈ as)

section
variable {c : Cx} {f : Fm} {ρ : Rho} {mo : Addr → Prop} {val : Nat → Value} {fp : Nat → List Addr} {s : Shared} {E : Value → Shared → Prop}

theorem pv_obj (S : St c f ρ mo val fp s) {p : Addr} (hp : Pv f p) : ∃ o, s.heap.get? p = some o ∧ ((∃ es n, o.data = .dict es n) ∨ ∃ v, o.data = .cell v) := by
  rcases hp with rfl | ⟨x, hx⟩
  · obtain ⟨m, o, es, ep, ho, hd, _⟩ := S.ns; exact ⟨o, ho, .inl ⟨es, ep, hd⟩⟩
  · obtain ⟨v, o, ho, hd⟩ := S.cells x p hx; exact ⟨o, ho, .inr ⟨v, hd⟩⟩
theorem pv_notX (S : St c f ρ mo val fp s) {p : Addr} (hp : Pv f p) : ¬ c.X p := fun hx => by
  obtain ⟨o, ho, h⟩ := pv_obj S hp
  obtain ⟨ps, q⟩ := S.wf.tab p hx
  rw [q] at ho; cases ho
  rcases h with ⟨_, _, h⟩ | ⟨_, h⟩ <;> cases h

/-- a change at a private place keeps what is read -/
theorem reads_pv (S : St c f ρ mo val fp s) {p : Addr} {h' : Heap} {v : Value} {d : PyData} {as : List Addr} (hp : Pv f p) (hs : Heap.SameBut p s.heap h') (hL : f.env.locals ∉ as) (r : Reads s.heap v d as) : Reads h' v d as := by
  obtain ⟨op, hop, hdp⟩ := pv_obj S hp
  refine reads_upon r (fun a ha o e _ => (hs.2 a fun q => ?_).trans e) (fun a o e ht hd => (hs.2 a fun q => ?_).trans e)
  · subst q
    rcases hp with rfl | ⟨x, hx⟩
    · exact hL ha
    · obtain ⟨v, o2, ho2, hd2⟩ := S.cells x a hx
      obtain ⟨o3, ho3, hl⟩ := reads_objs r a ha
      rw [ho2] at ho3; cases ho3
      rcases hl with ⟨_, _, _, h⟩ | ⟨_, _, _, h⟩ <;> rw [hd2] at h <;> cases h
  · subst q
    rw [hop] at e; cases e
    obtain ⟨vs, n, hd⟩ := hd
    rcases hdp with ⟨_, _, h⟩ | ⟨_, h⟩ <;> rw [hd] at h <;> cases h

theorem St.store {i : Nat} {x : Str} {v : Value} {sl : Slot} {as : List Addr} {p : Addr} {h' : Heap} {tk : Nat} (FS : FmS c f) (S : St c f ρ mo val fp s) (hx : f.xs[i]? = some x) (hi : i < ρ.length)
    (hp : Pv f p) (hs : Heap.SameBut p s.heap h') (hns : ∃ m, h'.Ns f.env.locals m) (hcells : ∀ y a, f.env.cells.lookup y = some a → ∃ v, h'.IsCell a v)
    (hload : Loads f.env h' x v) (hother : ∀ y u, y ≠ x → Loads f.env s.heap y u → Loads f.env h' y u)
    (r : Reads s.heap v sl.d as) (hL : f.env.locals ∉ as) (ok : SlotOk f ρ i mo fp s.heap sl.k as) :
    St c f (ρ.set i (some sl)) (moWith mo sl.k as) (upd val i v) (upd fp i as) { s with heap := h', toks := tk } ∧ (∀ b o, ¬ Pv f b → s.heap.get? b = some o → h'.get? b = some o) ∧ (∀ b o, s.heap.get? b = some o → ∃ o', h'.get? b = some o') := by
  have hB : c.hB.get? p = none := FS.base.none (FS.pv p hp)
  have hX := pv_notX S hp
  have slot : ∀ j t, (ρ.set i (some sl))[j]? = some (some t) → (j = i ∧ t = sl) ∨ (j ≠ i ∧ ρ[j]? = some (some t)) := fun j t e => by
    rw [List.getElem?_set] at e
    by_cases q : i = j
    · rw [if_pos q, if_pos hi] at e; cases e; exact .inl ⟨q.symm, rfl⟩
    · rw [if_neg q] at e; exact .inr ⟨fun h => q h.symm, e⟩
  have asmo : ∀ a ∈ as, ¬ mo a := fun a ha => by
    revert ok; unfold SlotOk
    cases sl.k with
    | sh => exact fun q => q a ha
    | lo => exact fun q => (q a ha).1
    | ow => exact fun q => (q.2.1 a ha).1
  have keepB : ∀ b o, b ≠ p → s.heap.get? b = some o → h'.get? b = some o := fun b o hb e => (hs.2 b hb).trans e
  obtain ⟨op, hop, hdp⟩ := pv_obj S hp
  have th : ∀ b o, s.heap.get? b = some o → ∃ o', h'.get? b = some o' := fun b o e => by
    by_cases q : b = p
    · subst q
      rcases hp with rfl | ⟨y, hy⟩
      · obtain ⟨m, o', _, _, ho', _⟩ := hns; exact ⟨o', ho'⟩
      · obtain ⟨_, o', ho', _⟩ := hcells y b hy; exact ⟨o', ho'⟩
    · exact ⟨o, keepB b o q e⟩
  have ldNotPv : ∀ a o, s.heap.get? a = some o → ListOrDict o → a ≠ f.env.locals → a ≠ p := fun a o e hl hn q => by
    subst q
    rcases hp with rfl | ⟨y, hy⟩
    · exact hn rfl
    · obtain ⟨v, o2, ho2, hd2⟩ := S.cells y a hy
      rw [ho2] at e; cases e
      rcases hl with ⟨_, _, _, h⟩ | ⟨_, _, _, h⟩ <;> rw [hd2] at h <;> cases h
  refine ⟨?_, fun b o h2 e => keepB b o (fun q => h2 (q ▸ hp)) e, th⟩
  · refine ⟨S.wf.sameBut hs hB hX, S.ok, ⟨fun b o h e => ?_, fun b o e => ?_⟩, hns, hcells, fun j t e => ?_, fun j t e ho => ?_, fun j t e ho => ?_, fun j t e hl => ?_, fun j j' t t' hne e e' ho ho' => ?_, fun a h => ?_, fun a h => ?_, ?_, fun j t e => ?_⟩
    · exact keepB b o (fun q => by have := FS.pv p hp; rw [← q, e] at this; cases this) (S.keep.kp b o h e)
    · obtain ⟨o', e'⟩ := S.keep.th b o e; exact th b o' e'
    · rcases slot j t e with ⟨rfl, rfl⟩ | ⟨hj, e⟩
      · exact ⟨x, hx, by rw [upd_self]; exact hload, by rw [upd_self, upd_self]; exact reads_pv S hp hs hL r⟩
      · obtain ⟨y, h1, h2, h3⟩ := S.var j t e
        have hyx : y ≠ x := fun q => hj (by
          subst q
          have hl1 : j < f.xs.length := (List.getElem?_eq_some_iff.mp h1).1
          exact (List.getElem?_inj hl1 FS.nd).mp (h1.trans hx.symm))
        exact ⟨y, h1, by rw [upd_ne _ _ _ hj]; exact hother y _ hyx h2, by rw [upd_ne _ _ _ hj, upd_ne _ _ _ hj]; exact reads_pv S hp hs (S.fpL j t e) h3⟩
    · rcases slot j t e with ⟨rfl, rfl⟩ | ⟨hj, e⟩
      · rw [upd_self]; simp only [SlotOk, ho] at ok; exact ⟨ok.1, fun a ha => .inr ⟨ho, ha⟩⟩
      · rw [upd_ne _ _ _ hj]; exact ⟨(S.own j t e ho).1, fun a ha => .inl ((S.own j t e ho).2 a ha)⟩
    · rcases slot j t e with ⟨rfl, rfl⟩ | ⟨hj, e⟩
      · rw [upd_self]; exact fun a ha h => h.elim (asmo a ha) fun q => ho q.1
      · rw [upd_ne _ _ _ hj]
        intro a ha h
        rcases h with h | ⟨h, h'⟩
        · exact S.shr j t e ho a ha h
        · simp only [SlotOk, h] at ok; exact ok.2.2.1 j t hj e a ha h'
    · rcases slot j t e with ⟨rfl, rfl⟩ | ⟨hj, e⟩
      · rw [upd_self]; simp only [SlotOk, hl] at ok; exact fun a ha => (ok a ha).2
      · rw [upd_ne _ _ _ hj]; exact S.loc j t e hl
    · rcases slot j t e with ⟨rfl, rfl⟩ | ⟨hj, e1⟩ <;> rcases slot j' t' e' with ⟨rfl, rfl⟩ | ⟨hj', e1'⟩
      · exact absurd rfl hne
      · rw [upd_self, upd_ne _ _ _ hj']
        simp only [SlotOk, ho] at ok
        exact fun a ha h => ok.2.2.1 j' t' hj' e1' a h ha
      · rw [upd_self, upd_ne _ _ _ hj]
        simp only [SlotOk, ho'] at ok
        exact fun a ha h => ok.2.2.1 j t hj e1 a ha h
      · rw [upd_ne _ _ _ hj, upd_ne _ _ _ hj']; exact S.apart j j' t t' hne e1 e1' ho ho'
    · rcases h with h | ⟨h, ha⟩
      · exact S.moNew a h
      · simp only [SlotOk, h] at ok; exact (ok.2.1 a ha).2
    · have : Pl s.heap a := h.elim (S.moPl a) fun q => by
        have ok' := ok
        simp only [SlotOk, q.1] at ok'; exact ok'.2.2.2 a q.2
      obtain ⟨o, ho, hl, hd⟩ := this
      exact ⟨o, keepB a o (ldNotPv a o ho hl (fun q => h.elim (fun h => S.moL (q ▸ h)) fun h => hL (q ▸ h.2))) ho, hl, hd⟩
    · exact fun h => h.elim S.moL fun q => hL q.2
    · rcases slot j t e with ⟨rfl, rfl⟩ | ⟨hj, e⟩
      · rw [upd_self]; exact hL
      · rw [upd_ne _ _ _ hj]; exact S.fpL j t e
end
end Mine

namespace Mine
open PySem PySem.Spec PySem.Calls PyProof.Rows

inductive Fl where
  | next | brk | cont
  | ret (d : PyData) (u : Bool)

def FlOk (f : Fm) (s' : Shared) : Flow → Fl → Prop
  | .next, .next => True
  | .brk, .brk => True
  | .cont, .cont => True
  | .ret v, .ret d u => ∃ as, Reads s'.heap v d as ∧ (∀ a ∈ as, f.h₀.get? a = none) ∧ (u = true → as.Nodup ∧ ∀ a ∈ as, Pl s'.heap a)
  | _, _ => False

def Post (c : Cx) (f : Fm) (mo : Addr → Prop) (s : Shared) (Q : Fl → Rho → Prop) (fl : Flow) (s' : Shared) : Prop :=
  ∃ fl' ρ' mo' val' fp', FlOk f s' fl fl' ∧ St c f ρ' mo' val' fp' s' ∧ Step c f mo s mo' s' ∧ Q fl' ρ'

def Ex1 (c : Cx) (f : Fm) (st : Stmt) (ρ : Rho) (Q : Fl → Rho → Prop) : Prop :=
  ∀ mo val fp s, St c f ρ mo val fp s → wpAny c.M f.A (exec st f.env) (Post c f mo s Q) (fun _ _ => False) s
def Ex (c : Cx) (f : Fm) (body : List Stmt) (ρ : Rho) (Q : Fl → Rho → Prop) : Prop :=
  ∀ mo val fp s, St c f ρ mo val fp s → wpAny c.M f.A (execs body f.env) (Post c f mo s Q) (fun _ _ => False) s

def seqQ (c : Cx) (f : Fm) (rest : List Stmt) (Q : Fl → Rho → Prop) : Fl → Rho → Prop
  | .next, ρ => Ex c f rest ρ Q
  | fl, ρ => Q fl ρ

section
variable {c : Cx} {f : Fm} {ρ ρ' : Rho} {mo mo' : Addr → Prop} {val val' : Nat → Value} {fp fp' : Nat → List Addr} {s s' : Shared} {E : Value → Shared → Prop}
  {st : Stmt} {rest body orelse : List Stmt} {Q : Fl → Rho → Prop} {e : Expr} {d : PyData} {k : EK} {pos : Pos}

theorem Post.mono {Q' : Fl → Rho → Prop} {fl : Flow} (h : Post c f mo s Q fl s') (hq : ∀ fl ρ, Q fl ρ → Q' fl ρ) : Post c f mo s Q' fl s' :=
  let ⟨a, b, m, v, p, h1, h2, h3, h4⟩ := h; ⟨a, b, m, v, p, h1, h2, h3, hq _ _ h4⟩
theorem Post.later {fl : Flow} {s1 : Shared} (x : Step c f mo s mo' s1) (h : Post c f mo' s1 Q fl s') : Post c f mo s Q fl s' :=
  let ⟨a, b, m, v, p, h1, h2, h3, h4⟩ := h; ⟨a, b, m, v, p, h1, h2, x.trans h3, h4⟩

theorem ex_nil (h : Q .next ρ) : Ex c f [] ρ Q := fun mo val fp s S => wpAny_execs_nil ⟨.next, ρ, mo, val, fp, trivial, S, Step.refl, h⟩
theorem ex_cons (h : Ex1 c f st ρ (seqQ c f rest Q)) : Ex c f (st :: rest) ρ Q := fun mo val fp s S => by
  refine wpAny_execs_cons (wpAny_mono (h mo val fp s S) (fun fl s1 hp => ?_) fun _ _ z => z)
  obtain ⟨fl', ρ', mo', val', fp', h1, h2, h3, h4⟩ := hp
  cases fl <;> cases fl' <;> first | exact h1.elim | skip
  · exact wpAny_mono (h4 mo' val' fp' s1 h2) (fun fl s2 hp => hp.later h3) fun _ _ z => z
  · exact ⟨.brk, ρ', mo', val', fp', h1, h2, h3, h4⟩
  · exact ⟨.cont, ρ', mo', val', fp', h1, h2, h3, h4⟩
  · exact ⟨.ret _ _, ρ', mo', val', fp', h1, h2, h3, h4⟩
theorem ex_one (h : Ex1 c f st ρ Q) : Ex c f [st] ρ Q := ex_cons fun mo val fp s S => wpAny_mono (h mo val fp s S) (fun fl s1 hp => hp.mono fun fl ρ q => by
  cases fl <;> first | exact ex_nil q | exact q) fun _ _ z => z
theorem Ex.mono {Q' : Fl → Rho → Prop} (h : Ex c f body ρ Q) (hq : ∀ fl ρ, Q fl ρ → Q' fl ρ) : Ex c f body ρ Q' := fun mo val fp s S => wpAny_mono (h mo val fp s S) (fun _ _ hp => hp.mono hq) fun _ _ z => z
theorem Ex1.mono {Q' : Fl → Rho → Prop} (h : Ex1 c f st ρ Q) (hq : ∀ fl ρ, Q fl ρ → Q' fl ρ) : Ex1 c f st ρ Q' := fun mo val fp s S => wpAny_mono (h mo val fp s S) (fun _ _ hp => hp.mono hq) fun _ _ z => z

/-! less knowledge -/
def K.le : K → K → Bool
  | .sh, _ => true
  | .lo, .sh => false
  | .lo, _ => true
  | .ow, .ow => true
  | .ow, _ => false
def Sub (ρ ρ' : Rho) : Prop := ∀ (i : Nat) (sl' : Slot), ρ'[i]? = some (some sl') → ∃ sl : Slot, ρ[i]? = some (some sl) ∧ sl.d = sl'.d ∧ (sl'.k.le sl.k = true ∨ flat sl.d = true)
def moOf (ρ : Rho) (fp : Nat → List Addr) : Addr → Prop := fun a => ∃ (i : Nat) (sl : Slot), ρ[i]? = some (some sl) ∧ sl.k = .ow ∧ a ∈ fp i

theorem Sub.nil : Sub [] [] := fun i sl e => by simp at e
theorem Sub.cons_same {o : Option Slot} (h : Sub ρ ρ') : Sub (o :: ρ) (o :: ρ') := fun i sl e => by
  cases i with
  | zero => simp at e; subst e; exact ⟨sl, rfl, rfl, .inl (by cases sl.k <;> rfl)⟩
  | succ i => simpa using h i sl (by simpa using e)
theorem Sub.cons_none {o : Option Slot} (h : Sub ρ ρ') : Sub (o :: ρ) (none :: ρ') := fun i sl e => by
  cases i with
  | zero => simp at e
  | succ i => simpa using h i sl (by simpa using e)
theorem Sub.cons_k {k k' : K} {d : PyData} (h : Sub ρ ρ') (hk : k'.le k = true ∨ flat d = true) : Sub (some ⟨k, d⟩ :: ρ) (some ⟨k', d⟩ :: ρ') := fun i sl e => by
  cases i with
  | zero => simp at e; subst e; exact ⟨⟨k, d⟩, rfl, rfl, hk⟩
  | succ i => simpa using h i sl (by simpa using e)
theorem Sub.refl : Sub ρ ρ := fun i sl e => ⟨sl, e, rfl, .inl (by cases sl.k <;> rfl)⟩

theorem St.weaken (S : St c f ρ mo val fp s) (h : Sub ρ ρ') : St c f ρ' (moOf ρ' fp) val fp s ∧ ∀ b, moOf ρ' fp b → mo b := by
  have key : ∀ b, moOf ρ' fp b → mo b := fun b ⟨i, sl, e, hk, hb⟩ => by
    obtain ⟨sl0, e0, hd, hle⟩ := h i sl e
    rcases hle with hle | hf
    · exact (S.own i sl0 e0 (by rw [hk] at hle; revert hle; cases sl0.k <;> simp [K.le])).2 b hb
    · obtain ⟨_, _, _, r⟩ := S.var i sl0 e0; rw [reads_flat r hf] at hb; cases hb
  refine ⟨⟨S.wf, S.ok, S.keep, S.ns, S.cells, fun i sl e => ?_, fun i sl e hk => ?_, fun i sl e hk a ha hm => ?_, fun i sl e hk a ha => ?_, fun i j sl sl' hne e e' hk hk' => ?_, fun a ha => S.moNew a (key a ha), fun a ha => S.moPl a (key a ha), fun ha => S.moL (key _ ha), fun i sl e => ?_⟩, key⟩
  · obtain ⟨sl0, e0, hd, _⟩ := h i sl e
    obtain ⟨x, h1, h2, h3⟩ := S.var i sl0 e0
    exact ⟨x, h1, h2, hd ▸ h3⟩
  · obtain ⟨sl0, e0, hd, hle⟩ := h i sl e
    refine ⟨?_, fun a ha => ⟨i, sl, e, hk, ha⟩⟩
    rcases hle with hle | hf
    · exact (S.own i sl0 e0 (by rw [hk] at hle; revert hle; cases sl0.k <;> simp [K.le])).1
    · obtain ⟨_, _, _, r⟩ := S.var i sl0 e0; rw [reads_flat r hf]; exact .nil
  · obtain ⟨sl0, e0, hd, hle⟩ := h i sl e
    obtain ⟨j, slj, ej, hkj, haj⟩ := hm
    obtain ⟨slj0, ej0, hdj, hlej⟩ := h j slj ej
    have hij : i ≠ j := fun q => by subst q; rw [e] at ej; cases ej; exact hk hkj
    rcases hlej with hlej | hfj
    · have hoj : slj0.k = .ow := by rw [hkj] at hlej; revert hlej; cases slj0.k <;> simp [K.le]
      by_cases ho : sl0.k = .ow
      · exact S.apart i j sl0 slj0 hij e0 ej0 ho hoj a ha haj
      · exact S.shr i sl0 e0 ho a ha ((S.own j slj0 ej0 hoj).2 a haj)
    · obtain ⟨_, _, _, r⟩ := S.var j slj0 ej0; rw [reads_flat r hfj] at haj; cases haj
  · obtain ⟨sl0, e0, hd, hle⟩ := h i sl e
    rcases hle with hle | hf
    · rw [hk] at hle
      cases hq : sl0.k with
      | sh => rw [hq] at hle; cases hle
      | lo => exact S.loc i sl0 e0 hq a ha
      | ow => exact S.moNew a ((S.own i sl0 e0 hq).2 a ha)
    · obtain ⟨_, _, _, r⟩ := S.var i sl0 e0; rw [reads_flat r hf] at ha; cases ha
  · obtain ⟨sl0, e0, hd, hle⟩ := h i sl e
    obtain ⟨slj0, ej0, hdj, hlej⟩ := h j sl' e'
    rcases hle with hle | hf
    · rcases hlej with hlej | hfj
      · exact S.apart i j sl0 slj0 hne e0 ej0 (by rw [hk] at hle; revert hle; cases sl0.k <;> simp [K.le]) (by rw [hk'] at hlej; revert hlej; cases slj0.k <;> simp [K.le])
      · obtain ⟨_, _, _, r⟩ := S.var j slj0 ej0; rw [reads_flat r hfj]; exact fun a _ q => by cases q
    · obtain ⟨_, _, _, r⟩ := S.var i sl0 e0; rw [reads_flat r hf]; exact fun a q => by cases q
  · obtain ⟨sl0, e0, _, _⟩ := h i sl e; exact S.fpL i sl0 e0

theorem Ex.weaken (h : Ex c f body ρ' Q) (hs : Sub ρ ρ') : Ex c f body ρ Q := fun mo val fp s S => by
  obtain ⟨S', hm⟩ := S.weaken hs
  refine wpAny_mono (h _ _ _ _ S') (fun fl s1 hp => ?_) fun _ _ z => z
  obtain ⟨a, b, m, v, p, h1, h2, h3, h4⟩ := hp
  exact ⟨a, b, m, v, p, h1, h2, h3.less hm, h4⟩

/-! a store into a variable -/
theorem store_step {x : Str} {i : Nat} {v : Value} {sl : Slot} {as : List Addr} {Q : Unit → Shared → Prop} (FS : FmS c f) (S : St c f ρ mo val fp s) (hx : f.xs[i]? = some x) (hi : i < ρ.length)
    (r : Reads s.heap v sl.d as) (hL : f.env.locals ∉ as) (ok : SlotOk f ρ i mo fp s.heap sl.k as)
    (hQ : ∀ s', St c f (ρ.set i (some sl)) (moWith mo sl.k as) (upd val i v) (upd fp i as) s' → (∀ b o, ¬ Pv f b → s.heap.get? b = some o → s'.heap.get? b = some o) → (∀ b o, s.heap.get? b = some o → ∃ o', s'.heap.get? b = some o') → Q () s') :
    wpAny c.M f.A (storeName f.env x v) Q E s := by
  rcases FS.kinds i x hx with hl | ⟨hl, a, ha⟩
  · obtain ⟨m, hm⟩ := S.ns
    refine wpAny_storeName_local hl hm (fun h' hn hs => ?_) (by rw [S.ok.kind]; rfl)
    have := S.store (v := v) (sl := sl) (as := as) (p := f.env.locals) (h' := h') (tk := s.toks + 1) FS hx hi (.inl rfl) hs ⟨_, hn⟩ (fun y a e => ?_) (.inl ⟨hl, _, hn, by simp⟩) (fun y u hy ld => ?_) r hL ok
    · exact hQ _ this.1 this.2.1 this.2.2
    · obtain ⟨v0, o, ho, hd⟩ := S.cells y a e
      refine ⟨v0, o, (hs.2 a fun q => ?_).trans ho, hd⟩
      subst q
      obtain ⟨o2, _, _, ho2, hd2, _⟩ := hm
      rw [ho] at ho2; cases ho2; rw [hd] at hd2; cases hd2
    · rcases ld with ⟨h1, m1, h2, h3⟩ | ⟨h1, a, h2, h3⟩
      · refine .inl ⟨h1, _, hn, ?_⟩
        have e1 : m1 y = m y := by
          obtain ⟨o1, es1, _, g1, g2, _, g3⟩ := h2
          obtain ⟨o2, es2, _, g4, g5, _, g6⟩ := hm
          rw [g1] at g4; cases g4
          rw [g2] at g5; cases g5
          rw [← g3, ← g6]
        simp only [hy, if_false, ← e1, h3]
      · obtain ⟨o, ho, hd⟩ := h3
        refine .inr ⟨h1, a, h2, o, (hs.2 a fun q => ?_).trans ho, hd⟩
        subst q
        obtain ⟨o2, _, _, ho2, hd2, _⟩ := hm
        rw [ho] at ho2; cases ho2; rw [hd] at hd2; cases hd2
  · obtain ⟨v0, hv0⟩ := S.cells x a ha
    refine wpAny_storeName_cell S.ok.kind hl ha hv0 fun h' hv hs => ?_
    have := S.store (v := v) (sl := sl) (as := as) (p := a) (h' := h') (tk := s.toks) FS hx hi (.inr ⟨x, ha⟩) hs ?_ (fun y b e => ?_) (.inr ⟨.inl hl, a, ha, hv⟩) (fun y u hy ld => ?_) r hL ok
    · exact hQ _ this.1 this.2.1 this.2.2
    · obtain ⟨m, o, es, ep, ho, hd, q⟩ := S.ns
      refine ⟨m, o, es, ep, (hs.2 _ fun q => ?_).trans ho, hd, q⟩
      obtain ⟨o2, ho2, hd2⟩ := hv0
      rw [q, ho2] at ho; cases ho; rw [hd2] at hd; cases hd
    · by_cases q : b = a
      · subst q; exact ⟨_, hv⟩
      · obtain ⟨v1, o, ho, hd⟩ := S.cells y b e
        exact ⟨v1, o, (hs.2 b q).trans ho, hd⟩
    · rcases ld with ⟨h1, m1, ⟨o, es, ep, ho, hd, h2⟩, h3⟩ | ⟨h1, b, h2, h3⟩
      · refine .inl ⟨h1, m1, ⟨o, es, ep, (hs.2 _ fun q => ?_).trans ho, hd, h2⟩, h3⟩
        obtain ⟨o2, ho2, hd2⟩ := hv0
        rw [q, ho2] at ho; cases ho; rw [hd2] at hd; cases hd
      · obtain ⟨o, ho, hd⟩ := h3
        exact .inr ⟨h1, b, h2, o, (hs.2 b fun q => hy (FS.inj y x a (q ▸ h2) ha)).trans ho, hd⟩

/-- what kind of slot a value of a kind may fill -/
inductive Fills : EK → PyData → K → Prop
  | fr {d : PyData} : Fills .fr d .ow
  | lo {d : PyData} : Fills .lo d .lo
  | frlo {d : PyData} : Fills .fr d .lo
  | sh {d : PyData} : Fills .sh d .sh
  | flat {k : EK} {d : PyData} {k' : K} : flat d = true → Fills k d k'

theorem Fills.ok {k : EK} {d : PyData} {sk : K} {v : Value} {as : List Addr} (h : Fills k d sk) (S : St c f ρ mo val fp s) (x : Ext c s s') (r : Reads s'.heap v d as) (ko : KOk f mo fp s.heap s'.heap k as) {i : Nat} :
    SlotOk f ρ i mo fp s'.heap sk as ∧ (sk = .ow → ∀ a ∈ as, s.heap.get? a = none) := by
  have fpIn : ∀ j sl, ρ[j]? = some (some sl) → ∀ a ∈ fp j, ∃ o, s.heap.get? a = some o := fun j sl e a ha => by
    obtain ⟨_, _, _, r⟩ := S.var j sl e
    obtain ⟨o, ho, _⟩ := reads_objs r a ha; exact ⟨o, ho⟩
  cases h with
  | fr => exact ⟨⟨ko.2.1, (KOk.fr_lo S ko).2, fun j sl _ e a ha h => (by obtain ⟨o, ho⟩ := fpIn j sl e a ha; rw [ko.2.2.1 a h] at ho; cases ho), ko.2.2.2⟩, fun _ => ko.2.2.1⟩
  | lo => exact ⟨ko.2, by nofun⟩
  | frlo => exact ⟨(KOk.fr_lo S ko).2, by nofun⟩
  | sh => exact ⟨ko.2, by nofun⟩
  | flat hf =>
    rw [reads_flat r hf]
    refine ⟨?_, by nofun⟩
    cases sk with
    | sh => exact nofun
    | lo => exact nofun
    | ow => exact ⟨.nil, nofun, fun _ _ _ _ _ _ h => (by cases h), nofun⟩

theorem ex_assign {x : Str} {xp : Pos} {i : Nat} {sk : K} (FS : FmS c f) (hx : f.xs[i]? = some x) (hi : i < ρ.length) (h : Ev c f ρ e d k) (hk : Fills k d sk)
    (hQ : Q .next (ρ.set i (some ⟨sk, d⟩))) (hs : ∀ env, swapsWith e (some (.Name x xp)) pos.line env = pure false := by intro _; rfl) : Ex1 c f (.Assign [.Name x xp] e pos) ρ Q := fun mo val fp s S => by
  refine wpAny_Assign_Name (h.bind S fun v s1 as x1 S1 r1 ko => ?_) (hs _)
  obtain ⟨ok, fresh⟩ := hk.ok S x1 r1 ko (i := i)
  refine store_step (sl := ⟨sk, d⟩) FS S1 hx hi r1 ko.1 ok fun s2 S2 hk2 th2 => ?_
  refine ⟨.next, _, _, _, _, trivial, S2, ⟨fun b o h1 h2 h3 e => hk2 b o h2 (x1.up.kp b o h1 e), fun b o e => let ⟨o', e'⟩ := x1.up.th b o e; th2 b o' e', fun b h => ?_⟩, hQ⟩
  rcases h with h | ⟨h, hb⟩
  · exact .inl h
  · exact .inr (fresh h b hb)

theorem ex_return {u : Bool} (h : Ev c f ρ e d k) (hk : (k = .fr) ∨ (k = .lo ∧ u = false) ∨ (flat d = true) ∨ (∃ is : List Nat, k = .us is ∧ is.Nodup ∧ ∀ i ∈ is, ∃ sl : Slot, ρ[i]? = some (some sl) ∧ sl.k = .ow))
    (hQ : Q (.ret d u) ρ) : Ex1 c f (.Return (some e) pos) ρ Q := fun mo val fp s S => by
  refine wpAny_Return_some (h.bind S fun v s1 as x1 S1 r1 ko => ?_)
  refine ⟨.ret d u, ρ, mo, val, fp, ⟨as, r1, ?_⟩, S1, Step.ext x1, hQ⟩
  rcases hk with rfl | ⟨rfl, rfl⟩ | hf | ⟨is, rfl, hn, hi⟩
  · exact ⟨fun a ha => S.keep.none (ko.2.2.1 a ha), fun _ => ⟨ko.2.1, ko.2.2.2⟩⟩
  · exact ⟨fun a ha => (ko.2 a ha).2, by nofun⟩
  · rw [reads_flat r1 hf]; exact ⟨nofun, fun _ => ⟨.nil, nofun⟩⟩
  · have : as = is.flatMap fp := ko.2
    subst this
    refine ⟨fun a ha => ?_, fun _ => ⟨?_, fun a ha => ?_⟩⟩
    · obtain ⟨i, h1, h2⟩ := List.mem_flatMap.mp ha
      obtain ⟨sl, h3, h4⟩ := hi i h1
      exact S.moNew a ((S.own i sl h3 h4).2 a h2)
    · clear h r1 ko
      induction is with
      | nil => exact .nil
      | cons i is ih =>
        rw [List.flatMap_cons]
        obtain ⟨sl, h3, h4⟩ := hi i (List.mem_cons_self ..)
        refine List.nodup_append.mpr ⟨(S.own i sl h3 h4).1, ih (List.nodup_cons.mp hn).2 fun j hj => hi j (List.mem_cons_of_mem _ hj), fun a ha b hb q => ?_⟩
        subst q
        obtain ⟨j, h5, h6⟩ := List.mem_flatMap.mp hb
        obtain ⟨sl', h7, h8⟩ := hi j (List.mem_cons_of_mem _ h5)
        exact S.apart i j sl sl' (fun q => (List.nodup_cons.mp hn).1 (q ▸ h5)) h3 h7 h4 h8 a ha h6
    · obtain ⟨i, h1, h2⟩ := List.mem_flatMap.mp ha
      obtain ⟨sl, h3, h4⟩ := hi i h1
      exact S1.moPl a ((S.own i sl h3 h4).2 a h2)

theorem ex_if {t : Expr} {q : Bool} (ht : Tst c f ρ t q) (h1 : q = true → Ex c f body ρ Q) (h2 : q = false → Ex c f orelse ρ Q) : Ex1 c f (.If t body orelse pos) ρ Q := fun mo val fp s S => by
  refine wpAny_If (ht.bind S fun s1 x1 S1 => ?_)
  cases q with
  | true => exact wpAny_mono (h1 rfl mo val fp s1 S1) (fun _ _ hp => hp.later (Step.ext x1)) fun _ _ z => z
  | false => exact wpAny_mono (h2 rfl mo val fp s1 S1) (fun _ _ hp => hp.later (Step.ext x1)) fun _ _ z => z
end
end Mine

namespace Mine
open PySem PySem.Spec PySem.Calls PyProof.Rows

/-! changes at the objects of fields that the call itself has made (iterators) -/
theorem oldK_but {h₀ h h' : Heap} {wr : List Addr} (K : OldK h₀ h) (hB : ∀ b ∈ wr, h₀.get? b = none) (hk : ∀ b o, b ∉ wr → h.get? b = some o → h'.get? b = some o) : OldK h₀ h' := by
  have ne : ∀ b o, h₀.get? b = some o → b ∉ wr := fun b o e q => by rw [hB b q] at e; cases e
  refine ⟨fun b o e => ?_, fun b o e => let ⟨o', ho'⟩ := K.there b o e; ⟨o', hk b o' (ne b o e) ho'⟩⟩
  rcases K.old b o e with x | ⟨t, hc, vs, more, hv, x⟩ | ⟨rfl, hc, ⟨o', es, n, ho', r⟩, z⟩
  · exact .inl (hk b o (ne b o e) x)
  · exact .inr (.inl ⟨t, hc, vs, more, hv, hk _ _ (ne b o e) x⟩)
  · have q := hk _ _ (ne _ o e) ho'
    exact .inr (.inr ⟨rfl, hc, ⟨o', es, n, q, r⟩, fun key => by rw [OldK.staticOf_congr (q.trans ho'.symm) key]; exact z key⟩)

section
variable {c : Cx} {f : Fm} {ρ : Rho} {mo : Addr → Prop} {val : Nat → Value} {fp : Nat → List Addr} {s : Shared} {E : Value → Shared → Prop}

theorem reads_soft {h h' : Heap} {wr : List Addr} {v : Value} {d : PyData} {as : List Addr} (hk : ∀ b o, b ∉ wr → h.get? b = some o → h'.get? b = some o)
    (hw : ∀ b ∈ wr, ∃ o vs, h.get? b = some o ∧ o.data = .fields vs) (r : Reads h v d as) : Reads h' v d as := by
  refine reads_upon r (fun a ha o e _ => hk a o (fun q => ?_) e) (fun a o e _ hd => hk a o (fun q => ?_) e)
  · obtain ⟨o1, h1, h2⟩ := reads_objs r a ha
    obtain ⟨o2, vs, h3, h4⟩ := hw a q
    rw [h1] at h3; cases h3
    rcases h2 with ⟨_, _, _, h⟩ | ⟨_, _, _, h⟩ <;> rw [h4] at h <;> cases h
  · obtain ⟨o2, vs, h3, h4⟩ := hw a q
    rw [e] at h3; cases h3
    obtain ⟨_, _, h⟩ := hd
    rw [h4] at h; cases h

theorem St.soft {wr : List Addr} {h' : Heap} {tk : Nat} (S : St c f ρ mo val fp s) (hk : ∀ b o, b ∉ wr → s.heap.get? b = some o → h'.get? b = some o)
    (hw : ∀ b ∈ wr, ∃ o vs, s.heap.get? b = some o ∧ o.data = .fields vs) (hn : ∀ b ∈ wr, f.h₀.get? b = none) (hB : ∀ b ∈ wr, c.hB.get? b = none) (hX : ∀ b ∈ wr, ¬ c.X b) :
    St c f ρ mo val fp { s with heap := h', toks := tk } := by
  have nw : ∀ {b : Addr} {o : Obj}, s.heap.get? b = some o → (∀ vs, o.data ≠ .fields vs) → b ∉ wr := fun {b o} e h q => by
    obtain ⟨o2, vs, h3, h4⟩ := hw b q
    rw [e] at h3; cases h3; exact h vs h4
  have nsK : ∀ {a m}, s.heap.Ns a m → h'.Ns a m := fun ⟨o, es, ep, ho, hd, r⟩ => ⟨o, es, ep, hk _ o (nw ho (by rw [hd]; nofun)) ho, hd, r⟩
  have cellK : ∀ {a v}, s.heap.IsCell a v → h'.IsCell a v := fun ⟨o, ho, hd⟩ => ⟨o, hk _ o (nw ho (by rw [hd]; nofun)) ho, hd⟩
  refine ⟨⟨fun b o h e => ?_, fun b h => ?_, oldK_but S.wf.old hB hk, S.wf.gens, S.wf.os⟩, S.ok, ⟨fun b o h e => ?_, fun b o e => ?_⟩, let ⟨m, n⟩ := S.ns; ⟨m, nsK n⟩,
    fun x a e => let ⟨v, n⟩ := S.cells x a e; ⟨v, cellK n⟩, fun i sl e => ?_, S.own, S.shr, S.loc, S.apart, S.moNew, fun a h => ?_, S.moL, S.fpL⟩
  · exact hk b o (fun q => by rw [hB b q] at e; cases e) (S.wf.base b o h e)
  · obtain ⟨ps, q⟩ := S.wf.tab b h; exact ⟨ps, hk _ _ (fun q => hX b q h) q⟩
  · exact hk b o (fun q => by rw [hn b q] at e; cases e) (S.keep.kp b o h e)
  · obtain ⟨o', e'⟩ := S.keep.th b o e; exact ⟨o', hk b o' (fun q => by rw [hn b q] at e; cases e) e'⟩
  · obtain ⟨x, h1, h2, h3⟩ := S.var i sl e
    refine ⟨x, h1, ?_, reads_soft hk hw h3⟩
    rcases h2 with ⟨g1, m, g2, g3⟩ | ⟨g1, a, g2, g3⟩
    · exact .inl ⟨g1, m, nsK g2, g3⟩
    · exact .inr ⟨g1, a, g2, cellK g3⟩
  · obtain ⟨o, ho, hl, hd⟩ := S.moPl a h
    exact ⟨o, hk a o (nw ho (by rcases hl with ⟨_, _, _, q⟩ | ⟨_, _, _, q⟩ <;> rw [q] <;> nofun)) ho, hl, hd⟩

/-- tuples stand under any step -/
theorem Step.tuple {mo' : Addr → Prop} {s' : Shared} (S : St c f ρ mo val fp s) (x : Step c f mo s mo' s') {a : Addr} {o : Obj} (e : s.heap.get? a = some o) (hc : o.cls = .type "tuple") (hd : ∃ vs n, o.data = .seq vs n) : s'.heap.get? a = some o := by
  obtain ⟨vs, n, hd⟩ := hd
  refine x.kp a o (not_tab S.wf e (by rw [hc]; nofun)) (fun hp => ?_) (fun hm => ?_) e
  · obtain ⟨o2, h2, h3⟩ := pv_obj S hp
    rw [e] at h2; cases h2
    rcases h3 with ⟨_, _, h⟩ | ⟨_, h⟩ <;> rw [hd] at h <;> cases h
  · obtain ⟨o2, h2, h3⟩ := S.moIn a hm
    rw [e] at h2; cases h2
    rcases h3 with ⟨h, _⟩ | ⟨h, _⟩ <;> rw [hc] at h <;> simp at h

def EK.safe : EK → Bool
  | .sh | .lo | .fr => true
  | _ => false

structure Itr (c : Cx) (f : Fm) (mo : Addr → Prop) (fp : Nat → List Addr) (s s2 : Shared) (ds : List PyData) (k : EK) (I : Addr) (Fp wr : List Addr) (P : Nat → Value → Prop) (Sx : Nat → Heap → Prop) (as : List Addr) : Prop where
  walks : Walks c.prog c.w f.A I Fp wr ds.length P Sx
  start : Sx 0 s2.heap
  inH : ∀ b ∈ Fp, ∃ o, s2.heap.get? b = some o
  npv : ∀ b ∈ Fp, ¬ Pv f b
  nX : ∀ b ∈ Fp, ¬ c.X b
  nmo : k.safe = true → ∀ b ∈ Fp, ¬ mo b
  fld : ∀ i h, Sx i h → ∀ b ∈ wr, ∃ o vs, h.get? b = some o ∧ o.data = .fields vs
  new : ∀ b ∈ wr, s.heap.get? b = none
  val : ∀ j v d, P j v → ds[j]? = some d → ∃ bs, bs.Sublist as ∧ Reads s2.heap v d bs
  ok : KOk f mo fp s.heap s2.heap k as
  asIn : ∀ a ∈ as, ∃ o, s2.heap.get? a = some o ∧ ListOrDict o

def It (c : Cx) (f : Fm) (ρ : Rho) (e : Expr) (ds : List PyData) (k : EK) : Prop :=
  ∀ mo val fp s E, St c f ρ mo val fp s → wpAny c.M f.A (eval e f.env) (fun xv s1 => wpAny c.M f.A (pyIter xv) (fun it s2 => Ext c s s2 ∧
    ∃ I Fp wr P Sx as, it = .ref I ∧ Itr c f mo fp s s2 ds k I Fp wr P Sx as) E s1) E s

/-- slots of a loop's name -/
inductive Fills2 : EK → List PyData → K → Prop
  | sh {ds : List PyData} : Fills2 .sh ds .sh
  | lo {ds : List PyData} : Fills2 .lo ds .lo
  | fr {ds : List PyData} : Fills2 .fr ds .lo
  | flat {k : EK} {ds : List PyData} {sk : K} : k.safe = true → (∀ d ∈ ds, flat d = true) → Fills2 k ds sk
theorem Fills2.safe {k : EK} {ds : List PyData} {sk : K} (h : Fills2 k ds sk) : k.safe = true := by cases h <;> first | rfl | assumption

def loopQ (J : Rho → Prop) (Q : Fl → Rho → Prop) : Fl → Rho → Prop
  | .next, ρ => J ρ
  | .cont, ρ => J ρ
  | .brk, ρ => Q .next ρ
  | .ret d u, ρ => Q (.ret d u) ρ

variable {Q : Fl → Rho → Prop} {body : List Stmt} {pos : Pos}

theorem pv_ld (S : St c f ρ mo val fp s) {a : Addr} {o : Obj} (e : s.heap.get? a = some o) (hl : ListOrDict o) (hn : a ≠ f.env.locals) : ¬ Pv f a := fun hp => by
  rcases hp with rfl | ⟨y, hy⟩
  · exact hn rfl
  · obtain ⟨v, o2, ho2, hd2⟩ := S.cells y a hy
    rw [ho2] at e; cases e
    rcases hl with ⟨_, _, _, h⟩ | ⟨_, _, _, h⟩ <;> rw [hd2] at h <;> cases h

theorem ex_for {x : Str} {xp : Pos} {iter : Expr} {i : Nat} {sk : K} {ds : List PyData} {k : EK} (FS : FmS c f) (hx : f.xs[i]? = some x) (h : It c f ρ iter ds k) (hk : Fills2 k ds sk)
    (J : Nat → Rho → Prop) (h0 : J 0 ρ)
    (hb : ∀ j d ρ', ds[j]? = some d → J j ρ' → i < ρ'.length ∧ Ex c f body (ρ'.set i (some ⟨sk, d⟩)) (loopQ (J (j + 1)) Q))
    (hend : ∀ ρ', J ds.length ρ' → Q .next ρ') (hs : ∀ env x, foldedSetIterable iter env x = pure x := by intro _ _; rfl) : Ex1 c f (.For (.Name x xp) iter body [] pos) ρ Q := fun mo val fp s S => by
  refine wpAny_For (wpAny_mono (h mo val fp s _ S) (fun xv s1 h1 => wpAny_mono h1 (fun it s2 ⟨x2, I, Fp, wr, P, Sx, as, e, T⟩ => ?_) fun _ _ z => z) fun _ _ z => z) (hs _)
  subst e
  have hsafe := hk.safe
  have S2 := S.ext x2
  have wrH0 : ∀ b ∈ wr, f.h₀.get? b = none := fun b hb => S.keep.none (T.new b hb)
  have wrHB : ∀ b ∈ wr, c.hB.get? b = none := fun b hb => FS.base.none (wrH0 b hb)
  have wrX : ∀ b ∈ wr, ¬ c.X b := fun b hb => T.nX b (T.walks.sub b hb)
  have asmo : ∀ a ∈ as, ¬ mo a := by
    have ko := T.ok
    cases k <;> first | (cases hsafe; done) | skip
    · exact ko.2
    · exact fun a ha => (ko.2 a ha).1
    · exact fun a ha => ((KOk.fr_lo S ko).2 a ha).1
  have aslo : k ≠ .sh → ∀ a ∈ as, f.h₀.get? a = none := by
    have ko := T.ok
    cases k <;> first | (cases hsafe; done) | skip
    · exact fun q => absurd rfl q
    · exact fun _ a ha => (ko.2 a ha).2
    · exact fun _ a ha => ((KOk.fr_lo S ko).2 a ha).2
  refine codeAny_forLoop_any (fun n s' => ∃ j ρ' mo' val' fp', j ≤ ds.length ∧ n = ds.length + 1 - j ∧ J j ρ' ∧ St c f ρ' mo' val' fp' s' ∧ Step c f mo s mo' s' ∧ Sx j s'.heap ∧
      (∀ b ∈ Fp, ∃ o, s'.heap.get? b = some o) ∧ (∀ b ∈ Fp, ¬ mo' b) ∧ (∀ a ∈ as, ¬ mo' a) ∧ (∀ a ∈ as, ∀ o, s2.heap.get? a = some o → ListOrDict o → s'.heap.get? a = some o) ∧
      (∀ a o, s2.heap.get? a = some o → o.cls = .type "tuple" → (∃ vs n, o.data = .seq vs n) → s'.heap.get? a = some o)) ?_ (ds.length + 1)
    ⟨0, ρ, mo, val, fp, Nat.zero_le _, rfl, h0, S2, Step.ext x2, T.start, T.inH, T.nmo hsafe, asmo, fun _ _ _ e _ => e, fun _ _ e _ _ => e⟩
  rintro n s' ⟨j, ρ', mo', val', fp', hj, rfl, hJ, S', X', hSx, hin, hnm, hasm, hkeep, htup⟩
  by_cases hlt : j < ds.length
  · refine T.walks.item j s' _ _ hlt hSx fun v h3 tk hP hSx3 hk3 => ?_
    obtain ⟨d, hd⟩ : ∃ d, ds[j]? = some d := ⟨_, List.getElem?_eq_getElem hlt⟩
    obtain ⟨bs, hbs, r2⟩ := T.val j v d hP hd
    have wrF := T.fld j s'.heap hSx
    have S3 := S'.soft (h' := h3) (tk := tk) hk3 wrF wrH0 wrHB wrX
    have asW : ∀ a o, s2.heap.get? a = some o → ListOrDict o → s'.heap.get? a = some o → h3.get? a = some o := fun a o e hl e' => hk3 a o (fun q => by
      obtain ⟨o2, vs, g1, g2⟩ := wrF a q
      rw [e'] at g1; cases g1
      rcases hl with ⟨_, _, _, h⟩ | ⟨_, _, _, h⟩ <;> rw [g2] at h <;> cases h) e'
    have tupW : ∀ a o, s2.heap.get? a = some o → o.cls = .type "tuple" → (∃ vs n, o.data = .seq vs n) → h3.get? a = some o := fun a o e hc hd => hk3 a o (fun q => by
      obtain ⟨o2, vs, g1, g2⟩ := wrF a q
      rw [htup a o e hc hd] at g1; cases g1
      obtain ⟨_, _, h⟩ := hd; rw [g2] at h; cases h) (htup a o e hc hd)
    have r3 : Reads h3 v d bs := reads_upon r2 (fun a ha o e _ => by
        obtain ⟨o1, g1, g2⟩ := reads_objs r2 a ha
        rw [e] at g1; cases g1
        exact asW a o e g2 (hkeep a (hbs.subset ha) o e g2)) tupW
    show wpAny _ _ (letOwnedTupleGo (.Name x xp) (.ref I) v) _ _ _
    refine wpAny_pure (wpAny_assign_Name ?_)
    obtain ⟨hil, hB⟩ := hb j d ρ' hd hJ
    have hL : f.env.locals ∉ bs := fun h => T.ok.1 (hbs.subset h)
    have fl : flat d = true → bs = [] := fun hf => reads_flat r2 hf
    have ok : SlotOk f ρ' i mo' fp' h3 sk bs := by
      cases hk with
      | sh => exact fun a ha => hasm a (hbs.subset ha)
      | lo => exact fun a ha => ⟨hasm a (hbs.subset ha), aslo (by nofun) a (hbs.subset ha)⟩
      | fr => exact fun a ha => ⟨hasm a (hbs.subset ha), aslo (by nofun) a (hbs.subset ha)⟩
      | flat _ hf =>
        rw [fl (hf d (List.mem_of_getElem? hd))]
        cases sk with
        | sh => exact nofun
        | lo => exact nofun
        | ow => exact ⟨.nil, nofun, fun _ _ _ _ _ _ h => (by cases h), nofun⟩
    refine store_step (sl := ⟨sk, d⟩) FS S3 hx hil r3 hL ok fun s4 S4 hk4 th4 => ?_
    -- what lies at the loop's own places stands under the store
    have mo4 : ∀ b, moWith mo' sk bs b → mo' b ∨ b ∈ bs := fun b h => h.imp id And.right
    have bsFlat : sk = .ow → bs = [] := by
      cases hk with
      | sh => nofun
      | lo => nofun
      | fr => nofun
      | flat _ hf => exact fun _ => fl (hf d (List.mem_of_getElem? hd))
    have mo4' : ∀ b, moWith mo' sk bs b → mo' b := fun b h => h.elim id fun ⟨q, hb⟩ => by rw [bsFlat q] at hb; cases hb
    have Fp3 : ∀ b ∈ Fp, ∃ o, h3.get? b = some o := fun b hb => by
      obtain ⟨o, e⟩ := hin b hb
      by_cases q : b ∈ wr
      · obtain ⟨o2, vs, g1, _⟩ := T.fld _ h3 hSx3 b q; exact ⟨o2, g1⟩
      · exact ⟨o, hk3 b o q e⟩
    have X4 : Step c f mo s (moWith mo' sk bs) s4 := ⟨fun b o h1 h2 h3' e => by
        have e1 := X'.kp b o h1 h2 h3' e
        have e2 := hk3 b o (fun q => by rw [T.new b q] at e; cases e) e1
        exact hk4 b o h2 e2, fun b o e => by
        obtain ⟨o1, e1⟩ := X'.th b o e
        have e2 := hk3 b o1 (fun q => by rw [T.new b q] at e; cases e) e1
        exact th4 b o1 e2, fun b h => X'.mo b (mo4' b h)⟩
    have hSx4 : Sx (j + 1) s4.heap := T.walks.frame _ _ _ hSx3 fun b hb o e => hk4 b o (T.npv b hb) e
    have Fp4 : ∀ b ∈ Fp, ∃ o, s4.heap.get? b = some o := fun b hb => let ⟨o, e⟩ := Fp3 b hb; ⟨o, hk4 b o (T.npv b hb) e⟩
    refine wpAny_mono (hB _ _ _ s4 S4) (fun fl s5 hp => ?_) fun _ _ z => z.elim
    obtain ⟨fl', ρ5, mo5, val5, fp5, hfl, S5, X5, hq⟩ := hp
    have X05 := X4.trans X5
    cases fl <;> cases fl' <;> first | exact hfl.elim | skip
    all_goals first
      | exact ⟨.next, ρ5, mo5, val5, fp5, trivial, S5, X05, hq⟩
      | exact ⟨.ret _ _, ρ5, mo5, val5, fp5, hfl, S5, X05, hq⟩
      | skip
    all_goals (
      have keep45 : ∀ b o, ¬ c.X b → ¬ Pv f b → ¬ mo' b → s4.heap.get? b = some o → s5.heap.get? b = some o := fun b o h1 h2 h3' e => X5.kp b o h1 h2 (fun q => h3' (mo4' b q)) e
      refine ⟨ds.length + 1 - (j + 1), by omega, j + 1, ρ5, mo5, val5, fp5, by omega, rfl, hq, S5, X05, ?_, ?_, ?_, ?_, ?_, ?_⟩
      · exact T.walks.frame _ _ _ hSx4 fun b hb o e => keep45 b o (T.nX b hb) (T.npv b hb) (hnm b hb) e
      · exact fun b hb => let ⟨o, e⟩ := Fp4 b hb; ⟨o, keep45 b o (T.nX b hb) (T.npv b hb) (hnm b hb) e⟩
      · intro b hb h
        rcases X5.mo b h with q | q
        · exact hnm b hb (mo4' b q)
        · obtain ⟨o, e⟩ := Fp4 b hb; rw [q] at e; cases e
      · intro a ha h
        rcases X5.mo a h with q | q
        · exact hasm a ha (mo4' a q)
        · rcases X05.mo a h with q' | q'
          · exact asmo a ha q'
          · obtain ⟨o, g1, g2⟩ := T.asIn a ha
            have g3 := hkeep a ha o g1 g2
            have g4 := asW a o g1 g2 g3
            have hnl : a ≠ f.env.locals := fun q => T.ok.1 (q ▸ ha)
            have g5 := hk4 a o (pv_ld S2 g1 g2 hnl) g4
            rw [q] at g5; cases g5
      · intro a ha o e hl
        have g3 := hkeep a ha o e hl
        have g4 := asW a o e hl g3
        have hnl : a ≠ f.env.locals := fun q => T.ok.1 (q ▸ ha)
        have hnp := pv_ld S2 e hl hnl
        have hnX : ¬ c.X a := not_tab S2.wf e (by rcases hl with ⟨q, _⟩ | ⟨q, _⟩ <;> rw [q] <;> nofun)
        exact keep45 a o hnX hnp (hasm a ha) (hk4 a o hnp g4)
      · intro a o e hc hd'
        have g4 := tupW a o e hc hd'
        have hnp : ¬ Pv f a := fun hp => by
          obtain ⟨o2, h2, h3'⟩ := pv_obj S3 hp
          rw [show ({ s' with heap := h3, toks := tk } : Shared).heap.get? a = some o from g4] at h2; cases h2
          obtain ⟨_, _, hd'⟩ := hd'
          rcases h3' with ⟨_, _, h⟩ | ⟨_, h⟩ <;> rw [hd'] at h <;> cases h
        have g5 := hk4 a o hnp g4
        exact X5.tuple S4 g5 hc hd')
  · have hj' : j = ds.length := by omega
    subst hj'
    refine T.walks.done s' _ _ hSx fun h3 tk hk3 => ?_
    refine wpAny_execs_nil ?_
    have wrF := T.fld _ s'.heap hSx
    exact ⟨.next, ρ', mo', val', fp', trivial, S'.soft hk3 wrF wrH0 wrHB wrX, ⟨fun b o h1 h2 h3' e => hk3 b o (fun q => by rw [T.new b q] at e; cases e) (X'.kp b o h1 h2 h3' e),
      fun b o e => let ⟨o1, e1⟩ := X'.th b o e; ⟨o1, hk3 b o1 (fun q => by rw [T.new b q] at e; cases e) e1⟩, X'.mo⟩, hend ρ' hJ⟩

theorem ex_while {t : Expr} (J : Nat → Rho → Prop) {n : Nat} (h0 : J n ρ)
    (hb : ∀ n ρ', J n ρ' → ∃ q, Tst c f ρ' t q ∧ (q = true → Ex c f body ρ' (loopQ (fun ρ'' => ∃ m, m < n ∧ J m ρ'') Q)) ∧ (q = false → Q .next ρ')) : Ex1 c f (.While t body [] pos) ρ Q := fun mo val fp s S => by
  refine wpAny_While ?_
  refine codeAny_whileLoop (fun n s' => ∃ ρ' mo' val' fp', J n ρ' ∧ St c f ρ' mo' val' fp' s' ∧ Step c f mo s mo' s') ?_ n ⟨ρ, mo, val, fp, h0, S, Step.refl⟩
  rintro n s' ⟨ρ', mo', val', fp', hJ, S', X'⟩
  obtain ⟨q, ht, h1, h2⟩ := hb n ρ' hJ
  refine ht.bind S' fun s1 x1 S1 => ?_
  cases q with
  | true =>
    refine wpAny_mono (h1 rfl _ _ _ s1 S1) (fun fl s5 hp => ?_) fun _ _ z => z.elim
    obtain ⟨fl', ρ5, mo5, val5, fp5, hfl, S5, X5, hq⟩ := hp
    have X05 := (X'.trans (Step.ext x1)).trans X5
    cases fl <;> cases fl' <;> first | exact hfl.elim | skip
    · obtain ⟨m, h3, h4⟩ := hq; exact ⟨m, h3, ρ5, mo5, val5, fp5, h4, S5, X05⟩
    · exact ⟨.next, ρ5, mo5, val5, fp5, trivial, S5, X05, hq⟩
    · obtain ⟨m, h3, h4⟩ := hq; exact ⟨m, h3, ρ5, mo5, val5, fp5, h4, S5, X05⟩
    · exact ⟨.ret _ _, ρ5, mo5, val5, fp5, hfl, S5, X05, hq⟩
  | false => exact wpAny_execs_nil ⟨.next, ρ', mo', val', fp', trivial, S1, X'.trans (Step.ext x1), h2 rfl⟩

/-! what may be walked -/
theorem it_list {e : Expr} {ds : List PyData} {k : EK} (h : Ev c f ρ e (.list ds) k) : It c f ρ e ds k.sub := fun mo val fp s E S => by
  refine h.bind S fun v s1 as x1 S1 r1 ko => ?_
  cases r1 with
  | list g1 g2 g3 g4 =>
    rename_i a o vs n bs
    refine wpAny_pyIter_list ⟨_, g1, g2, _, g3⟩ ?_
    have x2 : Ext c s1 { s1 with heap := s1.heap.push { cls := .type "list_iterator", data := .fields #[.ref a, .int 0 0] } } := Ext.push S1.wf _ _
    have hne : a ≠ s1.heap.objs.size := Nat.ne_of_lt (Heap.lt_size g1)
    have hnL : a ≠ f.env.locals := fun q => ko.1 (q ▸ List.mem_cons_self ..)
    have hlen := readsAll_length g4
    have hIn := get_size_none s1.heap
    have g4' := x2.readsAll S1.wf g4
    have hsz : vs.size = ds.length := by simpa using hlen
    refine ⟨x1.trans x2, s1.heap.objs.size, [s1.heap.objs.size, a], [s1.heap.objs.size], _, _, a :: bs, rfl, ⟨hsz ▸ Walks.list S.ok.room.hand s1.heap.objs.size a hne vs,
      ⟨⟨_, Heap.get?_push_size _ rfl, rfl, rfl⟩, ⟨_, x2.up.kp a _ (not_tab S1.wf g1 (by rw [g2]; nofun)) g1, g2, _, g3⟩⟩, fun b hb => ?_, fun b hb => ?_, fun b hb => ?_, fun hs b hb => ?_, fun i h st b hb => ?_, fun b hb => ?_, fun j v d hP hd => ?_, ?_, fun b hb => ?_⟩⟩
    · rcases List.mem_cons.mp hb with rfl | hb
      · exact ⟨_, Heap.get?_push_size _ rfl⟩
      · rw [List.mem_singleton.mp hb]; exact ⟨_, Heap.get?_push_of_some _ g1⟩
    · rcases List.mem_cons.mp hb with rfl | hb
      · intro hp
        obtain ⟨o2, h2, _⟩ := pv_obj S1 hp
        rw [hIn] at h2; cases h2
      · rw [List.mem_singleton.mp hb]; exact pv_ld S1 g1 (.inl ⟨g2, _, _, g3⟩) hnL
    · rcases List.mem_cons.mp hb with rfl | hb
      · intro hx
        obtain ⟨ps, q⟩ := S1.wf.tab _ hx
        rw [hIn] at q; cases q
      · rw [List.mem_singleton.mp hb]; exact not_tab S1.wf g1 (by rw [g2]; nofun)
    · rcases List.mem_cons.mp hb with rfl | hb
      · intro hm
        obtain ⟨o2, h2, _⟩ := S1.moIn _ hm
        rw [hIn] at h2; cases h2
      · rw [List.mem_singleton.mp hb]
        cases k <;> first | (cases hs; done) | skip
        · exact ko.2 a (List.mem_cons_self ..)
        · exact (ko.2 a (List.mem_cons_self ..)).1
        · exact ((KOk.fr_lo S ko).2 a (List.mem_cons_self ..)).1
    · rw [List.mem_singleton.mp hb]
      obtain ⟨o2, h2, _, h3⟩ := st.1
      exact ⟨o2, _, h2, h3⟩
    · rw [List.mem_singleton.mp hb]; exact x1.up.none hIn
    · obtain ⟨v', cs, q1, q2, q3⟩ := readsAll_item g4' hd
      have : v' = v := by
        have h1 : vs.toList[j]? = some v := by simpa using hP
        rw [q1] at h1; exact Option.some.inj h1
      subst this
      exact ⟨cs, q3.trans (List.sublist_cons_self ..), q2⟩
    · exact KOk.sub (ko.later S1.wf x2) (List.Sublist.refl _)
    · rcases List.mem_cons.mp hb with rfl | hb
      · exact ⟨_, Heap.get?_push_of_some _ g1, .inl ⟨g2, _, _, g3⟩⟩
      · exact readsAll_objs g4' b hb

/-- the builtin stands under its name -/
structure Bi (c : Cx) (x : Str) (v : Value) : Prop where
  no : c.mg x = none
  is : bootBuiltins x = some v
  ne : x ≠ "__name__"
theorem builtin_name {x : Str} {v : Value} {pos : Pos} {Q : Value → Shared → Prop} (C : CxOk c) (B : Bi c x v) (hx : f.env.kindOf x = some .globalImplicit) (S : St c f ρ mo val fp s) (h : Q v s)
    (hd : (x == ("__debug__" : Str)) = false := by decide +kernel) : wpAny c.M f.A (eval (.Name x pos) f.env) Q E s :=
  Name_function_global S.ok.kind hx (loadGlobal_builtin (mg := c.mg) (mb := c.mb) (by rw [S.ok.glob]; exact Ns.base S.wf C.g C.gX) B.no (by rw [S.ok.bi]; exact Ns.base S.wf C.b C.bX) ((C.builtins x B.ne).trans B.is) h) hd

def intsL (a : Int) (n : Nat) : List PyData := (List.range n).map fun (i : Nat) => PyData.int (a + (i : Int))
theorem intsL_get {a : Int} {n i : Nat} {d : PyData} (h : (intsL a n)[i]? = some d) : i < n ∧ d = .int (a + i) := by
  unfold intsL at h
  rw [List.getElem?_map] at h
  rcases Nat.lt_or_ge i n with q | q
  · rw [List.getElem?_range q] at h; simp at h; exact ⟨q, h.symm⟩
  · rw [List.getElem?_eq_none (by simpa using q)] at h; simp at h
theorem intsL_length (a : Int) (n : Nat) : (intsL a n).length = n := by simp [intsL]
theorem intsL_flat {a : Int} {n : Nat} : ∀ d ∈ intsL a n, flat d = true := fun d hd => by
  unfold intsL at hd
  obtain ⟨i, _, rfl⟩ := List.mem_map.mp hd
  rfl

theorem itr_range {s1 : Shared} {a : Int} {n : Nat} {o : Obj} {tk : Nat} (S : St c f ρ mo val fp s) (x1 : Ext c s s1) (S1 : St c f ρ mo val fp s1)
    : let s2 : Shared := { s1 with heap := (s1.heap.push o).push { cls := .type "range_iterator", data := .fields #[rawInt a, rawInt n, rawInt 1] }, toks := tk }
      Ext c s s2 ∧ ∃ I Fp wr P Sx as, (Value.ref (s1.heap.push o).objs.size) = .ref I ∧ Itr c f mo fp s s2 (intsL a n) .fr I Fp wr P Sx as := by
  intro s2
  have xs : Ext c s1 s2 := Ext.of S1.wf fun _ _ e => Heap.get?_push_of_some _ (Heap.get?_push_of_some _ e)
  have x2 : Ext c s s2 := x1.trans xs
  have hIn : s1.heap.get? (s1.heap.push o).objs.size = none := by
    cases e : s1.heap.get? (s1.heap.push o).objs.size with
    | none => rfl
    | some o' => have := Heap.lt_size e; rw [Heap.size_push] at this; exact absurd this (Nat.not_lt.mpr (Nat.le_succ _))
  refine ⟨x2, (s1.heap.push o).objs.size, [(s1.heap.push o).objs.size], [(s1.heap.push o).objs.size], _, _, [], rfl, ⟨by rw [intsL_length]; exact Walks.range S.ok.room.hand _ a 1 n, ?_, fun b hb => ?_, fun b hb => ?_, fun b hb => ?_, fun hs b hb => ?_, fun i h st b hb => ?_, fun b hb => ?_, fun j v d hP hd => ?_, ?_, nofun⟩⟩
  · have e1 : (a + ((0 : Nat) : Int) * 1) = a := by simp
    have e2 : ((n : Int) - ((0 : Nat) : Int)) = n := by simp
    rw [e1, e2]
    exact Heap.get?_push_size _ rfl
  · rw [List.mem_singleton.mp hb]; exact ⟨_, Heap.get?_push_size _ rfl⟩
  · rw [List.mem_singleton.mp hb]; intro hp
    obtain ⟨o2, h2, _⟩ := pv_obj S1 hp
    rw [hIn] at h2; cases h2
  · rw [List.mem_singleton.mp hb]; intro hx
    obtain ⟨ps, q⟩ := S1.wf.tab _ hx
    rw [hIn] at q; cases q
  · rw [List.mem_singleton.mp hb]; intro hm
    obtain ⟨o2, h2, _⟩ := S1.moIn _ hm
    rw [hIn] at h2; cases h2
  · rw [List.mem_singleton.mp hb]; exact ⟨_, _, st, rfl⟩
  · rw [List.mem_singleton.mp hb]; exact x1.up.none hIn
  · obtain ⟨h1, rfl⟩ := intsL_get hd
    obtain ⟨t, rfl⟩ := hP
    exact ⟨[], List.Sublist.refl _, by rw [Int.mul_one]; exact .int _ _⟩
  · exact frOk S .nil nofun nofun

theorem it_range1 {e : Expr} {n : Int} {k : EK} {rp : Pos} (C : CxOk c) (B : Bi c "range" (.type "range")) (hx : f.env.kindOf "range" = some .globalImplicit) (h : Ev c f ρ e (.int n) k) (hn : n < 2 ^ 62) (hn' : -(2 ^ 62) ≤ n)
    (he : ∀ env rest, starEach (e :: rest) env = (false, eval e env) :: starEach rest env := by intros; rfl) :
    It c f ρ (.Call (.Name "range" rp) [e] [] pos) (intsL 0 n.toNat) .fr := fun mo val fp s E S => by
  refine Call_ (builtin_name C B hx S ?_)
  refine PySem.callWith_type (by rw [he]; rfl) ?_
  rw [he]
  refine evalArgs_plain (spliced_cons (h.bind S fun v s1 as x1 S1 r1 ko => spliced_nil ?_))
  cases r1
  refine call_range_1 ?_
  refine wpAny_pyIter_range (IsRange.new ..) (small_one (by decide) (by decide) hn' hn) ?_
  have hsz : Builtin.Range.rangeSize 0 n 1 = (n.toNat : Int) := by rw [rangeSize_one]; split <;> omega
  rw [hsz]
  exact itr_range S x1 S1
theorem it_range2 {e1 e2 : Expr} {a n : Int} {k k2 : EK} {rp : Pos} (C : CxOk c) (B : Bi c "range" (.type "range")) (hx : f.env.kindOf "range" = some .globalImplicit) (h1 : Ev c f ρ e1 (.int a) k) (h2 : Ev c f ρ e2 (.int n) k2)
    (ha : a < 2 ^ 62) (ha' : -(2 ^ 62) ≤ a) (hn : n < 2 ^ 62) (hn' : -(2 ^ 62) ≤ n)
    (he1 : ∀ env rest, starEach (e1 :: rest) env = (false, eval e1 env) :: starEach rest env := by intros; rfl) (he2 : ∀ env rest, starEach (e2 :: rest) env = (false, eval e2 env) :: starEach rest env := by intros; rfl) :
    It c f ρ (.Call (.Name "range" rp) [e1, e2] [] pos) (intsL a (n - a).toNat) .fr := fun mo val fp s E S => by
  refine Call_ (builtin_name C B hx S ?_)
  refine PySem.callWith_type (by rw [he1, he2]; rfl) ?_
  rw [he1, he2]
  refine evalArgs_plain (spliced_cons (h1.bind S fun v s1 as x1 S1 r1 ko => spliced_cons (h2.bind S1 fun v2 s2 as2 x2 S2 r2 ko2 => spliced_nil ?_)))
  cases r1; cases r2
  refine call_range_2 ?_
  refine wpAny_pyIter_range (IsRange.new ..) (small_one ha' ha hn' hn) ?_
  have hsz : Builtin.Range.rangeSize a n 1 = ((n - a).toNat : Int) := by rw [rangeSize_one]; split <;> omega
  rw [hsz]
  exact itr_range S (x1.trans x2) S2
end
end Mine

namespace Mine
open PySem PySem.Spec PySem.Calls PyProof.Rows

theorem bindL_notin (kindOf : Str → Option NameKind) {x : Str} : ∀ (binds : List (Str × Value)) (m : Str → Option Value), x ∉ binds.map (·.1) → bindL kindOf binds m x = m x
  | [], m, _ => rfl
  | (n, w) :: r, m, h => by
    have h1 : x ≠ n := fun q => h (by simp [q])
    rw [bindL, bindL_notin kindOf r _ fun q => h (by simp at q ⊢; exact .inr q)]
    split <;> simp [h1]
theorem bindL_get (kindOf : Str → Option NameKind) {x : Str} {v : Value} (hk : kindOf x = some .local) : ∀ (binds : List (Str × Value)) (m : Str → Option Value), (binds.map (·.1)).Nodup → (x, v) ∈ binds → bindL kindOf binds m x = some v
  | [], m, _, h => by cases h
  | (n, w) :: r, m, hn, h => by
    rw [List.map_cons, List.nodup_cons] at hn
    rw [bindL]
    rcases List.mem_cons.mp h with q | q
    · cases q
      rw [bindL_notin kindOf r _ hn.1, if_pos hk]; simp
    · exact bindL_get kindOf hk r _ hn.2 q
theorem bindC_notin (kindOf : Str → Option NameKind) {x : Str} : ∀ (binds : List (Str × Value)) (m : Str → Option Value), x ∉ binds.map (·.1) → bindC kindOf binds m x = m x
  | [], m, _ => rfl
  | (n, w) :: r, m, h => by
    have h1 : x ≠ n := fun q => h (by simp [q])
    rw [bindC, bindC_notin kindOf r _ fun q => h (by simp at q ⊢; exact .inr q)]
    split <;> simp [h1]
theorem bindC_get (kindOf : Str → Option NameKind) {x : Str} {v : Value} (hk : kindOf x ≠ some .local) : ∀ (binds : List (Str × Value)) (m : Str → Option Value), (binds.map (·.1)).Nodup → (x, v) ∈ binds → bindC kindOf binds m x = some v
  | [], m, _, h => by cases h
  | (n, w) :: r, m, hn, h => by
    rw [List.map_cons, List.nodup_cons] at hn
    rw [bindC]
    rcases List.mem_cons.mp h with q | q
    · cases q
      rw [bindC_notin kindOf r _ hn.1, if_neg hk]; simp
    · exact bindC_get kindOf hk r _ hn.2 q
theorem cellsFrom_has {x : Str} : ∀ (names : List (Str × NameKind)) (n : Nat) (acc : List (Str × Addr)), names.lookup x = some .cell ∨ (acc.lookup x).isSome = true → ((cellsFrom n names acc).lookup x).isSome = true
  | [], _, _, h => h.elim (fun e => by cases e) id
  | (y, k) :: r, n, acc, h => by
    unfold cellsFrom
    by_cases hk : (k == .cell) = true
    · rw [if_pos hk]
      refine cellsFrom_has r (n + 1) ((y, n) :: acc) ?_
      by_cases hy : (x == y) = true
      · exact .inr (by rw [List.lookup_cons, hy]; rfl)
      · refine h.imp (fun e => ?_) fun e => ?_
        · rw [List.lookup_cons] at e; simpa only [hy] using e
        · rw [List.lookup_cons]; simpa only [hy] using e
    · rw [if_neg hk]
      refine cellsFrom_has r n acc ?_
      by_cases hy : (x == y) = true
      · refine .inr (h.elim (fun e => ?_) id)
        rw [List.lookup_cons, hy] at e
        exact absurd (by rw [Option.some.inj e]; rfl) hk
      · refine h.imp (fun e => ?_) id
        rw [List.lookup_cons] at e; simpa only [hy] using e

theorem readsAll_fps {h : Heap} : ∀ {vs : List Value} {ds : List PyData} {as : List Addr}, ReadsAll h vs ds as → ∃ fp : Nat → List Addr, ∀ (i : Nat) (d : PyData), ds[i]? = some d → ∃ v, vs[i]? = some v ∧ Reads h v d (fp i)
  | _, _, _, .nil => ⟨fun _ => [], fun i d e => by simp at e⟩
  | _, _, _, .cons (as := as) r rs => by
    obtain ⟨fp, h⟩ := readsAll_fps rs
    refine ⟨fun i => match i with | 0 => as | i + 1 => fp i, fun i d e => ?_⟩
    cases i with
    | zero => simp at e; subst e; exact ⟨_, rfl, r⟩
    | succ i => simpa using h i d (by simpa using e)

def RetQ (res : PyData) (u : Bool) : Fl → Rho → Prop
  | .ret d u', _ => d = res ∧ (u = true → u' = true)
  | .next, _ => res = .none
  | _, _ => False

def startRho (args : List PyData) (rest : List Str) : Rho := args.map (fun a => some ⟨.sh, a⟩) ++ rest.map fun _ => none
theorem startRho_get {args : List PyData} {rest : List Str} {i : Nat} {sl : Slot} (e : (startRho args rest)[i]? = some (some sl)) : args[i]? = some sl.d ∧ sl.k = .sh := by
  unfold startRho at e
  rw [List.getElem?_append] at e
  split at e
  · rw [List.getElem?_map] at e
    cases h : args[i]? with
    | none => rw [h] at e; cases e
    | some a => rw [h] at e; cases e; exact ⟨rfl, rfl⟩
  · rw [List.getElem?_map] at e
    cases h : rest[i - (args.map fun a => (some ⟨.sh, a⟩ : Option Slot)).length]? with
    | none => rw [h] at e; cases e
    | some a => rw [h] at e; cases e

theorem fn_enterC {c : Cx} {d : FnD} {args : List PyData} {res : PyData} {u : Bool} {lv : Nat} (ps rest : List Str) (C : CxOk c)
    (hbind : ∀ pm cd doc (vals : List Value), vals.length = args.length → bindArgs (docDef d.name d.params d.body d.scope pm cd doc) ⟨vals, []⟩ = pure (ps.zip vals))
    (hlen : ps.length = args.length) (nd : (ps ++ rest).Nodup)
    (hk : ((ps ++ rest).all fun x => d.scope.names.lookup x == some .local || d.scope.names.lookup x == some .cell) = true)
    (h1 : d.scope.isCoroutine = false) (h2 : d.scope.isGenerator = false) (h3 : d.scope.kind = .function)
    (h : ∀ f : Fm, f.env.scope = d.scope → f.xs = ps ++ rest → f.lv = lv → (∃ fa o pm doc, Has c d fa o pm f.env.code doc) → FmS c f → Ex c f d.body (startRho args rest) (RetQ res u)) : Fn c (lv + 1) d args res u := by
  intro A s vals ass E fa o pm code doc H R W r
  have hvl := readsAll_length r
  have kinds : ∀ x ∈ ps ++ rest, d.scope.names.lookup x = some .local ∨ d.scope.names.lookup x = some .cell := fun x hx => by
    have := List.all_eq_true.mp hk x hx
    simpa using this
  have hmem : ∀ y ∈ ps.zip vals, y.1 ∈ ps := fun y hy => (List.of_mem_zip hy).1
  refine wpAny_call (call_cells_ret (by have := R.depth; omega) (W.base _ _ H.nX H.obj) H.data (NoLimit.base W C) (H.codeRec W) (hbind pm code doc vals hvl) (fun x hx => ?_) (fun h₁ tk F X => ?_) h1 h2 h3)
  · rcases kinds x.1 (List.mem_append_left _ (hmem x hx)) with q | q
    · exact .inl q
    · exact .inr ⟨q, cellsFrom_has _ _ _ (.inl q)⟩
  · generalize hL : s.heap.objs.size = L at F X ⊢
    have hLn : s.heap.get? L = none := by rw [← hL]; exact get_size_none _
    obtain ⟨fp, hfp⟩ := readsAll_fps r
    let f : Fm := ⟨envOfC d.name d.scope L fa code, A.deeper (envOfC d.name d.scope L fa code), s.heap, ps ++ rest, lv⟩
    have hUB : Up c.X c.hB s.heap := ⟨W.base, fun b o e => W.old.there b o e⟩
    have x1 : Ext c s { s with heap := h₁, toks := tk } := Ext.of W F.keep
    have zipNd : ((ps.zip vals).map (·.1)).Nodup := by
      rw [List.map_fst_zip (by omega)]
      exact (List.nodup_append.mp nd).1
    have FS : FmS c f := by
      refine ⟨fun i x hx => ?_, nd, fun x y a hx hy => name_of_addr X.apart (mem_of_lookup hx) (mem_of_lookup hy), fun a hp => ?_, hUB⟩
      · rcases kinds x (List.mem_of_getElem? hx) with q | q
        · exact .inl q
        · exact .inr ⟨q, Option.isSome_iff_exists.mp (cellsFrom_has _ _ _ (.inl q))⟩
      · rcases hp with rfl | ⟨x, hx⟩
        · exact hLn
        · have := X.above x a (mem_of_lookup hx)
          cases e : s.heap.get? a with
          | none => rfl
          | some o' => exact absurd (Heap.lt_size e) (Nat.not_lt.mpr (by rw [hL]; exact Nat.le_of_lt this))
    have S : St c f (startRho args rest) (fun _ => False) (fun i => vals.getD i .none) fp { s with heap := h₁, toks := tk } := by
      refine ⟨x1.wf, ⟨h3, rfl, rfl, ⟨R.hand, ?_, ?_, ?_⟩, hUB⟩, Up.of F.keep, ⟨_, F.ns⟩, fun x a e => ⟨_, X.cell x a e⟩, fun i sl e => ?_, fun i sl e q => ?_, fun _ _ _ _ _ _ q => q, fun i sl e q => ?_, fun i j sl sl' _ e _ q => ?_, fun _ q => q.elim, fun _ q => q.elim, fun q => q, fun i sl e q => ?_⟩
      · have := R.depth; show A.depth + 1 + 10 * lv + 10 < _; omega
      · have := R.units; show A.units + 3 + 100 * lv + 200 < _; omega
      · exact R.guards
      · obtain ⟨e1, e2⟩ := startRho_get e
        obtain ⟨v, e3, e4⟩ := hfp i sl.d e1
        have hil : i < args.length := (List.getElem?_eq_some_iff.mp e1).1
        obtain ⟨x, hx⟩ : ∃ x, ps[i]? = some x := ⟨_, List.getElem?_eq_getElem (by omega)⟩
        have hvi : vals.getD i .none = v := by rw [List.getD_eq_getElem?_getD, e3]; rfl
        have hmz : (x, v) ∈ ps.zip vals := by
          refine List.mem_of_getElem? (i := i) ?_
          rw [List.getElem?_zip_eq_some]; exact ⟨hx, e3⟩
        have hxm : x ∈ ps ++ rest := List.mem_append_left _ (List.mem_of_getElem? hx)
        refine ⟨x, by show (ps ++ rest)[i]? = some x; rw [List.getElem?_append_left (by omega)]; exact hx, ?_, by show Reads h₁ (vals.getD i .none) sl.d (fp i); rw [hvi]; exact x1.reads W e4⟩
        show Loads f.env h₁ x (vals.getD i .none)
        rw [hvi]
        rcases kinds x hxm with q | q
        · exact .inl ⟨q, _, F.ns, bindL_get _ q _ _ zipNd hmz⟩
        · obtain ⟨a, ha⟩ := Option.isSome_iff_exists.mp (cellsFrom_has (x := x) d.scope.names (L + 1) [] (.inl q))
          refine .inr ⟨.inl q, a, ha, ?_⟩
          have := X.cell x a ha
          rwa [bindC_get _ (by show d.scope.names.lookup x ≠ _; rw [q]; nofun) _ _ zipNd hmz] at this
      · rw [(startRho_get e).2] at q; cases q
      · rw [(startRho_get e).2] at q; cases q
      · rw [(startRho_get e).2] at q; cases q
      · obtain ⟨e1, _⟩ := startRho_get e
        obtain ⟨v, _, e4⟩ := hfp i sl.d e1
        obtain ⟨o', ho', _⟩ := reads_objs e4 _ q
        have : s.heap.get? L = some o' := ho'
        rw [hLn] at this; cases this
    refine wpAny_mono (h f rfl rfl rfl ⟨fa, o, pm, doc, H⟩ FS _ _ _ _ S) (fun fl s' hp => ?_) fun _ _ z => z
    obtain ⟨fl', ρ', mo', val', fp', hfl, S', X', hq⟩ := hp
    have x2 : Ext c s s' := ⟨S'.keep, S'.wf⟩
    cases fl <;> cases fl' <;> first | exact hfl.elim | exact hq.elim | skip
    · have : res = .none := hq
      subst this
      exact ⟨x2, [], .none, nofun, fun _ => ⟨.nil, nofun⟩⟩
    · obtain ⟨as, r1, n1, u1⟩ := hfl
      obtain ⟨e1, e2⟩ := hq
      exact ⟨x2, as, e1 ▸ r1, n1, fun q => u1 (e2 q)⟩
theorem fn_enter {c : Cx} {d : FnD} {args : List PyData} {res : PyData} {u : Bool} {lv : Nat} (ps rest : List Str) (C : CxOk c)
    (hbind : ∀ pm cd doc (vals : List Value), vals.length = args.length → bindArgs (docDef d.name d.params d.body d.scope pm cd doc) ⟨vals, []⟩ = pure (ps.zip vals))
    (hlen : ps.length = args.length) (nd : (ps ++ rest).Nodup)
    (hk : ((ps ++ rest).all fun x => d.scope.names.lookup x == some .local || d.scope.names.lookup x == some .cell) = true)
    (h1 : d.scope.isCoroutine = false) (h2 : d.scope.isGenerator = false) (h3 : d.scope.kind = .function)
    (h : ∀ f : Fm, f.env.scope = d.scope → f.xs = ps ++ rest → f.lv = lv → FmS c f → Ex c f d.body (startRho args rest) (RetQ res u)) : Fn c (lv + 1) d args res u :=
  fn_enterC ps rest C hbind hlen nd hk h1 h2 h3 fun f a b e _ => h f a b e
end Mine

namespace Mine
open PySem PySem.Spec PySem.Calls PyProof.Rows

def VRes (c : Cx) (s : Shared) (res : PyData) (v : Value) (s' : Shared) : Prop := Ext c s s' ∧ ∃ as, Reads s'.heap v res as ∧ as.Nodup ∧ (∀ a ∈ as, s.heap.get? a = none) ∧ ∀ a ∈ as, Pl s'.heap a
/-- what a call of a value gives: a datum of new objects -/
def VC (c : Cx) (n : Nat) (fv : Value) (args : List PyData) (res : PyData) : Prop :=
  ∀ A s vals ass E, Room n A → Wf c s → ReadsAll s.heap vals args ass →
    wpAny c.M A (call fv vals) (VRes c s res) E s

section
variable {c : Cx} {f : Fm} {ρ : Rho} {mo : Addr → Prop} {val : Nat → Value} {fp : Nat → List Addr} {s : Shared} {E : Value → Shared → Prop}
  {e e1 e2 : Expr} {d d1 d2 : PyData} {k k1 k2 : EK} {pos np : Pos} {x : Str}

theorem ev_vcall1 {fv : Value} (hv : (∃ id, fv = .builtin id) ∨ ∃ T, fv = .type T) (C : CxOk c) (B : Bi c x fv) (hx : f.env.kindOf x = some .globalImplicit) (h1 : Ev c f ρ e d1 k1) (h : VC c f.lv fv [d1] d)
    (he : ∀ env rest, starEach (e :: rest) env = (false, eval e env) :: starEach rest env := by intros; rfl) (hd : (x == ("__debug__" : Str)) = false := by decide +kernel) :
    Ev c f ρ (.Call (.Name x np) [e] [] pos) d .fr := fun mo val fp s E S => by
  refine Call_ (builtin_name C B hx S ?_ hd)
  have fin : wpAny c.M f.A (evalArgs fv true (backTo pos (starEach [e] f.env)) []) (fun a s₁ => wpAny c.M f.A (call fv ([] ++ a.pos) a.kw) (fun v s' => Ext c s s' ∧ ∃ as, Reads s'.heap v d as ∧ KOk f mo fp s.heap s'.heap .fr as) E s₁) E s := by
    rw [he]
    refine evalArgs_plain (spliced_cons (h1.bind S fun v s1 as x1 S1 r1 ko => spliced_nil ?_))
    refine wpAny_mono (h f.A s1 [v] _ E S.ok.room S1.wf (.cons r1 .nil)) (fun v s' ⟨x2, bs, r2, n2, q2, p2⟩ => ⟨x1.trans x2, bs, r2, frOk S n2 (fun a ha => x1.up.none (q2 a ha)) p2⟩) fun _ _ z => z
  rcases hv with ⟨id, rfl⟩ | ⟨T, rfl⟩
  · exact callWith_builtin (by rw [he]; rfl) fin
  · exact PySem.callWith_type (by rw [he]; rfl) fin
theorem ev_vcall2 {fv : Value} (hv : (∃ id, fv = .builtin id) ∨ ∃ T, fv = .type T) (C : CxOk c) (B : Bi c x fv) (hx : f.env.kindOf x = some .globalImplicit) (h1 : Ev c f ρ e1 d1 k1) (h2 : Ev c f ρ e2 d2 k2) (h : VC c f.lv fv [d1, d2] d)
    (he : ∀ env rest, starEach (e1 :: rest) env = (false, eval e1 env) :: starEach rest env := by intros; rfl) (he2 : ∀ env rest, starEach (e2 :: rest) env = (false, eval e2 env) :: starEach rest env := by intros; rfl) (hd : (x == ("__debug__" : Str)) = false := by decide +kernel) :
    Ev c f ρ (.Call (.Name x np) [e1, e2] [] pos) d .fr := fun mo val fp s E S => by
  refine Call_ (builtin_name C B hx S ?_ hd)
  have fin : wpAny c.M f.A (evalArgs fv true (backTo pos (starEach [e1, e2] f.env)) []) (fun a s₁ => wpAny c.M f.A (call fv ([] ++ a.pos) a.kw) (fun v s' => Ext c s s' ∧ ∃ as, Reads s'.heap v d as ∧ KOk f mo fp s.heap s'.heap .fr as) E s₁) E s := by
    rw [he, he2]
    refine evalArgs_plain (spliced_cons (h1.bind S fun v s1 as x1 S1 r1 ko => spliced_cons (h2.bind S1 fun v2 s2 as2 x2 S2 r2 ko2 => spliced_nil ?_)))
    refine wpAny_mono (h f.A s2 [v, v2] _ E S.ok.room S2.wf (.cons (x2.reads S1.wf r1) (.cons r2 .nil))) (fun v s' ⟨x3, bs, r3, n3, q3, p3⟩ => ⟨(x1.trans x2).trans x3, bs, r3, frOk S n3 (fun a ha => (x1.trans x2).up.none (q3 a ha)) p3⟩) fun _ _ z => z
  rcases hv with ⟨id, rfl⟩ | ⟨T, rfl⟩
  · exact callWith_builtin (by rw [he, he2]; rfl) fin
  · exact PySem.callWith_type (by rw [he, he2]; rfl) fin
end

section
variable {c : Cx} {n : Nat} {a b : Int} {xs : List PyData} {ns : List Int}

theorem Room.in1 {A : Around} (R : Room n A) : A.in1.handled = none := R.hand

theorem vc_len (hfit : xs.length < 2 ^ 63) : VC c n (.builtin "len") [.list xs] (.int xs.length) := fun A s vals ass E R W r => by
  cases r with | cons r1 r2 => cases r2; cases r1 with
  | list g1 g2 g3 g4 =>
    have hl := readsAll_length g4
    rename_i o vs _ _
    have hsz : vs.size = xs.length := by simpa using hl
    refine call_len_list ⟨_, g1, g2, _, g3⟩ (by rw [hsz]; omega) ⟨Ext.toks W _, [], by rw [hsz]; exact .int _ _, .nil, nofun, nofun⟩
theorem vc_abs : VC c n (.builtin "abs") [.int a] (.int (a.natAbs : Int)) := fun A s vals ass E R W r => by
  cases r with | cons r1 r2 => cases r2; cases r1 with
  | int i t => exact call_abs_int fun u tk => ⟨Ext.toks W _, [], by rw [show (if a < 0 then -a else a) = (a.natAbs : Int) by split <;> omega]; exact .int _ _, .nil, nofun, nofun⟩

def lmin : List Int → Int
  | [] => 0
  | [x] => x
  | x :: y :: r => min x (lmin (y :: r))
def lmax : List Int → Int
  | [] => 0
  | [x] => x
  | x :: y :: r => max x (lmax (y :: r))
theorem lmin_le : ∀ {ns : List Int} {x : Int}, x ∈ ns → lmin ns ≤ x
  | [y], x, h => by simp at h; subst h; exact Int.le_refl _
  | y :: z :: r, x, h => by
    rw [lmin]
    rcases List.mem_cons.mp h with rfl | h
    · exact Int.min_le_left _ _
    · exact Int.le_trans (Int.min_le_right _ _) (lmin_le h)
theorem lmin_mem : ∀ {ns : List Int}, ns ≠ [] → lmin ns ∈ ns
  | [y], _ => by simp [lmin]
  | y :: z :: r, _ => by
    rw [lmin]
    rcases Int.le_total y (lmin (z :: r)) with h | h
    · rw [Int.min_eq_left h]; exact List.mem_cons_self ..
    · rw [Int.min_eq_right h]; exact List.mem_cons_of_mem _ (lmin_mem (by simp))
theorem lmin_eq {ns : List Int} {m : Int} (h1 : m ∈ ns) (h2 : ∀ x ∈ ns, m ≤ x) : lmin ns = m :=
  Int.le_antisymm (lmin_le h1) (h2 _ (lmin_mem (List.ne_nil_of_mem h1)))
theorem lmax_ge : ∀ {ns : List Int} {x : Int}, x ∈ ns → x ≤ lmax ns
  | [y], x, h => by simp at h; subst h; exact Int.le_refl _
  | y :: z :: r, x, h => by
    rw [lmax]
    rcases List.mem_cons.mp h with rfl | h
    · exact Int.le_max_left _ _
    · exact Int.le_trans (lmax_ge h) (Int.le_max_right _ _)
theorem lmax_mem : ∀ {ns : List Int}, ns ≠ [] → lmax ns ∈ ns
  | [y], _ => by simp [lmax]
  | y :: z :: r, _ => by
    rw [lmax]
    rcases Int.le_total (lmax (z :: r)) y with h | h
    · rw [Int.max_eq_left h]; exact List.mem_cons_self ..
    · rw [Int.max_eq_right h]; exact List.mem_cons_of_mem _ (lmax_mem (by simp))

theorem argBest_spec {g : Nat → Int} : ∀ k, argBest (fun i j => decide (g i < g j)) k ≤ k ∧ ∀ i ≤ k, g (argBest (fun i j => decide (g i < g j)) k) ≤ g i
  | 0 => ⟨Nat.le_refl _, fun i hi => by rw [Nat.le_zero.mp hi]; exact Int.le_refl _⟩
  | k + 1 => by
    obtain ⟨h1, h2⟩ := argBest_spec (g := g) k
    rw [argBest]
    by_cases h : g (k + 1) < g (argBest (fun i j => decide (g i < g j)) k)
    · rw [if_pos (by simpa using h)]
      refine ⟨Nat.le_refl _, fun i hi => ?_⟩
      rcases Nat.lt_or_ge i (k + 1) with q | q
      · exact Int.le_of_lt (Int.lt_of_lt_of_le h (h2 i (by omega)))
      · rw [show i = k + 1 by omega]; exact Int.le_refl _
    · rw [if_neg (by simpa using h)]
      refine ⟨Nat.le_succ_of_le h1, fun i hi => ?_⟩
      rcases Nat.lt_or_ge i (k + 1) with q | q
      · exact h2 i (by omega)
      · rw [show i = k + 1 by omega]; omega

theorem readsAll_ints {h : Heap} : ∀ {vs : List Value} {ns : List Int} {as : List Addr}, ReadsAll h vs (ns.map .int) as → ∀ {i : Nat} {v : Value}, vs[i]? = some v → ∃ t, v = .int (ns.getD i 0) t
  | _, [], _, r, i, v, e => by cases r; simp at e
  | _, n :: ns, _, .cons r rs, 0, v, e => by cases r; simp at e; exact ⟨_, e.symm⟩
  | _, n :: ns, _, .cons r rs, i + 1, v, e => by
    obtain ⟨t, q⟩ := readsAll_ints rs (i := i) (v := v) (by simpa using e)
    exact ⟨t, by simpa using q⟩

theorem rc_lt {A : Around} {s : Shared} {Q : Value → Shared → Prop} {E : Value → Shared → Prop} {x y : Int} {t u : Tok} (h : Q (.bool (decide (x < y))) s) : wpAny c.M A (richCompare .Lt (.int x t) (.int y u)) Q E s := by
  show wpAny c.M A (compareOp .Lt (.int x t) (.int y u)) Q E s
  exact P.lt_int h
theorem rc_gt {A : Around} {s : Shared} {Q : Value → Shared → Prop} {E : Value → Shared → Prop} {x y : Int} {t u : Tok} (h : Q (.bool (decide (y < x))) s) : wpAny c.M A (richCompare .Gt (.int x t) (.int y u)) Q E s := by
  show wpAny c.M A (compareOp .Gt (.int x t) (.int y u)) Q E s
  exact P.gt_int h
theorem vc_min (hne : ns ≠ []) : VC c n (.builtin "min") [.list (ns.map .int)] (.int (lmin ns)) := fun A s vals ass E R W r => by
  cases r with | cons r1 r2 => cases r2; cases r1 with
  | list g1 g2 g3 g4 =>
    rename_i a o vs m bs
    have hl : vs.size = ns.length := by simpa using readsAll_length g4
    have hpos : 0 < ns.length := List.length_pos_iff.mpr hne
    refine call_min_walk (wpAny_pyIter_list ⟨_, g1, g2, _, g3⟩ ?_)
    have hae : a ≠ s.heap.objs.size := Nat.ne_of_lt (Heap.lt_size g1)
    refine ⟨s.heap.objs.size, _, _, vs.size, _, _, fun i j => decide (ns.getD i 0 < ns.getD j 0), rfl, Walks.list (A := A.in1) R.hand s.heap.objs.size a hae vs, ⟨⟨_, Heap.get?_push_size _ rfl, rfl, rfl⟩, ⟨_, Heap.get?_push_of_some _ g1, g2, _, g3⟩⟩, fun b hb => ?_, by omega, fun i j vi vj s' Q E' hi hj hQ => ?_, fun v h' tk hP hk => ?_⟩
    · rw [Heap.size_push]
      rcases List.mem_cons.mp hb with rfl | hb
      · exact Nat.lt_succ_self _
      · rw [List.mem_singleton.mp hb]; exact Nat.lt_succ_of_lt (Heap.lt_size g1)
    · obtain ⟨t, rfl⟩ := readsAll_ints g4 (i := i) (v := vi) (by simpa using hi)
      obtain ⟨u, rfl⟩ := readsAll_ints g4 (i := j) (v := vj) (by simpa using hj)
      exact rc_lt hQ
    · obtain ⟨t, rfl⟩ := readsAll_ints g4 (i := argBest (fun i j => decide (ns.getD i 0 < ns.getD j 0)) (vs.size - 1)) (v := v) (by simpa using hP)
      obtain ⟨q1, q2⟩ := argBest_spec (g := fun i => ns.getD i 0) (vs.size - 1)
      have e1 : lmin ns = ns.getD (argBest (fun i j => decide (ns.getD i 0 < ns.getD j 0)) (vs.size - 1)) 0 := by
        refine lmin_eq ?_ fun x hx => ?_
        · rw [List.getD_eq_getElem?_getD, List.getElem?_eq_getElem (by omega)]; simp
        · obtain ⟨i, hi, rfl⟩ := List.mem_iff_getElem.mp hx
          have := q2 i (by omega)
          rw [List.getD_eq_getElem?_getD (i := i), List.getElem?_eq_getElem hi] at this
          simpa using this
      refine ⟨Ext.of W fun b o e => hk b o (fun q => ?_) (Heap.get?_push_of_some _ e), [], by rw [e1]; exact .int _ _, .nil, nofun, nofun⟩
      rw [List.mem_singleton.mp q, get_size_none] at e; cases e

theorem vc_sum : VC c n (.builtin "sum") [.list (ns.map .int)] (.int ns.sum) := fun A s vals ass E R W r => by
  cases r with | cons r1 r2 => cases r2; cases r1 with
  | list g1 g2 g3 g4 =>
    rename_i a o vs m bs
    have hl : vs.size = ns.length := by simpa using readsAll_length g4
    refine call_sum_walkG (wpAny_pyIter_list ⟨_, g1, g2, _, g3⟩ ?_)
    have hae : a ≠ s.heap.objs.size := Nat.ne_of_lt (Heap.lt_size g1)
    refine ⟨s.heap.objs.size, _, _, vs.size, _, _, fun i => ns.getD i 0, rfl, Walks.list (A := A.in1) R.hand s.heap.objs.size a hae vs, ⟨⟨_, Heap.get?_push_size _ rfl, rfl, rfl⟩, ⟨_, Heap.get?_push_of_some _ g1, g2, _, g3⟩⟩, fun b hb => ?_, fun i v hi => readsAll_ints g4 (by simpa using hi), fun h' tk t' hk => ?_⟩
    · rw [Heap.size_push]
      rcases List.mem_cons.mp hb with rfl | hb
      · exact Nat.lt_succ_self _
      · rw [List.mem_singleton.mp hb]; exact Nat.lt_succ_of_lt (Heap.lt_size g1)
    · have e1 : ∀ k ≤ ns.length, preSum (fun i => ns.getD i 0) k = (ns.take k).sum := fun k => by
        induction k with
        | zero => intro _; simp [preSum]
        | succ k ih =>
          intro hk
          rw [preSum, ih (by omega), List.take_add_one, List.sum_append]
          rw [List.getD_eq_getElem?_getD, List.getElem?_eq_getElem (by omega)]; simp
      refine ⟨Ext.of W fun b o e => hk b o (fun q => ?_) (Heap.get?_push_of_some _ e), [], by rw [hl, e1 _ (Nat.le_refl _), List.take_length]; exact .int _ _, .nil, nofun, nofun⟩
      rw [List.mem_singleton.mp q, get_size_none] at e; cases e

theorem vc_list (hf : flats xs = true) (hsz : xs.length ≤ sizeLine) : VC c n (.type "list") [.list xs] (.list xs) := fun A s vals ass E R W r => by
  cases r with | cons r1 r2 => cases r2; cases r1 with
  | list g1 g2 g3 g4 =>
    rename_i a o vs m bs
    have hl : vs.size = xs.length := by simpa using readsAll_length g4
    refine call_list_seq (T := "list") a (.inl rfl) g1 g2 g3 (fun h' c' hk hD => ?_) (by omega)
    have x1 : Ext c s { s with heap := h' } := Ext.of W hk
    have g4' := x1.readsAll W g4
    have hb := readsAll_flat g4 hf
    subst hb
    refine ⟨x1, [s.heap.objs.size], .list hD rfl rfl g4', by simp, fun b hb => ?_, fun b hb => ?_⟩
    · rw [List.mem_singleton.mp hb]; exact get_size_none _
    · rw [List.mem_singleton.mp hb]; exact ⟨_, hD, .inl ⟨rfl, _, _, rfl⟩, rfl, rfl⟩

theorem two_walk {op : CmpOp} {A : Around} {s : Shared} {a b : Int} {t u : Tok} {E : Value → Shared → Prop} {K : Value → Shared → Prop} (g : Int → Int → Bool) (R : Room n A) (W : Wf c s)
    (hc : ∀ (x y : Int) (t u : Tok) (s : Shared) (Q : Value → Shared → Prop) (E : Value → Shared → Prop), Q (.bool (g x y)) s → wpAny c.M A.in1 (richCompare op (.int x t) (.int y u)) Q E s)
    (hK : ∀ tk t' h', (∀ b o, s.heap.get? b = some o → h'.get? b = some o) → K (.int (if g b a then b else a) t') { s with heap := h', toks := tk }) :
    wpAny c.M A.in1 (pyIter (.ref s.heap.objs.size)) (fun it s₂ => ∃ I fp wr n P St bt, it = .ref I ∧ Walks c.prog c.w A.in1 I fp wr n P St ∧ St 0 s₂.heap ∧ (∀ b ∈ fp, b < s₂.heap.objs.size) ∧ 0 < n ∧ CmpOf c.prog c.w A.in1 op P bt ∧
      ∀ v h' tk, P (argBest bt (n - 1)) v → (∀ b o, b ∉ wr → s₂.heap.get? b = some o → h'.get? b = some o) → K v { s₂ with heap := h', toks := tk }) E
      { s with heap := s.heap.push { cls := .type "tuple", data := .seq #[.int a t, .int b u] } } := by
  have ht : (s.heap.push { cls := .type "tuple", data := .seq #[.int a t, .int b u] }).IsTuple s.heap.objs.size #[.int a t, .int b u] := ⟨_, Heap.get?_push_size _ rfl, rfl, _, rfl⟩
  refine wpAny_pyIter_tuple ht ?_
  have hne : s.heap.objs.size ≠ (s.heap.push { cls := .type "tuple", data := .seq #[Value.int a t, .int b u] }).objs.size := by rw [Heap.size_push]; exact Nat.ne_of_lt (Nat.lt_succ_self _)
  let gg : Nat → Int := fun i => if i = 0 then a else b
  have isg : ∀ {i : Nat} {v : Value}, (#[Value.int a t, .int b u] : Array Value)[i]? = some v → ∃ t', v = .int (gg i) t' := fun {i v} h => by
    match i, h with
    | 0, h => simp at h; exact ⟨t, h.symm⟩
    | 1, h => simp at h; exact ⟨u, h.symm⟩
    | i + 2, h => simp at h
  refine ⟨_, _, _, 2, _, _, fun i j => g (gg i) (gg j), rfl, Walks.tuple (A := A.in1) R.hand _ s.heap.objs.size hne #[.int a t, .int b u], ⟨⟨_, Heap.get?_push_size _ rfl, rfl, rfl⟩, ht.push _⟩, fun b hb => ?_, by decide, fun i j vi vj s' Q E' hi hj hQ => ?_, fun v h' tk hP hk => ?_⟩
  · rw [Heap.size_push, Heap.size_push]
    rcases List.mem_cons.mp hb with rfl | hb
    · rw [Heap.size_push]; exact Nat.lt_succ_self _
    · rw [List.mem_singleton.mp hb]; exact Nat.lt_succ_of_lt (Nat.lt_succ_self _)
  · obtain ⟨t1, rfl⟩ := isg hi
    obtain ⟨t2, rfl⟩ := isg hj
    exact hc _ _ _ _ _ _ _ hQ
  · obtain ⟨t1, rfl⟩ := isg hP
    have e1 : gg (argBest (fun i j => g (gg i) (gg j)) (2 - 1)) = if g b a then b else a := by
      show gg (if g (gg 1) (gg 0) = true then 1 else 0) = _
      have : g (gg 1) (gg 0) = g b a := rfl
      rw [this]
      split <;> rfl
    rw [e1]
    refine hK _ _ _ fun b o e => hk b o (fun q => ?_) (Heap.get?_push_of_some _ (Heap.get?_push_of_some _ e))
    have := Heap.lt_size e
    rw [List.mem_singleton.mp q, Heap.size_push] at this
    exact absurd this (Nat.not_lt.mpr (Nat.le_succ _))
theorem vc_max2 : VC c n (.builtin "max") [.int a, .int b] (.int (max a b)) := fun A s vals ass E R W r => by
  obtain _ | ⟨r1, r2⟩ := r
  obtain _ | ⟨r2, r3⟩ := r2
  cases r3; cases r1; cases r2
  refine call_max_two (two_walk (K := VRes c s (.int (max a b))) (fun x y => decide (y < x)) R W (fun x y t u s Q E h => rc_gt h) fun tk t' h' hk => ?_)
  have e : (if decide (a < b) = true then b else a) = max a b := by simp only [decide_eq_true_eq]; rw [Int.max_def]; split <;> split <;> omega
  refine ⟨Ext.of W hk, [], ?_, .nil, nofun, nofun⟩
  rw [← e]; exact .int _ _
theorem vc_min2 : VC c n (.builtin "min") [.int a, .int b] (.int (min a b)) := fun A s vals ass E R W r => by
  obtain _ | ⟨r1, r2⟩ := r
  obtain _ | ⟨r2, r3⟩ := r2
  cases r3; cases r1; cases r2
  refine call_min_two (two_walk (K := VRes c s (.int (min a b))) (fun x y => decide (x < y)) R W (fun x y t u s Q E h => rc_lt h) fun tk t' h' hk => ?_)
  have e : (if decide (b < a) = true then b else a) = min a b := by simp only [decide_eq_true_eq]; rw [Int.min_def]; split <;> split <;> omega
  refine ⟨Ext.of W hk, [], ?_, .nil, nofun, nofun⟩
  rw [← e]; exact .int _ _
end
end Mine

namespace Mine
open PySem PySem.Spec PySem.Calls PyProof.Rows

theorem Pl.isL {h : Heap} {a : Addr} {o : Obj} {vs : Array Value} {n : Nat} (p : Pl h a) (e : h.get? a = some o) (hc : o.cls = .type "list") (hd : o.data = .seq vs n) : IsL h a vs n := by
  obtain ⟨o', e', _, q1, q2⟩ := p
  rw [e] at e'; cases e'
  obtain ⟨cl, di, da, sl⟩ := o
  simp only at hc hd q1 q2
  subst hc hd q1 q2
  exact e
theorem Pl.of_isL {h : Heap} {a : Addr} {vs : Array Value} {n : Nat} (e : IsL h a vs n) : Pl h a := ⟨_, e, .inl ⟨rfl, _, _, rfl⟩, rfl, rfl⟩

section
variable {c : Cx} {f : Fm} {ρ : Rho} {mo : Addr → Prop} {val : Nat → Value} {fp : Nat → List Addr} {s : Shared} {E : Value → Shared → Prop}

/-- a change at an object that a variable owns -/
theorem St.mut {i : Nat} {d d' : PyData} {b : Addr} {h' : Heap} {tk : Nat} {as' extra : List Addr} (FS : FmS c f) (S : St c f ρ mo val fp s) (e : ρ[i]? = some (some ⟨.ow, d⟩)) (hb : b ∈ fp i)
    (hs : Heap.SameBut b s.heap h') (hpl : Pl h' b) (r : Reads h' (val i) d' as') (nd : as'.Nodup) (hin : ∀ a ∈ as', a ∈ fp i ∨ a ∈ extra)
    (ex1 : ∀ a ∈ extra, ¬ mo a ∧ f.h₀.get? a = none ∧ Pl s.heap a) (ex2 : ∀ j sl, j ≠ i → ρ[j]? = some (some sl) → ∀ a ∈ fp j, a ∉ extra) (ex3 : f.env.locals ∉ extra) :
    St c f (ρ.set i (some ⟨.ow, d'⟩)) (fun a => mo a ∨ a ∈ extra) val (upd fp i as') { s with heap := h', toks := tk } ∧
      (∀ x o, ¬ mo x → s.heap.get? x = some o → h'.get? x = some o) ∧ (∀ x o, s.heap.get? x = some o → ∃ o', h'.get? x = some o') := by
  have hmo : mo b := (S.own i _ e rfl).2 b hb
  have hi : i < ρ.length := (List.getElem?_eq_some_iff.mp e).1
  obtain ⟨ob, hob, hlb, _⟩ := S.moPl b hmo
  have hbL : b ≠ f.env.locals := fun q => S.fpL i _ e (q ▸ hb)
  have hnp : ¬ Pv f b := pv_ld S hob hlb hbL
  have hX : ¬ c.X b := not_tab S.wf hob (by rcases hlb with ⟨q, _⟩ | ⟨q, _⟩ <;> rw [q] <;> nofun)
  have h0b := S.moNew b hmo
  have hBb := FS.base.none h0b
  have keep : ∀ x o, x ≠ b → s.heap.get? x = some o → h'.get? x = some o := fun x o hx q => (hs.2 x hx).trans q
  have hpv : ∀ x, Pv f x → x ≠ b := fun x hx q => hnp (q ▸ hx)
  have notTup : ∀ a o, s.heap.get? a = some o → o.cls = .type "tuple" → a ≠ b := fun a o q hc hab => by
    subst hab; rw [hob] at q; cases q
    rcases hlb with ⟨h, _⟩ | ⟨h, _⟩ <;> rw [hc] at h <;> simp at h
  have slot : ∀ j t, (ρ.set i (some ⟨.ow, d'⟩))[j]? = some (some t) → (j = i ∧ t = ⟨.ow, d'⟩) ∨ (j ≠ i ∧ ρ[j]? = some (some t)) := fun j t e => by
    rw [List.getElem?_set] at e
    by_cases q : i = j
    · rw [if_pos q, if_pos hi] at e; cases e; exact .inl ⟨q.symm, rfl⟩
    · rw [if_neg q] at e; exact .inr ⟨fun h => q h.symm, e⟩
  have other : ∀ j t, j ≠ i → ρ[j]? = some (some t) → b ∉ fp j := fun j t hj ej hm => by
    by_cases ho : t.k = .ow
    · exact S.apart i j _ t (fun q => hj q.symm) e ej rfl ho b hb hm
    · exact S.shr j t ej ho b hm hmo
  have nsK : ∀ {a m}, a ≠ b → s.heap.Ns a m → h'.Ns a m := fun ha ⟨o, es, ep, ho, q⟩ => ⟨o, es, ep, keep _ o ha ho, q⟩
  have cellNe : ∀ {a v}, s.heap.IsCell a v → a ≠ b := fun ⟨o, ho, hd⟩ q => by
    subst q; rw [hob] at ho; cases ho
    rcases hlb with ⟨_, _, _, h⟩ | ⟨_, _, _, h⟩ <;> rw [hd] at h <;> cases h
  have th : ∀ x o, s.heap.get? x = some o → ∃ o', h'.get? x = some o' := fun x o q => by
    by_cases hx : x = b
    · subst hx; obtain ⟨o', q', _⟩ := hpl; exact ⟨o', q'⟩
    · exact ⟨o, keep x o hx q⟩
  have plK : ∀ a, Pl s.heap a → Pl h' a := fun a ⟨o, q, r⟩ => by
    by_cases ha : a = b
    · subst ha; exact hpl
    · exact ⟨o, keep a o ha q, r⟩
  refine ⟨⟨S.wf.sameBut hs hBb hX, S.ok, ⟨fun x o hx q => keep x o (fun h => by rw [h, h0b] at q; cases q) (S.keep.kp x o hx q), fun x o q => let ⟨o', q'⟩ := S.keep.th x o q; th x o' q'⟩,
    let ⟨m, n⟩ := S.ns; ⟨m, nsK (fun q => hbL q.symm) n⟩, fun x a q => ?_, fun j t ej => ?_, fun j t ej ho => ?_, fun j t ej ho => ?_, fun j t ej hl => ?_, fun j j' t t' hne ej ej' ho ho' => ?_, fun a h => ?_, fun a h => ?_, ?_, fun j t ej => ?_⟩, fun x o hx q => keep x o (fun h => hx (h ▸ hmo)) q, th⟩
  · obtain ⟨v, n⟩ := S.cells x a q
    have hne := cellNe n
    obtain ⟨o, ho, hd⟩ := n
    exact ⟨v, o, keep a o hne ho, hd⟩
  · have ld : ∀ {y u}, Loads f.env s.heap y u → Loads f.env h' y u := fun l => by
      rcases l with ⟨g1, m, g2, g3⟩ | ⟨g1, a, g2, g3⟩
      · exact .inl ⟨g1, m, nsK (fun q => hbL q.symm) g2, g3⟩
      · have hne := cellNe g3
        obtain ⟨o, ho, hd⟩ := g3
        exact .inr ⟨g1, a, g2, o, keep a o hne ho, hd⟩
    rcases slot j t ej with ⟨rfl, rfl⟩ | ⟨hj, ej⟩
    · obtain ⟨y, h1, h2, _⟩ := S.var j _ e
      exact ⟨y, h1, ld h2, by rw [upd_self]; exact r⟩
    · obtain ⟨y, h1, h2, h3⟩ := S.var j t ej
      refine ⟨y, h1, ld h2, by
        rw [upd_ne _ _ _ hj]
        exact reads_upon h3 (fun a ha o q _ => keep a o (fun h => other j t hj ej (h ▸ ha)) q) (fun a o q hc _ => keep a o (notTup a o q hc) q)⟩
  · rcases slot j t ej with ⟨rfl, rfl⟩ | ⟨hj, ej⟩
    · rw [upd_self]; exact ⟨nd, fun a ha => (hin a ha).imp ((S.own j _ e rfl).2 a) id⟩
    · rw [upd_ne _ _ _ hj]; exact ⟨(S.own j t ej ho).1, fun a ha => .inl ((S.own j t ej ho).2 a ha)⟩
  · rcases slot j t ej with ⟨rfl, rfl⟩ | ⟨hj, ej⟩
    · exact absurd rfl ho
    · rw [upd_ne _ _ _ hj]; exact fun a ha h => h.elim (S.shr j t ej ho a ha) (ex2 j t hj ej a ha)
  · rcases slot j t ej with ⟨rfl, rfl⟩ | ⟨hj, ej⟩
    · cases hl
    · rw [upd_ne _ _ _ hj]; exact S.loc j t ej hl
  · rcases slot j t ej with ⟨rfl, rfl⟩ | ⟨hj, e1⟩ <;> rcases slot j' t' ej' with ⟨rfl, rfl⟩ | ⟨hj', e1'⟩
    · exact absurd rfl hne
    · rw [upd_self, upd_ne _ _ _ hj']
      exact fun a ha h => (hin a ha).elim (fun q => S.apart j j' _ t' hne e e1' rfl ho' a q h) (ex2 j' t' hj' e1' a h)
    · rw [upd_self, upd_ne _ _ _ hj]
      exact fun a ha h => (hin a h).elim (fun q => S.apart j j' t _ hne e1 e ho rfl a ha q) (ex2 j t hj e1 a ha)
    · rw [upd_ne _ _ _ hj, upd_ne _ _ _ hj']; exact S.apart j j' t t' hne e1 e1' ho ho'
  · exact h.elim (S.moNew a) fun q => (ex1 a q).2.1
  · exact plK a (h.elim (S.moPl a) fun q => (ex1 a q).2.2)
  · exact fun h => h.elim S.moL ex3
  · rcases slot j t ej with ⟨rfl, rfl⟩ | ⟨hj, ej⟩
    · rw [upd_self]; exact fun h => (hin _ h).elim (S.fpL j _ e) ex3
    · rw [upd_ne _ _ _ hj]; exact S.fpL j t ej

theorem reads_but {h h' : Heap} {a : Addr} {v : Value} {d : PyData} {as : List Addr} (hs : Heap.SameBut a h h') (ha : ∀ o, h.get? a = some o → o.cls ≠ .type "tuple") (hn : a ∉ as) (r : Reads h v d as) : Reads h' v d as :=
  reads_upon r (fun b hb o q _ => (hs.2 b fun h => hn (h ▸ hb)).trans q) (fun b o q hc _ => (hs.2 b fun h => ha o (h ▸ q) hc).trans q)
theorem readsAll_but {h h' : Heap} {a : Addr} {v : List Value} {d : List PyData} {as : List Addr} (hs : Heap.SameBut a h h') (ha : ∀ o, h.get? a = some o → o.cls ≠ .type "tuple") (hn : a ∉ as) (r : ReadsAll h v d as) : ReadsAll h' v d as :=
  readsAll_upon r (fun b hb o q _ => (hs.2 b fun h => hn (h ▸ hb)).trans q) (fun b o q hc _ => (hs.2 b fun h => ha o (h ▸ q) hc).trans q)
theorem isL_notTup {h : Heap} {a : Addr} {vs : Array Value} {n : Nat} (l : IsL h a vs n) : ∀ o, h.get? a = some o → o.cls ≠ .type "tuple" := fun o q hc => by
  rw [l] at q; cases q; simp at hc
theorem readsAll_snoc {h : Heap} : ∀ {vs : List Value} {ds : List PyData} {as : List Addr} {v : Value} {d : PyData} {bs : List Addr}, ReadsAll h vs ds as → Reads h v d bs → ReadsAll h (vs ++ [v]) (ds ++ [d]) (as ++ bs)
  | _, _, _, _, _, bs, .nil, r => by simpa using ReadsAll.cons r .nil
  | _, _, _, _, _, bs, .cons (as := as1) (bs := as2) h1 h2, r => by
    have := ReadsAll.cons h1 (readsAll_snoc h2 r)
    simpa using this
theorem readsAll_set {h : Heap} : ∀ {vs : List Value} {ds : List PyData} {as : List Addr} {i : Nat} {v : Value} {d d0 : PyData}, ReadsAll h vs ds as → ds[i]? = some d0 → flat d0 = true → Reads h v d [] → ReadsAll h (vs.set i v) (ds.set i d) as
  | _, _, _, i, v, d, d0, .nil, e, _, _ => by simp at e
  | _, _, _, 0, v, d, d0, .cons h1 h2, e, hf, r => by
    simp at e; subst e
    rw [reads_flat h1 hf]
    exact .cons r h2
  | _, _, _, i + 1, v, d, d0, .cons h1 h2, e, hf, r => by
    exact .cons h1 (readsAll_set h2 (by simpa using e) hf r)
theorem readsAll_mem {h : Heap} : ∀ {vs : List Value} {ds : List PyData} {as : List Addr} {i : Nat} {b : Addr} {cs : List PyData}, ReadsAll h vs ds as → vs[i]? = some (.ref b) → ds[i]? = some (.list cs) → b ∈ as
  | _, _, _, i, b, cs, .nil, e, _ => by simp at e
  | _, _, _, 0, b, cs, .cons h1 h2, e, e' => by
    simp at e e'; subst e e'
    cases h1; simp
  | _, _, _, i + 1, b, cs, .cons h1 h2, e, e' => List.mem_append_right _ (readsAll_mem h2 (by simpa using e) (by simpa using e'))
theorem readsAll_row {h h' : Heap} {b : Addr} {cells cells' : List PyData} (hf : flats cells = true) (hs : ∀ x, x ≠ b → h'.get? x = h.get? x) (hb : ∀ o, h.get? b = some o → o.cls ≠ .type "tuple") (new : Reads h' (.ref b) (.list cells') [b]) :
    ∀ {vs : List Value} {ds : List PyData} {as : List Addr} {i : Nat}, ReadsAll h vs ds as → as.Nodup → vs[i]? = some (.ref b) → ds[i]? = some (.list cells) → ReadsAll h' vs (ds.set i (.list cells')) as
  | _, _, _, i, .nil, _, e, _ => by simp at e
  | _, _, _, 0, .cons (as := as1) (bs := as2) h1 h2, nd, e, e' => by
    simp at e e'; subst e e'
    cases h1 with
    | list g1 g2 g3 g4 =>
      rw [readsAll_flat g4 hf] at nd ⊢
      have hb2 : b ∉ as2 := fun q => by simp at nd; exact nd.1 q
      exact .cons new (readsAll_upon h2 (fun a ha o q _ => (hs a (fun h => hb2 (h ▸ ha))).trans q) (fun a o q hc _ => (hs a (fun h => hb o (h ▸ q) hc)).trans q))
  | _, _, _, i + 1, .cons (as := as1) (bs := as2) h1 h2, nd, e, e' => by
    rw [List.nodup_append] at nd
    have hb2 : b ∈ as2 := readsAll_mem h2 (by simpa using e) (by simpa using e')
    have hb1 : b ∉ as1 := fun q => nd.2.2 b q b hb2 rfl
    exact .cons (reads_upon h1 (fun a ha o q _ => (hs a (fun h => hb1 (h ▸ ha))).trans q) (fun a o q hc _ => (hs a (fun h => hb o (h ▸ q) hc)).trans q))
      (readsAll_row hf hs hb new h2 nd.2.1 (by simpa using e) (by simpa using e'))

/-- the list that a variable owns -/
theorem owned_list {i : Nat} {xs : List PyData} (S : St c f ρ mo val fp s) (e : ρ[i]? = some (some ⟨.ow, .list xs⟩)) :
    ∃ a vs n as, val i = .ref a ∧ fp i = a :: as ∧ IsL s.heap a vs n ∧ ReadsAll s.heap vs.toList xs as ∧ mo a := by
  obtain ⟨x, _, _, r⟩ := S.var i _ e
  obtain ⟨nd, hm⟩ := S.own i _ e rfl
  generalize val i = v at r
  generalize hfp : fp i = as at r nd hm
  simp only at r
  cases r with
  | list g1 g2 g3 g4 =>
    have hma := hm _ (List.mem_cons_self ..)
    exact ⟨_, _, _, _, rfl, rfl, (S.moPl _ hma).isL g1 g2 g3, g4, hma⟩

variable {Q : Fl → Rho → Prop} {e : Expr} {d : PyData} {k : EK} {pos : Pos} {x : Str} {xp ap cp : Pos} {i : Nat} {xs : List PyData}

theorem sameBut_update (h : Heap) (a : Addr) (g : Obj → Obj) : Heap.SameBut a h (h.update a g) := Heap.SameBut.update ..

/-- x.append(e) -/
theorem ex_append (FS : FmS c f) (hat : At f.xs ρ x ⟨.ow, .list xs⟩ i) (h : Ev c f ρ e d k) (hk : k = .fr ∨ flat d = true) (hsz : xs.length ≤ sizeLine) (hQ : Q .next (ρ.set i (some ⟨.ow, .list (xs ++ [d])⟩)))
    (hd : (x == ("__debug__" : Str)) = false := by decide +kernel) (hn : (x == ("__classdict__" : Str)) = false := by decide +kernel)
    (hbase : ∀ env, attributeBase (.Name x xp) "append" env (eval (.Name x xp) env) = eval (.Name x xp) env := by intro _; rfl) (hline : (ap.endLine == cp.line) = true := by rfl)
    (htrees : ∀ env, backTo cp (starEach [e] env) = [(false, eval e env)] := by intro _; rfl) (hi : ∀ env, interactive env = false → True := by intros; trivial)
    (hsw : ∀ env, swapsWith (.Call (.Attribute (.Name x xp) "append" ap) [e] [] cp) none pos.line env = pure false := by intro _; rfl) :
    Ex1 c f (.Expr (.Call (.Attribute (.Name x xp) "append" ap) [e] [] cp) pos) ρ Q := fun mo val fp s S => by
  have hint : interactive f.env = false := by unfold interactive; rw [S.ok.kind]; rfl
  refine wpAny_Expr_any ?_ hint (hsw _)
  refine wpAny_Call_method1_late (hbase _) hline (htrees _) (name_step S hat (fun _ => ?_) hd hn)
  have e0 := hat.slot
  obtain ⟨a, vs, n, as, hv, hfp, hl, hr, hma⟩ := owned_list S e0
  rw [hv]
  refine ⟨"list", "list.append", F.plainAttrs_list, F.slot_list_append, F.type_list_append, ⟨_, hl, rfl⟩, fun a' q => by cases q; exact ⟨_, hl, rfl⟩, ?_⟩
  refine P.append_list (h.bind S fun v s1 as1 x1 S1 r1 ko => ?_)
  have hl1 : IsL s1.heap a vs n := listOrDict_ext S.wf x1 hl (.inl ⟨rfl, _, _, rfl⟩)
  have hr1 := x1.readsAll S.wf hr
  have hlen : vs.size = xs.length := by simpa using readsAll_length hr
  refine ⟨vs, n, by omega, hl1, ?_⟩
  have hl2 := hl1.update (fun xs => xs.push v)
  have hsb : Heap.SameBut a s1.heap (s1.heap.update a (Obj.mapSeq fun xs => xs.push v)) := sameBut_update ..
  obtain ⟨nd, hm⟩ := S1.own i _ e0 rfl
  rw [hfp] at nd
  have haas : a ∉ as := (List.nodup_cons.mp nd).1
  have haas1 : a ∉ as1 := fun q => by
    rcases hk with rfl | hf
    · have := ko.2.2.1 a q; rw [hl] at this; cases this
    · rw [reads_flat r1 hf] at q; cases q
  have hr2 := readsAll_but hsb (isL_notTup hl1) haas hr1
  have r2 := reads_but hsb (isL_notTup hl1) haas1 r1
  have key : Reads (s1.heap.update a (Obj.mapSeq fun xs => xs.push v)) (val i) (.list (xs ++ [d])) (a :: (as ++ as1)) := by
    rw [hv]
    exact .list hl2 rfl rfl (by rw [Array.toList_push]; exact readsAll_snoc hr2 r2)
  have frs : ∀ b ∈ as1, s.heap.get? b = none := fun b hb => by
    rcases hk with rfl | hf
    · exact ko.2.2.1 b hb
    · rw [reads_flat r1 hf] at hb; cases hb
  have fpIn : ∀ j sl, ρ[j]? = some (some sl) → ∀ b ∈ fp j, ∃ o, s.heap.get? b = some o := fun j sl ej b hb => by
    obtain ⟨_, _, _, rj⟩ := S.var j sl ej
    obtain ⟨o, ho, _⟩ := reads_objs rj b hb; exact ⟨o, ho⟩
  have as1nd : as1.Nodup := by
    rcases hk with rfl | hf
    · exact ko.2.1
    · rw [reads_flat r1 hf]; exact .nil
  have as1pl : ∀ b ∈ as1, Pl s1.heap b := fun b hb => by
    rcases hk with rfl | hf
    · exact ko.2.2.2 b hb
    · rw [reads_flat r1 hf] at hb; cases hb
  have asfp : ∀ b ∈ as, b ∈ fp i := fun b hb => by rw [hfp]; exact List.mem_cons_of_mem _ hb
  have := S1.mut (tk := s1.toks) (as' := a :: (as ++ as1)) (extra := as1) FS e0 (by rw [hfp]; exact List.mem_cons_self ..) hsb (Pl.of_isL hl2) key
    (List.nodup_cons.mpr ⟨fun q => (List.mem_append.mp q).elim haas haas1, List.nodup_append.mpr ⟨(List.nodup_cons.mp nd).2, as1nd, fun p hp q hq h => by
      subst h; obtain ⟨o, ho⟩ := fpIn i _ e0 p (asfp p hp); rw [frs p hq] at ho; cases ho⟩⟩)
    (fun b hb => by
      rw [hfp]
      rcases List.mem_cons.mp hb with q | q
      · exact .inl (q ▸ List.mem_cons_self ..)
      · exact (List.mem_append.mp q).imp (List.mem_cons_of_mem _) id)
    (fun b hb => ⟨fun q => (by obtain ⟨o, ho, _⟩ := S.moIn b q; rw [frs b hb] at ho; cases ho), S.keep.none (frs b hb), as1pl b hb⟩)
    (fun j sl _ ej b hb q => by obtain ⟨o, ho⟩ := fpIn j sl ej b hb; rw [frs b q] at ho; cases ho)
    (fun q => ko.1 q)
  refine ⟨.next, _, _, _, _, trivial, this.1, ⟨fun b o h1 h2 h3 q => this.2.1 b o h3 (x1.up.kp b o h1 q), fun b o q => let ⟨o', q'⟩ := x1.up.th b o q; this.2.2 b o' q', fun b h => h.imp id (frs b)⟩, hQ⟩
end
end Mine

namespace Mine
open PySem PySem.Spec PySem.Calls PyProof.Rows

section
variable {prog : Program} {w : World} {A : Around} {E : Value → Shared → Prop} {s : Shared}
/-- a store into a plain list leaves a plain list -/
theorem setItem_isL {l : Addr} {items : Array Value} {n : Nat} {k : Int} {t : Tok} {v : Value} {Q : Unit → Shared → Prop} (hl : IsL s.heap l items n) (h0 : 0 ≤ k) (hfit : k < 2 ^ 63) (hn : k < items.size)
    (hQ : IsL (s.heap.update l (Obj.mapSeq (·.setIfInBounds k.toNat v))) l (items.setIfInBounds k.toNat v) n → Q () { s with heap := s.heap.update l (Obj.mapSeq (·.setIfInBounds k.toNat v)) }) :
    wpAny (model prog w) A (setItem (.ref l) (.int k t) v) Q E s := by
  have hT : s.TypeIs (.ref l) "list" := ⟨_, hl, rfl⟩
  have hq := hQ (by
    have := hl.update (fun xs => xs.setIfInBounds k.toNat v)
    have e : ((items.setIfInBounds k.toNat v).size == items.size) = true := by simp
    simpa [e] using this)
  clear hQ
  unfold setItem
  try with_reducible refine wpAny_holding ?_
  first | refine wpAny_bind (wpAny_pure ?_) | skip
  refine wpAny_bind (wpAny_sequenceKey hT (by decide) ?_)
  refine wpAny_bind (wpAny_callSpecial?_slot (name := Str.ofString "__setitem__") hT slot_list_setitem
    (wpAny_call_entry slot_list_setitem hT entry_list_setitem ?_ (args_list_setitem _ _ _)))
  show wpAny _ _ (Builtin.List.listSubscript? (.int k t) >>= _) _ _ s
  refine wpAny_bind (wpAny_listSubscript_int (fitsIndex_of h0 hfit) ?_)
  clear hfit
  obtain ⟨j, rfl⟩ := Int.eq_ofNat_of_zero_le h0
  have hj : j < items.size := by omega
  show wpAny _ _ ((seqItemAt l j >>= fun r => pure (r.map (j, ·))) >>= _) _ _ s
  refine wpAny_bind (wpAny_bind (wpAny_seqItemAt hl rfl (wpAny_pure ?_)))
  rw [Array.getElem?_eq_getElem hj]
  show wpAny _ _ (setSeqItemAt l j v >>= _) _ _ s
  refine wpAny_bind (wpAny_setSeqItemAt hl rfl ?_)
  first
    | exact wpAny_bind (wpAny_pure (wpAny_pure ⟨.none, rfl, wpAny_pure hq⟩))
    | exact wpAny_pure ⟨.none, rfl, wpAny_pure hq⟩
end

section
variable {c : Cx} {f : Fm} {ρ : Rho} {mo : Addr → Prop} {val : Nat → Value} {fp : Nat → List Addr} {s : Shared} {E : Value → Shared → Prop}
variable {Q : Fl → Rho → Prop} {e ei er : Expr} {d d0 : PyData} {k k2 k3 : EK} {pos : Pos} {x : Str} {xp ap cp sp sp2 : Pos} {i : Nat} {xs : List PyData}

theorem mut0 {d d' : PyData} {b : Addr} {h' : Heap} {tk : Nat} {s1 : Shared} (FS : FmS c f) (S : St c f ρ mo val fp s) (x1 : Ext c s s1) (e : ρ[i]? = some (some ⟨.ow, d⟩)) (hb : b ∈ fp i)
    (hs : Heap.SameBut b s1.heap h') (hpl : Pl h' b) (r : Reads h' (val i) d' (fp i)) (hQ : Q .next (ρ.set i (some ⟨.ow, d'⟩))) : Post c f mo s Q .next { s1 with heap := h', toks := tk } := by
  have S1 := S.ext x1
  have := S1.mut (tk := tk) (as' := fp i) (extra := []) FS e hb hs hpl r (S.own i _ e rfl).1 (fun a ha => .inl ha) nofun (fun _ _ _ _ _ _ h => by cases h) nofun
  exact ⟨.next, _, _, _, _, trivial, this.1, ⟨fun b o h1 h2 h3 q => this.2.1 b o h3 (x1.up.kp b o h1 q), fun b o q => let ⟨o', q'⟩ := x1.up.th b o q; this.2.2 b o' q', fun b h => h.elim .inl (fun q => by cases q)⟩, hQ⟩

/-- x[i] = e, a flat item in the place of a flat item -/
theorem ex_setitem {j : Int} (FS : FmS c f) (hat : At f.xs ρ x ⟨.ow, .list xs⟩ i) (hv : Ev c f ρ e d k) (hi : Ev c f ρ ei (.int j) k2) (hd : flat d = true) (h0 : 0 ≤ j) (hfit : j < 2 ^ 63) (hx : xs[j.toNat]? = some d0) (hd0 : flat d0 = true)
    (hQ : Q .next (ρ.set i (some ⟨.ow, .list (xs.set j.toNat d)⟩)))
    (hdb : (x == ("__debug__" : Str)) = false := by decide +kernel) (hn : (x == ("__classdict__" : Str)) = false := by decide +kernel)
    (hs : ∀ env, swapsWith e (some (.Subscript (.Name x xp) ei sp)) pos.line env = pure false := by intro _; rfl) : Ex1 c f (.Assign [.Subscript (.Name x xp) ei sp] e pos) ρ Q := fun mo val fp s S => by
  refine wpAny_Assign_Subscript (hv.bind S fun v s1 as1 x1 S1 r1 _ => name_step S1 hat (fun _ => hi.bind S1 fun iv s3 as3 x3 S3 r3 _ => ?_) hdb hn) (hs _)
  have e0 := hat.slot
  obtain ⟨a, vs, n, as, hva, hfp, hl, hr, hma⟩ := owned_list S3 e0
  cases r3
  rw [hva]
  have hlen : vs.size = xs.length := by simpa using readsAll_length hr
  have hjl : j.toNat < xs.length := (List.getElem?_eq_some_iff.mp hx).1
  refine setItem_isL hl h0 hfit (by omega) fun hl2 => ?_
  have hsb : Heap.SameBut a s3.heap (s3.heap.update a (Obj.mapSeq (·.setIfInBounds j.toNat v))) := sameBut_update ..
  have nd := (S3.own i _ e0 rfl).1
  rw [hfp] at nd
  have r1' := reads_but hsb (isL_notTup hl) (by rw [reads_flat r1 hd]; nofun) (x3.reads S1.wf r1)
  rw [reads_flat r1 hd] at r1'
  have hr2 := readsAll_but hsb (isL_notTup hl) (List.nodup_cons.mp nd).1 hr
  refine mut0 (d' := .list (xs.set j.toNat d)) FS S (x1.trans x3) e0 (by rw [hfp]; exact List.mem_cons_self ..) hsb (Pl.of_isL hl2) ?_ hQ
  rw [hva, hfp]
  exact .list hl2 rfl rfl (by rw [Array.toList_setIfInBounds]; exact readsAll_set hr2 hx hd0 r1')

/-- the row of a table that a variable owns -/
theorem owned_row {j : Nat} {rows cells : List PyData} (S : St c f ρ mo val fp s) (e : ρ[i]? = some (some ⟨.ow, .list rows⟩)) (hj : rows[j]? = some (.list cells)) :
    ∃ a vs n as b ws m cs, val i = .ref a ∧ fp i = a :: as ∧ IsL s.heap a vs n ∧ ReadsAll s.heap vs.toList rows as ∧ vs.toList[j]? = some (.ref b) ∧ IsL s.heap b ws m ∧ ReadsAll s.heap ws.toList cells cs ∧ b ∈ as := by
  obtain ⟨a, vs, n, as, hva, hfp, hl, hr, hma⟩ := owned_list S e
  obtain ⟨v, bs, h1, h2, h3⟩ := readsAll_item hr hj
  cases h2 with
  | list g1 g2 g3 g4 =>
    have hb : _ ∈ as := h3.subset (List.mem_cons_self ..)
    have hmb := (S.own i _ e rfl).2 _ (by rw [hfp]; exact List.mem_cons_of_mem _ hb)
    exact ⟨a, vs, n, as, _, _, _, _, hva, hfp, hl, hr, h1, (S.moPl _ hmb).isL g1 g2 g3, g4, hb⟩

/-- the value of a row: x[i] of a table owned by x -/
theorem row_step {j : Int} {rows cells : List PyData} {K : Value → Shared → Prop} (S : St c f ρ mo val fp s) (hat : At f.xs ρ x ⟨.ow, .list rows⟩ i) (hi : Ev c f ρ ei (.int j) k2) (h0 : 0 ≤ j) (hfit : j < 2 ^ 63) (hj : rows[j.toNat]? = some (.list cells))
    (hdb : (x == ("__debug__" : Str)) = false) (hn : (x == ("__classdict__" : Str)) = false) (hs : ∀ o i, subscripted ei false o i = operate [o, i] (getItem o i))
    (hK : ∀ b s', Ext c s s' → St c f ρ mo val fp s' → (∃ a vs n as, val i = .ref a ∧ fp i = a :: as ∧ IsL s'.heap a vs n ∧ ReadsAll s'.heap vs.toList rows as ∧ vs.toList[j.toNat]? = some (.ref b) ∧ b ∈ as) → K (.ref b) s') :
    wpAny c.M f.A (eval (.Subscript (.Name x xp) ei sp) f.env) K E s := by
  refine Subscript_ (name_step S hat (fun r0 => hi.bind S fun iv s2 as2 x2 S2 r2 _ => ?_) hdb hn)
  cases r2
  obtain ⟨a, vs, n, as, b, ws, m, cs, hva, hfp, hl, hr, hv, hlb, hrb, hb⟩ := owned_row S2 hat.slot hj
  rw [hva]
  refine tail_any (T := "list") ⟨_, hl, rfl⟩ slot_list_getitem.lookup ?_ (hs _ _)
  exact wpAny_getItem_list ⟨_, hl, rfl, _, rfl⟩ h0 hfit (by simpa using hv) (hK b s2 x2 S2 ⟨a, vs, n, as, hva, hfp, hl, hr, hv, hb⟩)

/-- x[i][j] = e, flat -/
theorem ex_setitem2 {j1 j2 : Int} {rows cells : List PyData} (FS : FmS c f) (hat : At f.xs ρ x ⟨.ow, .list rows⟩ i) (hv : Ev c f ρ e d k) (hi1 : Ev c f ρ er (.int j1) k2) (hi2 : Ev c f ρ ei (.int j2) k3) (hd : flat d = true)
    (h01 : 0 ≤ j1) (hfit1 : j1 < 2 ^ 63) (hrow : rows[j1.toNat]? = some (.list cells)) (hcf : flats cells = true) (h02 : 0 ≤ j2) (hfit2 : j2 < 2 ^ 63) (hx : xs = cells) (hlt : j2.toNat < cells.length)
    (hQ : Q .next (ρ.set i (some ⟨.ow, .list (rows.set j1.toNat (.list (cells.set j2.toNat d)))⟩)))
    (hdb : (x == ("__debug__" : Str)) = false := by decide +kernel) (hn : (x == ("__classdict__" : Str)) = false := by decide +kernel) (hs2 : ∀ o i, subscripted er false o i = operate [o, i] (getItem o i) := by intros; rfl)
    (hs : ∀ env, swapsWith e (some (.Subscript (.Subscript (.Name x xp) er sp) ei sp2)) pos.line env = pure false := by intro _; rfl) : Ex1 c f (.Assign [.Subscript (.Subscript (.Name x xp) er sp) ei sp2] e pos) ρ Q := fun mo val fp s S => by
  refine wpAny_Assign_Subscript (hv.bind S fun v s1 as1 x1 S1 r1 _ => row_step S1 hat hi1 h01 hfit1 hrow hdb hn hs2 fun b s2 x2 S2 hrb => hi2.bind S2 fun iv s3 as3 x3 S3 r3 _ => ?_) (hs _)
  have e0 := hat.slot
  obtain ⟨a2, vs2, n2, as2, hva2, hfp2, hl2, hr2, hvb2, hb2⟩ := hrb
  obtain ⟨a, vs, n, as, b', ws, m, cs, hva, hfp, hl, hr, hvb, hlb, hrb, hb⟩ := owned_row S3 e0 hrow
  have hbb : b' = b := by
    rw [hva2] at hva; cases hva
    have q := listOrDict_ext S2.wf x3 hl2 (.inl ⟨rfl, _, _, rfl⟩)
    have q' := Option.some.inj (q.symm.trans hl)
    cases q'
    rw [hvb2] at hvb; cases hvb; rfl
  subst hbb
  cases r3
  have hlen : ws.size = cells.length := by simpa using readsAll_length hrb
  refine setItem_isL hlb h02 hfit2 (by omega) fun hl3 => ?_
  have hsb : Heap.SameBut b' s3.heap (s3.heap.update b' (Obj.mapSeq (·.setIfInBounds j2.toNat v))) := sameBut_update ..
  have nd := (S3.own i _ e0 rfl).1
  rw [hfp] at nd
  have hab : b' ≠ a := fun q => (List.nodup_cons.mp nd).1 (q ▸ hb)
  have r1' := reads_but hsb (isL_notTup hlb) (by rw [reads_flat r1 hd]; nofun) ((x2.trans x3).reads S1.wf r1)
  rw [reads_flat r1 hd] at r1'
  have hcs := readsAll_flat hrb hcf
  subst hcs
  have hrb2 := readsAll_but hsb (isL_notTup hlb) (by simp) hrb
  obtain ⟨c0, hc0⟩ : ∃ c0, cells[j2.toNat]? = some c0 := ⟨_, List.getElem?_eq_getElem hlt⟩
  have hc0f : flat c0 = true := by
    have : ∀ {l : List PyData}, flats l = true → ∀ y ∈ l, flat y = true := fun {l} => by
      induction l with
      | nil => intro _ y hy; cases hy
      | cons z l ih =>
        intro h y hy
        simp only [flats, Bool.and_eq_true] at h
        rcases List.mem_cons.mp hy with rfl | hy
        · exact h.1
        · exact ih h.2 y hy
    exact this hcf c0 (List.mem_of_getElem? hc0)
  have new : Reads (s3.heap.update b' (Obj.mapSeq (·.setIfInBounds j2.toNat v))) (.ref b') (.list (cells.set j2.toNat d)) [b'] :=
    .list hl3 rfl rfl (by rw [Array.toList_setIfInBounds]; exact readsAll_set hrb2 hc0 hc0f r1')
  refine mut0 (d' := .list (rows.set j1.toNat (.list (cells.set j2.toNat d)))) FS S ((x1.trans x2).trans x3) e0 (by rw [hfp]; exact List.mem_cons_of_mem _ hb) hsb (Pl.of_isL hl3) ?_ hQ
  rw [hva, hfp]
  have hla : IsL (s3.heap.update b' (Obj.mapSeq (·.setIfInBounds j2.toNat v))) a vs n := (hsb.2 a (fun q => hab q.symm)).trans hl
  exact .list hla rfl rfl (readsAll_row hcf hsb.2 (isL_notTup hlb) new hr (List.nodup_cons.mp nd).2 hvb hrow)

/-- x[i].append(e), flat rows -/
theorem ex_append2 {j1 : Int} {rows cells : List PyData} (FS : FmS c f) (hat : At f.xs ρ x ⟨.ow, .list rows⟩ i) (hi1 : Ev c f ρ er (.int j1) k2) (h : Ev c f ρ e d k) (hd : flat d = true)
    (h01 : 0 ≤ j1) (hfit1 : j1 < 2 ^ 63) (hrow : rows[j1.toNat]? = some (.list cells)) (hcf : flats cells = true) (hsz : cells.length ≤ sizeLine)
    (hQ : Q .next (ρ.set i (some ⟨.ow, .list (rows.set j1.toNat (.list (cells ++ [d])))⟩)))
    (hdb : (x == ("__debug__" : Str)) = false := by decide +kernel) (hn : (x == ("__classdict__" : Str)) = false := by decide +kernel) (hs2 : ∀ o i, subscripted er false o i = operate [o, i] (getItem o i) := by intros; rfl)
    (hbase : ∀ env, attributeBase (.Subscript (.Name x xp) er sp) "append" env (eval (.Subscript (.Name x xp) er sp) env) = eval (.Subscript (.Name x xp) er sp) env := by intro _; rfl) (hline : (ap.endLine == cp.line) = true := by rfl)
    (htrees : ∀ env, backTo cp (starEach [e] env) = [(false, eval e env)] := by intro _; rfl)
    (hsw : ∀ env, swapsWith (.Call (.Attribute (.Subscript (.Name x xp) er sp) "append" ap) [e] [] cp) none pos.line env = pure false := by intro _; rfl) :
    Ex1 c f (.Expr (.Call (.Attribute (.Subscript (.Name x xp) er sp) "append" ap) [e] [] cp) pos) ρ Q := fun mo val fp s S => by
  have hint : interactive f.env = false := by unfold interactive; rw [S.ok.kind]; rfl
  refine wpAny_Expr_any ?_ hint (hsw _)
  refine wpAny_Call_method1_late (hbase _) hline (htrees _) (row_step S hat hi1 h01 hfit1 hrow hdb hn hs2 fun b s2 x2 S2 hrb => ?_)
  have e0 := hat.slot
  obtain ⟨a2, vs2, n2, as2, hva2, hfp2, hl2, hr2, hvb2, hb2⟩ := hrb
  have hbfp : b ∈ fp i := by rw [hfp2]; exact List.mem_cons_of_mem _ hb2
  obtain ⟨ob, hob, hlob, hdn, _⟩ := S2.moPl b ((S2.own i _ e0 rfl).2 b hbfp)
  obtain ⟨a, vs, n, as, b', ws, m, cs, hva, hfp, hl, hr, hvb, hlb, hrb, hb⟩ := owned_row S2 e0 hrow
  have hbb : b' = b := by
    rw [hva2] at hva; cases hva
    have q' := Option.some.inj (hl2.symm.trans hl)
    cases q'
    rw [hvb2] at hvb; cases hvb; rfl
  subst hbb
  refine ⟨"list", "list.append", F.plainAttrs_list, F.slot_list_append, F.type_list_append, ⟨_, hlb, rfl⟩, fun a' q => by cases q; exact ⟨_, hlb, rfl⟩, ?_⟩
  refine P.append_list (h.bind S2 fun v s3 as1 x3 S3 r1 ko => ?_)
  have hlb3 : IsL s3.heap b' ws m := listOrDict_ext S2.wf x3 hlb (.inl ⟨rfl, _, _, rfl⟩)
  have hla3 : IsL s3.heap a vs n := listOrDict_ext S2.wf x3 hl (.inl ⟨rfl, _, _, rfl⟩)
  have hlen : ws.size = cells.length := by simpa using readsAll_length hrb
  refine ⟨ws, m, by omega, hlb3, ?_⟩
  have hl4 := hlb3.update (fun xs => xs.push v)
  have hsb : Heap.SameBut b' s3.heap (s3.heap.update b' (Obj.mapSeq fun xs => xs.push v)) := sameBut_update ..
  have nd := (S3.own i _ e0 rfl).1
  rw [hfp] at nd
  have hab : b' ≠ a := fun q => (List.nodup_cons.mp nd).1 (q ▸ hb)
  have r1' := reads_but hsb (isL_notTup hlb3) (by rw [reads_flat r1 hd]; nofun) r1
  rw [reads_flat r1 hd] at r1'
  have hcs := readsAll_flat hrb hcf
  subst hcs
  have hrb2 := readsAll_but hsb (isL_notTup hlb3) (by simp) (x3.readsAll S2.wf hrb)
  have new : Reads (s3.heap.update b' (Obj.mapSeq fun xs => xs.push v)) (.ref b') (.list (cells ++ [d])) [b'] :=
    .list hl4 rfl rfl (by rw [Array.toList_push]; exact readsAll_snoc hrb2 r1')
  refine mut0 (d' := .list (rows.set j1.toNat (.list (cells ++ [d])))) (tk := s3.toks) FS S (x2.trans x3) e0 (by rw [hfp]; exact List.mem_cons_of_mem _ hb) hsb (Pl.of_isL hl4) ?_ hQ
  rw [hva, hfp]
  have hla : IsL (s3.heap.update b' (Obj.mapSeq fun xs => xs.push v)) a vs n := (hsb.2 a (fun q => hab q.symm)).trans hla3
  exact .list hla rfl rfl (readsAll_row hcf hsb.2 (isL_notTup hlb3) new (x3.readsAll S2.wf hr) (List.nodup_cons.mp nd).2 hvb hrow)
end
end Mine

namespace Mine
open PySem PySem.Spec PySem.Calls PyProof.Rows

def clOf (env : Env) : List (Str × NameKind) → List (Str × Addr) → List (Str × Addr)
  | [], acc => acc
  | (n, k) :: r, acc => if k == .free then clOf env r ((n, (env.cells.lookup n).getD 0) :: acc) else clOf env r acc

theorem closureFor_eq {scope : Scope} {env : Env} (h : ∀ x ∈ scope.names, x.2 = .free → ∃ a, env.cells.lookup x.1 = some a) : closureFor scope env = pure (clOf env scope.names []) := by
  simp only [closureFor]
  have key : ∀ (l : List (Str × NameKind)) (acc : List (Str × Addr)), (∀ x ∈ l, x.2 = .free → ∃ a, env.cells.lookup x.1 = some a) →
      (forIn l acc fun x (r : List (Str × Addr)) => if (x.2 == NameKind.free) = true then do let a ← cellOf env x.1; pure (ForInStep.yield ((x.1, a) :: r)) else pure (ForInStep.yield r) : Sem (List (Str × Addr))) = pure (clOf env l acc) := by
    intro l
    induction l with
    | nil => intro acc _; rfl
    | cons y l ih =>
      intro acc hy
      obtain ⟨n, kd⟩ := y
      rw [List.forIn_cons, clOf]
      by_cases hk : (kd == NameKind.free) = true
      · obtain ⟨a, ha⟩ := hy (n, kd) (List.mem_cons_self ..) (by simpa using hk)
        simp only at ha
        simp only [hk, if_true, cellOf, ha, pure_bind, Option.getD_some]
        exact ih _ fun x hx => hy x (List.mem_cons_of_mem _ hx)
      · simp only [hk, if_false, pure_bind, Bool.false_eq_true]
        exact ih _ fun x hx => hy x (List.mem_cons_of_mem _ hx)
  have := key scope.names [] h
  first
    | (rw [show (forIn scope.names ([] : List (Str × Addr)) _ : Sem _) = _ from this]; rfl)
    | (simp only [bind_pure]; exact this)
    | (simpa using this)

theorem clOf_lookup {env : Env} {x : Str} {a : Addr} (hx : env.cells.lookup x = some a) : ∀ (names : List (Str × NameKind)) (acc : List (Str × Addr)), ((x, NameKind.free) ∈ names ∨ acc.lookup x = some a) → (∀ b, acc.lookup x = some b → b = a) → (clOf env names acc).lookup x = some a
  | [], acc, h, _ => h.elim (fun q => by cases q) id
  | (n, k) :: r, acc, h, hc => by
    rw [clOf]
    by_cases hk : (k == NameKind.free) = true
    · rw [if_pos hk]
      by_cases hn : x = n
      · subst hn
        refine clOf_lookup hx r _ (.inr ?_) fun b q => ?_
        · rw [List.lookup_cons_self, hx]; rfl
        · rw [List.lookup_cons_self, hx] at q; cases q; rfl
      · have hb : (x == n) = false := beq_eq_false_iff_ne.mpr hn
        refine clOf_lookup hx r _ (h.imp (fun q => ?_) fun q => ?_) fun b q => ?_
        · rcases List.mem_cons.mp q with q | q
          · cases q; exact absurd rfl hn
          · exact q
        · rw [List.lookup_cons, hb]; exact q
        · rw [List.lookup_cons, hb] at q; exact hc b q
    · rw [if_neg hk]
      refine clOf_lookup hx r _ (h.imp (fun q => ?_) id) hc
      rcases List.mem_cons.mp q with q | q
      · cases q; exact absurd rfl hk
      · exact q
theorem clOf_sound {env : Env} {x : Str} {a : Addr} : ∀ (names : List (Str × NameKind)) (acc : List (Str × Addr)), (∀ y ∈ names, y.2 = .free → ∃ a, env.cells.lookup y.1 = some a) → (∀ b, acc.lookup x = some b → env.cells.lookup x = some b) → (clOf env names acc).lookup x = some a → env.cells.lookup x = some a
  | [], acc, _, h, e => h a e
  | (n, k) :: r, acc, hy, h, e => by
    rw [clOf] at e
    have hy' : ∀ y ∈ r, y.2 = .free → ∃ a, env.cells.lookup y.1 = some a := fun y q => hy y (List.mem_cons_of_mem _ q)
    by_cases hk : (k == NameKind.free) = true
    · rw [if_pos hk] at e
      refine clOf_sound r _ hy' (fun b q => ?_) e
      by_cases hn : x = n
      · subst hn
        rw [List.lookup_cons_self] at q
        obtain ⟨a', ha'⟩ := hy (x, k) (List.mem_cons_self ..) (by simpa using hk)
        simp only at ha'
        rw [ha'] at q ⊢; simpa using q
      · have hb : (x == n) = false := beq_eq_false_iff_ne.mpr hn
        rw [List.lookup_cons, hb] at q; exact h b q
    · rw [if_neg hk] at e
      exact clOf_sound r _ hy' h e
theorem cellsFrom_not {x : Str} : ∀ (names : List (Str × NameKind)) (n : Nat) (acc : List (Str × Addr)), (x, NameKind.cell) ∉ names → (cellsFrom n names acc).lookup x = acc.lookup x
  | [], _, _, _ => rfl
  | (y, k) :: r, n, acc, h => by
    rw [cellsFrom]
    have h' : (x, NameKind.cell) ∉ r := fun q => h (List.mem_cons_of_mem _ q)
    by_cases hk : (k == NameKind.cell) = true
    · rw [if_pos hk, cellsFrom_not r _ _ h']
      have hb : (x == y) = false := beq_eq_false_iff_ne.mpr fun q => h (by
        have : k = .cell := by simpa using hk
        rw [q, this]; exact List.mem_cons_self ..)
      rw [List.lookup_cons, hb]
    · rw [if_neg hk, cellsFrom_not r _ _ h']
theorem cellsFrom_own {x : Str} : ∀ (names : List (Str × NameKind)) (h : Heap) (acc : List (Str × Addr)), (x, NameKind.cell) ∈ names →
    ∃ a, (cellsFrom h.objs.size names acc).lookup x = some a ∧ (pushCells h names).IsCell a none ∧ h.get? a = none
  | [], _, _, h => by cases h
  | (y, k) :: r, h, acc, hm => by
    rw [cellsFrom, pushCells]
    by_cases hr : (x, NameKind.cell) ∈ r
    · by_cases hk : (k == NameKind.cell) = true
      · rw [if_pos hk, if_pos hk]
        obtain ⟨a, h1, h2, h3⟩ := cellsFrom_own r (h.push { cls := .type "cell", data := .cell none }) ((y, h.objs.size) :: acc) hr
        rw [Heap.size_push] at h1
        refine ⟨a, h1, h2, ?_⟩
        cases e : h.get? a with
        | none => rfl
        | some o => rw [Heap.get?_push_of_some _ e] at h3; cases h3
      · rw [if_neg hk, if_neg hk]; exact cellsFrom_own r h acc hr
    · rcases List.mem_cons.mp hm with q | q
      · cases q
        have hcc : (NameKind.cell == NameKind.cell) = true := by decide
        rw [if_pos hcc, if_pos hcc]
        refine ⟨h.objs.size, ?_, ?_, get_size_none h⟩
        · rw [cellsFrom_not r _ _ hr, List.lookup_cons_self]
        · exact ⟨_, pushCells_keeps r _ _ _ (Heap.get?_push_size _ rfl), rfl⟩
      · exact absurd q hr

theorem relabel_lookup {env : Env} {x : Str} {k : NameKind} : ∀ {names : List (Str × NameKind)}, names.lookup x = some k →
    ((names.map fun (n, k) => if (k == NameKind.free && env.scope.kind == .function && env.kindOf n == some .cell) then (n, NameKind.cell) else (n, k)).lookup x = some k) ∨
      (k = .free ∧ (names.map fun (n, k) => if (k == NameKind.free && env.scope.kind == .function && env.kindOf n == some .cell) then (n, NameKind.cell) else (n, k)).lookup x = some .cell)
  | [], h => by simp at h
  | (n, k') :: r, h => by
    have ih := @relabel_lookup env x k r
    simp only [List.map_cons]
    cases hx : x == n with
    | true =>
      simp only [List.lookup_cons, hx] at h
      cases h
      by_cases hc : (k == NameKind.free && env.scope.kind == .function && env.kindOf n == some .cell) = true
      · rw [if_pos hc]
        have hkf : k = .free := by
          have := (Bool.and_eq_true_iff.mp (Bool.and_eq_true_iff.mp hc).1).1
          simpa using this
        exact .inr ⟨hkf, by simp [List.lookup_cons, hx]⟩
      · rw [if_neg hc]
        exact .inl (by simp [List.lookup_cons, hx])
    | false =>
      simp only [List.lookup_cons, hx] at h
      have := ih h
      by_cases hc : (k' == NameKind.free && env.scope.kind == .function && env.kindOf n == some .cell) = true
      · rw [if_pos hc]; simp only [List.lookup_cons, hx]; exact this
      · rw [if_neg hc]; simp only [List.lookup_cons, hx]; exact this

def chEnv (scope : Scope) (C : Addr) (env : Env) : Env :=
  { scope := relabel scope env, locals := C, globals := env.globals, cells := cellsFrom (C + 1) scope.names (clOf env scope.names []), qual := env.qual, func := none, code := env.code, frame := env.frame, builtins := env.builtins }

theorem newEnv_comp {M : Model} {A : Around} {E : Value → Shared → Prop} {s : Shared} {scope : Scope} {env : Env} {cl : List (Str × Addr)} {Q : Env → Shared → Prop}
    (h : Q { scope := scope, locals := s.heap.objs.size, globals := env.globals, cells := cellsFrom (s.heap.objs.size + 1) scope.names cl, qual := env.qual, func := none, code := env.code, frame := env.frame, builtins := env.builtins }
      { s with heap := pushCells (s.heap.push { cls := .type "dict", data := .dict #[] }) scope.names }) :
    wpAny M A (newFunctionEnv scope env.globals cl [] env.qual none .none (some env)) Q E s := by
  simp only [newFunctionEnv, Option.isSome_some, if_true]
  refine wpAny_bind (wpAny_alloc ?_)
  refine wpAny_bind (wpAny_layCells _ (fun name kind cells => by cases hkc : kind == NameKind.cell <;> simp [hkc]) _ _ _ _ ?_)
  rw [show ({ s with heap := s.heap.push { cls := .type "dict", data := .dict #[] } } : Shared).heap.objs.size = s.heap.objs.size + 1 from Heap.size_push ..]
  simp only [List.forIn_nil]
  first
    | exact wpAny_bind (wpAny_pure (wpAny_pure h))
    | exact wpAny_pure (wpAny_pure h)
    | exact wpAny_pure h

/-- the frame of a comprehension: its own name, and those that it takes from around -/
def chFm (f : Fm) (scope : Scope) (C : Addr) (x : Str) (cp : List Nat) : Fm := ⟨chEnv scope C f.env, f.A, f.h₀, x :: cp.map (fun j => f.xs.getD j default), f.lv⟩
def chRho (ρ : Rho) (cp : List Nat) (sl : Slot) : Rho := some sl :: cp.map fun j => (ρ[j]?).join

structure CompOk (c : Cx) (f : Fm) (ρ : Rho) (scope : Scope) (x : Str) (cp : List Nat) : Prop where
  kind : scope.kind = .function
  names : ∀ y ∈ scope.names, y.2 = .local → scope.names.lookup y.1 = some .local
  loopv : scope.names.lookup x = some .local ∨ (scope.names.lookup x = some .cell ∧ (x, NameKind.cell) ∈ scope.names)
  free : ∀ y ∈ scope.names, y.2 = .free → ∃ a, f.env.cells.lookup y.1 = some a
  nd : cp.Nodup
  cap : ∀ j ∈ cp, ∃ y, f.xs[j]? = some y ∧ scope.names.lookup y = some .free ∧ (y, NameKind.free) ∈ scope.names ∧ (y, NameKind.cell) ∉ scope.names ∧ (f.env.kindOf y = some .cell ∨ f.env.kindOf y = some .free)

def Ifs (c : Cx) (f : Fm) (ρ : Rho) (ifs : List Expr) (b : Bool) : Prop :=
  ∀ mo val fp s E, St c f ρ mo val fp s → wpAny c.M f.A (forIn ifs true fun c r => if r = true then do let ok ← isTrue c f.env (eval c f.env); pure (ForInStep.yield ok) else pure (ForInStep.yield r))
    (fun ok s' => ok = b ∧ Ext c s s') E s
theorem ifs_nil {c : Cx} {f : Fm} {ρ : Rho} : Ifs c f ρ [] true := fun mo val fp s E S => by
  rw [List.forIn_nil]; exact wpAny_pure ⟨rfl, Ext.refl S.wf⟩
theorem ifs_one {c : Cx} {f : Fm} {ρ : Rho} {e : Expr} {b : Bool} (h : Tst c f ρ e b) : Ifs c f ρ [e] b := fun mo val fp s E S => by
  rw [List.forIn_cons]
  simp only [if_true]
  refine wpAny_bind (wpAny_bind (h.bind S fun s' x S' => wpAny_pure ?_))
  simp only [List.forIn_nil]
  exact wpAny_pure ⟨rfl, x⟩

/-- the value that a comprehension's own name may have: how its slot is filled -/
inductive Fills3 : EK → List PyData → K → Prop
  | sh {ds : List PyData} : Fills3 .sh ds .sh
  | lo {ds : List PyData} : Fills3 .lo ds .lo
  | fr {ds : List PyData} : Fills3 .fr ds .lo
  | flat {k : EK} {ds : List PyData} {sk : K} : (∀ d ∈ ds, flat d = true) → sk ≠ .ow → Fills3 k ds sk
theorem Fills3.ne {k : EK} {ds : List PyData} {sk : K} (h : Fills3 k ds sk) : sk ≠ .ow := by cases h <;> first | assumption | (intro q; cases q)

theorem Wf.but {c : Cx} {s : Shared} {h' : Heap} {tk : Nat} {wr : List Addr} (W : Wf c s) (hk : ∀ b o, b ∉ wr → s.heap.get? b = some o → h'.get? b = some o) (hB : ∀ b ∈ wr, c.hB.get? b = none) (hX : ∀ b ∈ wr, ¬ c.X b) : Wf c { s with heap := h', toks := tk } where
  base := fun b o n e => hk b o (fun q => by rw [hB b q] at e; cases e) (W.base b o n e)
  tab := fun b x => let ⟨ps, e⟩ := W.tab b x; ⟨ps, hk b _ (fun q => hX b q x) e⟩
  old := oldK_but W.old hB hk
  gens := W.gens
  os := W.os

section
variable {c : Cx} {f : Fm} {ρ : Rho} {mo : Addr → Prop} {val : Nat → Value} {fp : Nat → List Addr} {s : Shared} {E : Value → Shared → Prop}

/-- the state of a comprehension's frame -/
theorem child_St {scope : Scope} {x : Str} {cp : List Nat} {C : Addr} {sk : K} {d : PyData} {v : Value} {bs : List Addr} {s' : Shared} (CO : CompOk c f ρ scope x cp) (S : St c f ρ mo val fp s) (x1 : Ext c s s')
    (hC : s.heap.get? C = none) (hns : ∃ m, s'.heap.Ns C m) (hown : ∀ y, (y, NameKind.cell) ∈ scope.names → ∀ a, (chEnv scope C f.env).cells.lookup y = some a → ∃ v, s'.heap.IsCell a v)
    (hld : Loads (chEnv scope C f.env) s'.heap x v) (r : Reads s'.heap v d bs) (hsk : sk ≠ .ow) (hbs : ∀ a ∈ bs, ¬ mo a) (hlo : sk = .lo → ∀ a ∈ bs, f.h₀.get? a = none) (hCb : C ∉ bs) :
    St c (chFm f scope C x cp) (chRho ρ cp ⟨sk, d⟩) mo (fun i => match i with | 0 => v | i + 1 => val (cp.getD i 0)) (fun i => match i with | 0 => bs | i + 1 => fp (cp.getD i 0)) s' := by
  have S' := S.ext x1
  have slot : ∀ i sl, (chRho ρ cp ⟨sk, d⟩)[i]? = some (some sl) → (i = 0 ∧ sl = ⟨sk, d⟩) ∨ ∃ i', i = i' + 1 ∧ ∃ j, cp[i']? = some j ∧ cp.getD i' 0 = j ∧ ρ[j]? = some (some sl) := fun i sl e => by
    cases i with
    | zero => simp [chRho] at e; exact .inl ⟨rfl, e.symm⟩
    | succ i =>
      refine .inr ⟨i, rfl, ?_⟩
      simp only [chRho, List.getElem?_cons_succ, List.getElem?_map] at e
      cases hj : cp[i]? with
      | none => rw [hj] at e; simp at e
      | some j =>
        rw [hj] at e
        simp only [Option.map_some, Option.some.injEq] at e
        refine ⟨j, rfl, by rw [List.getD_eq_getElem?_getD, hj]; rfl, ?_⟩
        cases hr : ρ[j]? with
        | none => rw [hr] at e; simp at e
        | some o => rw [hr] at e; simp at e; rw [e]
  refine ⟨x1.wf, ⟨?_, S.ok.glob, S.ok.bi, S.ok.room, S.ok.base⟩, S'.keep, hns, fun y a e => ?_, fun i sl e => ?_, fun i sl e ho => ?_, fun i sl e ho => ?_, fun i sl e hl => ?_, fun i j sl sl' hne e e' ho ho' => ?_, S'.moNew, S'.moPl, fun h => ?_, fun i sl e => ?_⟩
  · show (relabel scope f.env).kind = .function
    exact CO.kind
  · by_cases hy : (y, NameKind.cell) ∈ scope.names
    · exact hown y hy a e
    · have e' : (cellsFrom (C + 1) scope.names (clOf f.env scope.names [])).lookup y = some a := e
      rw [cellsFrom_not _ _ _ hy] at e'
      have := clOf_sound scope.names [] CO.free (fun b q => by simp at q) e'
      exact S'.cells y a this
  · rcases slot i sl e with ⟨rfl, rfl⟩ | ⟨i', rfl, j, h1, h2, h3⟩
    · exact ⟨x, rfl, hld, r⟩
    · obtain ⟨y, g1, g2, g3⟩ := S'.var j sl h3
      obtain ⟨y', q1, q2, q3, q4, q5⟩ := CO.cap j (List.mem_of_getElem? h1)
      obtain rfl : y' = y := by rw [q1] at g1; exact Option.some.inj g1
      refine ⟨y', ?_, ?_, by simp only [h2]; exact g3⟩
      · simp only [chFm, List.getElem?_cons_succ, List.getElem?_map, h1, Option.map_some, List.getD_eq_getElem?_getD, q1, Option.getD_some]
      · simp only [h2]
        rcases g2 with ⟨k1, _⟩ | ⟨k1, a, k2, k3⟩
        · rcases q5 with q5 | q5 <;> rw [k1] at q5 <;> cases q5
        · refine .inr ⟨?_, a, ?_, k3⟩
          · rcases relabel_lookup (env := f.env) q2 with h | ⟨_, h⟩
            · exact .inr h
            · exact .inl h
          · show (cellsFrom (C + 1) scope.names (clOf f.env scope.names [])).lookup y' = some a
            rw [cellsFrom_not _ _ _ q4]
            exact clOf_lookup k2 scope.names [] (.inl q3) (fun b q => by simp at q)
  · rcases slot i sl e with ⟨rfl, rfl⟩ | ⟨i', rfl, j, h1, h2, h3⟩
    · exact absurd ho hsk
    · simp only [h2]; exact S.own j sl h3 ho
  · rcases slot i sl e with ⟨rfl, rfl⟩ | ⟨i', rfl, j, h1, h2, h3⟩
    · exact hbs
    · simp only [h2]; exact S.shr j sl h3 ho
  · rcases slot i sl e with ⟨rfl, rfl⟩ | ⟨i', rfl, j, h1, h2, h3⟩
    · exact hlo hl
    · simp only [h2]; exact S.loc j sl h3 hl
  · rcases slot i sl e with ⟨rfl, rfl⟩ | ⟨i', rfl, ji, h1, h2, h3⟩ <;> rcases slot j sl' e' with ⟨rfl, rfl⟩ | ⟨j', rfl, jj, h1', h2', h3'⟩
    · exact absurd rfl hne
    · exact absurd ho hsk
    · exact absurd ho' hsk
    · simp only [h2, h2']
      refine S.apart ji jj sl sl' (fun q => hne ?_) h3 h3' ho ho'
      subst q
      have hl1 : i' < cp.length := (List.getElem?_eq_some_iff.mp h1).1
      rw [(List.getElem?_inj hl1 CO.nd).mp (h1.trans h1'.symm)]
  · obtain ⟨o, q, _⟩ := S.moIn C h; rw [hC] at q; cases q
  · rcases slot i sl e with ⟨rfl, rfl⟩ | ⟨i', rfl, j, h1, h2, h3⟩
    · exact hCb
    · simp only [h2]
      intro q
      obtain ⟨_, _, _, rj⟩ := S.var j sl h3
      obtain ⟨o, ho, _⟩ := reads_objs rj _ q
      have : s.heap.get? C = some o := ho
      rw [hC] at this; cases this

theorem comp_core {elt iter : Expr} {x : Str} {xp : Pos} {ifs : List Expr} {scope : Scope} {pos : Pos} {cp : List Nat} {α : Type} {enc : α → PyData} {xs : List α} {k0 : EK} {sk : K} {p : α → Bool} {g : α → PyData}
    (CO : CompOk c f ρ scope x cp) (h : It c f ρ iter (xs.map enc) k0) (hk : Fills3 k0 (xs.map enc) sk) (hsz : xs.length ≤ sizeLine)
    (ht : ∀ C, ∀ el ∈ xs, Ifs c (chFm f scope C x cp) (chRho ρ cp ⟨sk, enc el⟩) ifs (p el))
    (he : ∀ C, ∀ el ∈ xs, p el = true → Ev c (chFm f scope C x cp) (chRho ρ cp ⟨sk, enc el⟩) elt (g el) .fr)
    {RR : Value → Addr → Result → Shared → Prop} (S : St c f ρ mo val fp s)
    (hRR : ∀ D C s' as, Ext c s s' → s.heap.get? D = none → s.heap.get? C = none → D ≠ C → (∃ m, s'.heap.Ns C m) → Reads s'.heap (.ref D) (.list ((xs.filter p).map g)) (D :: as) → (D :: as).Nodup → (∀ a ∈ D :: as, s.heap.get? a = none) → (∀ a ∈ D :: as, Pl s'.heap a) → C ∉ as →
      RR (.ref D) C (.ok .next) s') :
    wpAny c.M f.A (eval iter f.env) (fun xv s₁ => wpAny c.M f.A (pyIter xv) (fun it s₂ => wpAny c.M f.A (newList []) (fun acc s₃ =>
      wpAny c.M f.A (newFunctionEnv scope f.env.globals (clOf f.env scope.names []) [] f.env.qual none .none (some f.env)) (fun cenv s₄ =>
        codeAny c.M f.A (.compStart (.ListComp elt [⟨.Name x xp, iter, ifs, 0⟩] scope pos) 0 it acc { cenv with scope := relabel scope f.env }) (RR acc cenv.locals) s₄) E s₃) E s₂) E s₁) E s := by
  have base := S.ok.base
  refine wpAny_mono (h mo val fp s E S) (fun xv s1 h1 => wpAny_mono h1 (fun it s2 ⟨x2, I, Fp, wr, P, Sx, as0, e, T⟩ => ?_) fun _ _ z => z) fun _ _ z => z
  subst e
  have hW := T.walks
  rw [List.length_map] at hW
  have S2 := S.ext x2
  have wrH0 : ∀ b ∈ wr, f.h₀.get? b = none := fun b hb => S.keep.none (T.new b hb)
  have wrHB : ∀ b ∈ wr, c.hB.get? b = none := fun b hb => base.none (wrH0 b hb)
  have wrX : ∀ b ∈ wr, ¬ c.X b := fun b hb => T.nX b (hW.sub b hb)
  refine wpAny_newList ?_ (by simp)
  refine newEnv_comp ?_
  -- the places
  generalize hD : s2.heap.objs.size = D
  have hDs2 : s2.heap.get? D = none := by rw [← hD]; exact get_size_none _
  have hDs : s.heap.get? D = none := x2.up.none hDs2
  generalize hH3 : s2.heap.push { cls := .type "list", data := .seq ([] : List Value).toArray } = H3
  have hC' : H3.objs.size = D + 1 := by rw [← hH3, Heap.size_push, hD]
  generalize hC : H3.objs.size = C
  have hk3 : ∀ b o, s2.heap.get? b = some o → H3.get? b = some o := fun b o e => by rw [← hH3]; exact Heap.get?_push_of_some _ e
  have hCs3 : H3.get? C = none := by rw [← hC]; exact get_size_none _
  have hCs2 : s2.heap.get? C = none := by
    cases q : s2.heap.get? C with
    | none => rfl
    | some o => rw [hk3 C o q] at hCs3; cases hCs3
  have hCs : s.heap.get? C = none := x2.up.none hCs2
  have hDC : D ≠ C := by rw [← hC, hC']; exact Nat.ne_of_lt (Nat.lt_succ_self _)
  have hDin : H3.get? D = some { cls := .type "list", data := .seq ([] : List Value).toArray } := by rw [← hH3, ← hD]; exact Heap.get?_push_size _ rfl
  show codeAny c.M f.A (.compStart (.ListComp elt [⟨.Name x xp, iter, ifs, 0⟩] scope pos) 0 (.ref I) (.ref D)
    { scope := relabel scope f.env, locals := C, globals := f.env.globals, cells := cellsFrom (C + 1) scope.names (clOf f.env scope.names []), qual := f.env.qual, func := none, code := f.env.code, frame := f.env.frame, builtins := f.env.builtins }) (RR (.ref D) C) _
  change codeAny c.M f.A (.compStart (.ListComp elt [⟨.Name x xp, iter, ifs, 0⟩] scope pos) 0 (.ref I) (.ref D) (chEnv scope C f.env)) (RR (.ref D) C) { s2 with heap := pushCells (H3.push { cls := .type "dict", data := .dict #[] }) scope.names }
  generalize hH4 : pushCells (H3.push { cls := .type "dict", data := .dict #[] }) scope.names = H4
  have hk4 : ∀ b o, H3.get? b = some o → H4.get? b = some o := fun b o e => by rw [← hH4]; exact pushCells_keeps _ _ _ _ (Heap.get?_push_of_some _ e)
  have hk24 : ∀ b o, s2.heap.get? b = some o → H4.get? b = some o := fun b o e => hk4 b o (hk3 b o e)
  have ns4 : H4.Ns C fun _ => none := by rw [← hH4, ← hC]; exact (Heap.Ns.new H3 (.type "dict")).keeps (pushCells_keeps _ _)
  have own4 : ∀ y, (y, NameKind.cell) ∈ scope.names → ∃ a, (chEnv scope C f.env).cells.lookup y = some a ∧ H4.IsCell a none ∧ s2.heap.get? a = none ∧ a ≠ D ∧ a ≠ C := fun y hy => by
    obtain ⟨a, q1, q2, q3⟩ := cellsFrom_own scope.names (H3.push { cls := .type "dict", data := .dict #[] }) (clOf f.env scope.names []) hy
    rw [Heap.size_push, hC] at q1
    rw [hH4] at q2
    have n3 : H3.get? a = none := by
      cases q : H3.get? a with
      | none => rfl
      | some o => rw [Heap.get?_push_of_some _ q] at q3; cases q3
    refine ⟨a, q1, q2, ?_, ?_, ?_⟩
    · cases q : s2.heap.get? a with
      | none => rfl
      | some o => rw [hk3 a o q] at n3; cases n3
    · rintro rfl; rw [hDin] at n3; cases n3
    · rintro rfl
      obtain ⟨o, ho, hd⟩ := q2
      obtain ⟨o2, es, ep, ho2, hd2, _⟩ := ns4
      rw [ho] at ho2; cases ho2; rw [hd] at hd2; cases hd2
  have asIn2 : ∀ a ∈ as0, ∃ o, s2.heap.get? a = some o := fun a ha => let ⟨o, q, _⟩ := T.asIn a ha; ⟨o, q⟩
  -- the loop
  have loop : codeAny c.M f.A (.compLoop (.ListComp elt [⟨.Name x xp, iter, ifs, 0⟩] scope pos) 0 (.ref I) (.ref D) (chEnv scope C f.env)) (RR (.ref D) C) { s2 with heap := H4 } := by
    refine codeAny_compLoop_tests (fun n s' => ∃ j ys m as, j ≤ xs.length ∧ n = xs.length + 1 - j ∧ Wf c s' ∧ (∀ b o, b ∉ wr → ¬ c.X b → s2.heap.get? b = some o → s'.heap.get? b = some o) ∧ (∀ b o, b ∉ wr → s2.heap.get? b = some o → ∃ o', s'.heap.get? b = some o') ∧ Sx j s'.heap ∧ (∃ m, s'.heap.Ns C m) ∧
        (∀ y, (y, NameKind.cell) ∈ scope.names → ∀ a, (chEnv scope C f.env).cells.lookup y = some a → ∃ v, s'.heap.IsCell a v) ∧ IsL s'.heap D ys m ∧ ReadsAll s'.heap ys.toList (((xs.take j).filter p).map g) as ∧ as.Nodup ∧
        (∀ a ∈ as, s2.heap.get? a = none ∧ a ≠ D ∧ a ≠ C) ∧ (∀ a ∈ as, Pl s'.heap a)) ?_ (xs.length + 1)
      ⟨0, #[], 0, [], Nat.zero_le _, rfl, (Ext.of S2.wf (s' := { s2 with heap := H4 }) hk24).wf, fun b o _ _ q => hk24 b o q, fun b o _ q => ⟨o, hk24 b o q⟩, hW.frame _ _ _ T.start (fun b _ o q => hk24 b o q), ⟨_, ns4⟩,
        fun y hy a q => by obtain ⟨a', q1, q2, _⟩ := own4 y hy; rw [q] at q1; cases q1; exact ⟨_, q2⟩, hk4 _ _ hDin, .nil, .nil, nofun, nofun⟩
    rintro n s' ⟨j, ys, m, as, hj, rfl, W', hk', th', hSx, hnsC, hcells, hlD, hrD, hnd, hfr, hpl⟩
    have wrF := T.fld j s'.heap hSx
    have notWr : ∀ b o, s'.heap.get? b = some o → (∀ vs, o.data ≠ .fields vs) → b ∉ wr := fun b o q hd hb => by
      obtain ⟨o2, vs, g1, g2⟩ := wrF b hb
      rw [q] at g1; cases g1; exact hd vs g2
    have hDw : D ∉ wr := notWr D _ hlD (by nofun)
    have xs' : Ext c s s' := ⟨⟨fun b o hX q => hk' b o (fun hb => by rw [T.new b hb] at q; cases q) hX (x2.up.kp b o hX q), fun b o q => by
        obtain ⟨o', q'⟩ := x2.up.th b o q
        exact th' b o' (fun hb => by rw [T.new b hb] at q; cases q) q'⟩, W'⟩
    by_cases hlt : j < xs.length
    · refine hW.item j s' _ _ hlt hSx fun v h3 tk hP hSx3 hk3' => ?_
      obtain ⟨el, hel⟩ : ∃ el, xs[j]? = some el := ⟨_, List.getElem?_eq_getElem hlt⟩
      have hd : (xs.map enc)[j]? = some (enc el) := by rw [List.getElem?_map, hel]; rfl
      have hdm := List.mem_of_getElem? hel
      obtain ⟨bs, hbs, r2⟩ := T.val j v (enc el) hP hd
      have W3 : Wf c { s' with heap := h3, toks := tk } := W'.but hk3' wrHB wrX
      have r3 : Reads h3 v (enc el) bs := by
        refine reads_upon r2 (fun a ha o q hpp => ?_) (fun a o q hc hdd => ?_)
        · have hX := not_tab S2.wf q (plainish_cls hpp)
          obtain ⟨o1, g1, g2⟩ := reads_objs r2 a ha
          rw [q] at g1; cases g1
          have hne : ∀ vs, o.data ≠ .fields vs := fun vs h => by rcases g2 with ⟨_, _, _, q⟩ | ⟨_, _, _, q⟩ <;> rw [h] at q <;> cases q
          have hw : a ∉ wr := fun hb => by
            obtain ⟨o2, vs, g3, g4⟩ := T.fld 0 s2.heap T.start a hb
            rw [q] at g3; cases g3; exact hne vs g4
          exact hk3' a o hw (hk' a o hw hX q)
        · have hX := not_tab S2.wf q (by rw [hc]; nofun)
          obtain ⟨vs', n', hdd⟩ := hdd
          have hw : a ∉ wr := fun hb => by
            obtain ⟨o2, vs, g3, g4⟩ := T.fld 0 s2.heap T.start a hb
            rw [q] at g3; cases g3; rw [hdd] at g4; cases g4
          exact hk3' a o hw (hk' a o hw hX q)
      obtain ⟨mC, hmC⟩ := hnsC
      have ns3 : h3.Ns C mC := by
        obtain ⟨o, es, ep, ho, hd', q⟩ := hmC
        exact ⟨o, es, ep, hk3' C o (notWr C o ho (by rw [hd']; nofun)) ho, hd', q⟩
      have cell3 : ∀ {a v}, s'.heap.IsCell a v → h3.IsCell a v := fun ⟨o, ho, hd'⟩ => ⟨o, hk3' _ o (notWr _ o ho (by rw [hd']; nofun)) ho, hd'⟩
      have hlD3 : IsL h3 D ys m := hk3' D _ hDw hlD
      -- the store of the loop's own name
      have hCbs : C ∉ bs := fun q => by obtain ⟨o, ho⟩ := asIn2 C (hbs.subset q); rw [hCs2] at ho; cases ho
      have hDbs : D ∉ bs := fun q => by obtain ⟨o, ho⟩ := asIn2 D (hbs.subset q); rw [hDs2] at ho; cases ho
      -- a state behind the store: one place pc has been changed, C or the cell of x
      have after : ∀ h4 tk4 pc, (pc = C ∨ ((x, NameKind.cell) ∈ scope.names ∧ (chEnv scope C f.env).cells.lookup x = some pc)) → Heap.SameBut pc h3 h4 → (∃ m, h4.Ns C m) → (∀ y, (y, NameKind.cell) ∈ scope.names → ∀ a, (chEnv scope C f.env).cells.lookup y = some a → ∃ v, h4.IsCell a v) →
          Loads (chEnv scope C f.env) h4 x v →
          wpAny c.M f.A (forIn ifs true fun c r => if r = true then do let ok ← isTrue c (chEnv scope C f.env) (eval c (chEnv scope C f.env)); pure (ForInStep.yield ok) else pure (ForInStep.yield r)) (fun ok s₃ =>
            if ok = true then wpAny c.M f.A (eval elt (chEnv scope C f.env)) (fun x s₄ =>
              wpAny c.M f.A (call (.builtin "list.append") [.ref D, x]) (fun _ s₅ => ∃ m, m < xs.length + 1 - j ∧ ∃ j ys m_1 as, j ≤ xs.length ∧ m = xs.length + 1 - j ∧ Wf c s₅ ∧ (∀ b o, b ∉ wr → ¬ c.X b → s2.heap.get? b = some o → s₅.heap.get? b = some o) ∧ (∀ b o, b ∉ wr → s2.heap.get? b = some o → ∃ o', s₅.heap.get? b = some o') ∧ Sx j s₅.heap ∧ (∃ m, s₅.heap.Ns C m) ∧
        (∀ y, (y, NameKind.cell) ∈ scope.names → ∀ a, (chEnv scope C f.env).cells.lookup y = some a → ∃ v, s₅.heap.IsCell a v) ∧ IsL s₅.heap D ys m_1 ∧ ReadsAll s₅.heap ys.toList (((xs.take j).filter p).map g) as ∧ as.Nodup ∧
        (∀ a ∈ as, s2.heap.get? a = none ∧ a ≠ D ∧ a ≠ C) ∧ (∀ a ∈ as, Pl s₅.heap a)) (notedBy c.M f.A (chEnv scope C f.env) fun e s' => RR (.ref D) C (.error e) s') s₄) (notedBy c.M f.A (chEnv scope C f.env) fun e s' => RR (.ref D) C (.error e) s') s₃
            else ∃ m, m < xs.length + 1 - j ∧ ∃ j ys m_1 as, j ≤ xs.length ∧ m = xs.length + 1 - j ∧ Wf c s₃ ∧ (∀ b o, b ∉ wr → ¬ c.X b → s2.heap.get? b = some o → s₃.heap.get? b = some o) ∧ (∀ b o, b ∉ wr → s2.heap.get? b = some o → ∃ o', s₃.heap.get? b = some o') ∧ Sx j s₃.heap ∧ (∃ m, s₃.heap.Ns C m) ∧
        (∀ y, (y, NameKind.cell) ∈ scope.names → ∀ a, (chEnv scope C f.env).cells.lookup y = some a → ∃ v, s₃.heap.IsCell a v) ∧ IsL s₃.heap D ys m_1 ∧ ReadsAll s₃.heap ys.toList (((xs.take j).filter p).map g) as ∧ as.Nodup ∧
        (∀ a ∈ as, s2.heap.get? a = none ∧ a ≠ D ∧ a ≠ C) ∧ (∀ a ∈ as, Pl s₃.heap a)) (notedBy c.M f.A (chEnv scope C f.env) fun e s' => RR (.ref D) C (.error e) s') { s' with heap := h4, toks := tk4 } := by
        intro h4 tk4 pc hpc hsb ns4' cells4 ld4
        have pcObj : ∃ o, h3.get? pc = some o ∧ ((∃ es n, o.data = .dict es n) ∨ ∃ v, o.data = .cell v) := by
          rcases hpc with rfl | ⟨hx, hl⟩
          · obtain ⟨o, es, ep, ho, hd', _⟩ := ns3; exact ⟨o, ho, .inl ⟨es, ep, hd'⟩⟩
          · obtain ⟨v0, q⟩ := hcells x hx pc hl
            obtain ⟨o, ho, hd'⟩ := cell3 q; exact ⟨o, ho, .inr ⟨v0, hd'⟩⟩
        have pcNew : s2.heap.get? pc = none := by
          rcases hpc with rfl | ⟨hx, hl⟩
          · exact hCs2
          · obtain ⟨a, q1, _, q3, _⟩ := own4 x hx; rw [hl] at q1; cases q1; exact q3
        have pcD : pc ≠ D := by
          rcases hpc with rfl | ⟨hx, hl⟩
          · exact hDC.symm
          · obtain ⟨a, q1, _, _, q4, _⟩ := own4 x hx; rw [hl] at q1; cases q1; exact q4
        have pcX : ¬ c.X pc := fun hx => by
          obtain ⟨o, ho, hd'⟩ := pcObj
          obtain ⟨ps, q⟩ := W3.tab pc hx
          rw [show ({ s' with heap := h3, toks := tk } : Shared).heap.get? pc = some o from ho] at q; cases q
          rcases hd' with ⟨_, _, h⟩ | ⟨_, h⟩ <;> cases h
        have pcB : c.hB.get? pc = none := base.none (S.keep.none (x2.up.none pcNew))
        have W4 : Wf c { s' with heap := h4, toks := tk4 } := W3.sameBut hsb pcB pcX
        have k34 : ∀ b o, b ≠ pc → h3.get? b = some o → h4.get? b = some o := fun b o hb q => (hsb.2 b hb).trans q
        have k24 : ∀ b o, b ∉ wr → ¬ c.X b → s2.heap.get? b = some o → h4.get? b = some o := fun b o hb hX q => k34 b o (fun h => by rw [h, pcNew] at q; cases q) (hk3' b o hb (hk' b o hb hX q))
        have th24 : ∀ b o, b ∉ wr → s2.heap.get? b = some o → ∃ o', h4.get? b = some o' := fun b o hb q => by
          obtain ⟨o', q'⟩ := th' b o hb q
          exact ⟨o', k34 b o' (fun h => by rw [h, pcNew] at q; cases q) (hk3' b o' hb q')⟩
        have x4 : Ext c s { s' with heap := h4, toks := tk4 } := ⟨⟨fun b o hX q => k24 b o (fun hb => by rw [T.new b hb] at q; cases q) hX (x2.up.kp b o hX q), fun b o q => by
            obtain ⟨o', q'⟩ := x2.up.th b o q
            exact th24 b o' (fun hb => by rw [T.new b hb] at q; cases q) q'⟩, W4⟩
        have pcbs : pc ∉ bs := fun q => by obtain ⟨o, ho⟩ := asIn2 pc (hbs.subset q); rw [pcNew] at ho; cases ho
        have pcT : ∀ o, h3.get? pc = some o → ¬ (∃ vs n, o.data = .seq vs n) := fun o q ⟨vs, n, hd2⟩ => by
          obtain ⟨o2, ho2, hd3⟩ := pcObj
          rw [q] at ho2; cases ho2
          rcases hd3 with ⟨_, _, h⟩ | ⟨_, h⟩ <;> rw [hd2] at h <;> cases h
        have rd4 : ∀ {v d bs}, pc ∉ bs → Reads h3 v d bs → Reads h4 v d bs := fun hn r =>
          reads_upon r (fun b hb o q _ => k34 b o (fun h => hn (h ▸ hb)) q) (fun b o q _ hdd => k34 b o (fun h => pcT o (h ▸ q) hdd) q)
        have r4 := rd4 pcbs r3
        have hsk := hk.ne
        have okBs : (∀ a ∈ bs, ¬ mo a) ∧ (sk = .lo → ∀ a ∈ bs, f.h₀.get? a = none) := by
          have ko := T.ok
          cases hk with
          | sh => exact ⟨fun a ha => ko.2 a (hbs.subset ha), by nofun⟩
          | lo => exact ⟨fun a ha => (ko.2 a (hbs.subset ha)).1, fun _ a ha => (ko.2 a (hbs.subset ha)).2⟩
          | fr => exact ⟨fun a ha => ((KOk.fr_lo S ko).2 a (hbs.subset ha)).1, fun _ a ha => ((KOk.fr_lo S ko).2 a (hbs.subset ha)).2⟩
          | flat hf _ => rw [reads_flat r2 (hf (enc el) (List.mem_map_of_mem hdm))]; exact ⟨nofun, fun _ => nofun⟩
        have CS := child_St (sk := sk) CO S x4 hCs ns4' cells4 ld4 r4 hsk okBs.1 okBs.2 hCbs
        have hSx4 : Sx (j + 1) h4 := hW.frame _ _ _ hSx3 fun b hb o q => k34 b o (fun h => by obtain ⟨o', q'⟩ := T.inH b hb; rw [h, pcNew] at q'; cases q') q
        have hlD4 : IsL h4 D ys m := k34 D _ (Ne.symm pcD) hlD3
        have wrF3 := T.fld (j + 1) h3 hSx3
        have rD4 : ReadsAll h4 ys.toList (((xs.take j).filter p).map g) as := by
          have hrD3 : ReadsAll h3 ys.toList (((xs.take j).filter p).map g) as := readsAll_upon hrD (fun a ha o q hpl' => hk3' a o (notWr a o q (by
              obtain ⟨o1, g1, g2⟩ := readsAll_objs hrD a ha
              rw [q] at g1; cases g1
              rcases g2 with ⟨_, _, _, h⟩ | ⟨_, _, _, h⟩ <;> rw [h] <;> nofun)) q) (fun a o q _ hdd => hk3' a o (notWr a o q (by obtain ⟨_, _, h⟩ := hdd; rw [h]; nofun)) q)
          refine readsAll_upon hrD3 (fun a ha o q _ => k34 a o (fun h => ?_) q) (fun b o q _ hdd => k34 b o (fun h => pcT o (h ▸ q) hdd) q)
          subst h
          obtain ⟨o1, g1, g2⟩ := readsAll_objs hrD3 a ha
          obtain ⟨o2, ho2, hd3⟩ := pcObj
          rw [g1] at ho2; cases ho2
          rcases hpc with rfl | ⟨hx, hl⟩
          · exact (hfr _ ha).2.2 rfl
          · obtain ⟨v0, q0⟩ := hcells x hx a hl
            obtain ⟨o3, g3, g4⟩ := cell3 q0
            rw [g1] at g3; cases g3
            rcases g2 with ⟨_, _, _, h⟩ | ⟨_, _, _, h⟩ <;> rw [g4] at h <;> cases h
        have pl4 : ∀ a ∈ as, Pl h4 a := fun a ha => by
          obtain ⟨o, q, ql, qd⟩ := hpl a ha
          have hne : ∀ vs, o.data ≠ .fields vs := fun vs h => by rcases ql with ⟨_, _, _, q⟩ | ⟨_, _, _, q⟩ <;> rw [h] at q <;> cases q
          have q3 := hk3' a o (notWr a o q hne) q
          refine ⟨o, k34 a o (fun h => ?_) q3, ql, qd⟩
          subst h
          rcases hpc with rfl | ⟨hx, hl⟩
          · exact (hfr _ ha).2.2 rfl
          · obtain ⟨v0, q0⟩ := hcells x hx a hl
            obtain ⟨o3, g3, g4⟩ := cell3 q0
            rw [q3] at g3; cases g3
            rcases ql with ⟨_, _, _, h⟩ | ⟨_, _, _, h⟩ <;> rw [g4] at h <;> cases h
        have tk1 : xs.take (j + 1) = xs.take j ++ [el] := by rw [List.take_add_one, hel]; rfl
        refine wpAny_mono (ht C el hdm _ _ _ _ _ CS) (fun ok s5 ⟨e5, x5⟩ => ?_) fun _ _ z => z
        subst e5
        have inv5 : ∀ s6 : Shared, Ext c { s' with heap := h4, toks := tk4 } s6 → (∀ b o, b ∉ wr → ¬ c.X b → s2.heap.get? b = some o → s6.heap.get? b = some o) ∧ (∀ b o, b ∉ wr → s2.heap.get? b = some o → ∃ o', s6.heap.get? b = some o') ∧ Sx (j + 1) s6.heap ∧ (∃ m, s6.heap.Ns C m) ∧
            (∀ y, (y, NameKind.cell) ∈ scope.names → ∀ a, (chEnv scope C f.env).cells.lookup y = some a → ∃ v, s6.heap.IsCell a v) ∧ IsL s6.heap D ys m ∧ ReadsAll s6.heap ys.toList (((xs.take j).filter p).map g) as ∧ (∀ a ∈ as, Pl s6.heap a) := fun s6 x6 =>
          ⟨fun b o hb hX q => x6.up.kp b o hX (k24 b o hb hX q), fun b o hb q => let ⟨o', q'⟩ := th24 b o hb q; x6.up.th b o' q', hW.frame _ _ _ hSx4 fun b hb o q => x6.up.kp b o (T.nX b hb) q, let ⟨m, n⟩ := ns4'; ⟨m, Ns.ext W4 x6 n⟩, fun y hy a q => let ⟨v, n⟩ := cells4 y hy a q; ⟨v, IsCell.ext W4 x6 n⟩, listOrDict_ext W4 x6 hlD4 (.inl ⟨rfl, _, _, rfl⟩), x6.readsAll W4 rD4, fun a ha => (pl4 a ha).ext W4 x6⟩
        cases hpd : p el with
        | false =>
          rw [if_neg (by simp)]
          obtain ⟨i1, i2, i3, i4, i5, i6, i7, i8⟩ := inv5 s5 x5
          refine ⟨xs.length + 1 - (j + 1), by omega, j + 1, ys, m, as, by omega, rfl, x5.wf, i1, i2, i3, i4, i5, i6, ?_, hnd, hfr, i8⟩
          rw [tk1, List.filter_append, List.filter_cons_of_neg (by simp [hpd])]
          simpa using i7
        | true =>
          rw [if_pos rfl]
          have CS5 := CS.ext x5
          refine (he C el hdm hpd).bind CS5 fun w s6 cs x6 _ r6 ko6 => ?_
          have x46 := x5.trans x6
          obtain ⟨i1, i2, i3, i4, i5, i6, i7, i8⟩ := inv5 s6 x46
          have hysz : ys.size ≤ sizeLine := by
            have e1 := readsAll_length i7
            have e2 : ((xs.take j).filter p).length ≤ (xs.take j).length := List.length_filter_le _ _
            have e3 : (xs.take j).length ≤ xs.length := by rw [List.length_take]; omega
            simp at e1
            omega
          refine wpAny_list_append_plain (hsz := hysz) ⟨m, i6⟩ fun h7 hl7 hs7 => ?_
          obtain ⟨m7, hl7⟩ := hl7
          have cs6 : ∀ a ∈ cs, h4.get? a = none := fun a ha => x5.up.none (ko6.2.2.1 a ha)
          have csD : D ∉ cs := fun q => by have := cs6 D q; rw [hlD4] at this; cases this
          have hDas : D ∉ as := fun q => (hfr D q).2.1 rfl
          have nd6 : (as ++ cs).Nodup := List.nodup_append.mpr ⟨hnd, ko6.2.1, fun a ha b hb q => by
            subst q; obtain ⟨o, q, _⟩ := pl4 a ha; rw [cs6 a hb] at q; cases q⟩
          have keep7 : ∀ b o, b ≠ D → s6.heap.get? b = some o → h7.get? b = some o := fun b o hb q => (hs7.2 b hb).trans q
          have wrD : ∀ b ∈ Fp, b ≠ D := fun b hb q => by obtain ⟨o, q'⟩ := T.inH b hb; rw [q, hDs2] at q'; cases q'
          have hX6 : ¬ c.X D := not_tab x46.wf i6 (by nofun)
          refine ⟨xs.length + 1 - (j + 1), by omega, j + 1, ys.push w, m7, as ++ cs, by omega, rfl, ?_, fun b o hb hX q => keep7 b o (fun h => by rw [h, hDs2] at q; cases q) (i1 b o hb hX q),
            fun b o hb q => let ⟨o', q'⟩ := i2 b o hb q; ⟨o', keep7 b o' (fun h => by rw [h, hDs2] at q; cases q) q'⟩, hW.frame _ _ _ i3 fun b hb o q => keep7 b o (wrD b hb) q, ?_, ?_, hl7, ?_, nd6, fun a ha => ?_, fun a ha => ?_⟩
          · exact x46.wf.sameBut (tk := s6.toks) hs7 (base.none (S.keep.none hDs)) hX6
          · obtain ⟨m', n'⟩ := i4; exact ⟨m', n'.sameBut hs7 hDC.symm⟩
          · intro y hy a q
            obtain ⟨v', n'⟩ := i5 y hy a q
            obtain ⟨a', q1, _, _, q4, _⟩ := own4 y hy
            rw [q] at q1; cases q1
            exact ⟨v', n'.sameBut hs7 q4⟩
          · have e1 : (((xs.take (j + 1)).filter p).map g) = ((xs.take j).filter p).map g ++ [g el] := by
              rw [tk1, List.filter_append, List.filter_cons_of_pos hpd, List.map_append]; rfl
            rw [e1, Array.toList_push]
            exact readsAll_snoc (readsAll_but hs7 (isL_notTup i6) hDas i7) (reads_but hs7 (isL_notTup i6) csD r6)
          · rcases List.mem_append.mp ha with q | q
            · exact hfr a q
            · refine ⟨?_, fun h => csD (h ▸ q), fun h => ?_⟩
              · cases e2 : s2.heap.get? a with
                | none => rfl
                | some o =>
                  by_cases hw : a ∈ wr
                  · obtain ⟨o2, vs, g1, _⟩ := T.fld (j + 1) h4 hSx4 a hw
                    have := cs6 a q; rw [g1] at this; cases this
                  · obtain ⟨o', g1⟩ := th24 a o hw e2
                    have := cs6 a q; rw [g1] at this; cases this
              · obtain ⟨m', o, _, _, ho, _⟩ := ns4'
                have := cs6 a q; rw [h, ho] at this; cases this
          · have q : Pl s6.heap a := (List.mem_append.mp ha).elim (i8 a) (ko6.2.2.2 a)
            obtain ⟨o, q1, q2⟩ := q
            exact ⟨o, keep7 a o (fun h => (List.mem_append.mp ha).elim (fun q => hDas (h ▸ q)) fun q => csD (h ▸ q)) q1, q2⟩
      rcases CO.loopv with hxl | ⟨hxl, hxm⟩
      · have hkl : (chEnv scope C f.env).kindOf x = some .local := lookup_relabel_local hxl
        refine wpAny_assign_Name (wpAny_storeName_local hkl ns3 (fun h4 hn4 hs4 => ?_) (by show ((relabel scope f.env).kind == .class || ((relabel scope f.env).kind == .module && _)) = false; rw [show (relabel scope f.env).kind = .function from CO.kind]; rfl))
        refine after h4 _ C (.inl rfl) hs4 ⟨_, hn4⟩ (fun y hy a q => ?_) (.inl ⟨hkl, _, hn4, by simp⟩)
        obtain ⟨v0, n0⟩ := hcells y hy a q
        obtain ⟨a', q1, _, _, _, q5⟩ := own4 y hy
        rw [q] at q1; cases q1
        exact ⟨v0, (cell3 n0).sameBut hs4 q5⟩
      · have hkl : (chEnv scope C f.env).kindOf x = some .cell := by
          rcases relabel_lookup (env := f.env) hxl with h | ⟨_, h⟩ <;> exact h
        obtain ⟨a, q1, _, _, q4, q5⟩ := own4 x hxm
        obtain ⟨v0, n0⟩ := hcells x hxm a q1
        refine wpAny_assign_Name (wpAny_storeName_cell (show (relabel scope f.env).kind = .function from CO.kind) hkl q1 (cell3 n0) fun h4 hv4 hs4 => ?_)
        refine after h4 _ a (.inr ⟨hxm, q1⟩) hs4 ⟨_, ns3.sameBut hs4 q5.symm⟩ (fun y hy b q => ?_) (.inr ⟨.inl hkl, a, q1, hv4⟩)
        by_cases hb : b = a
        · subst hb; exact ⟨_, hv4⟩
        · obtain ⟨v1, n1⟩ := hcells y hy b q
          exact ⟨v1, (cell3 n1).sameBut hs4 hb⟩
    · have hj' : j = xs.length := by omega
      subst hj'
      refine hW.done s' _ _ hSx fun h3 tk hk3' => ?_
      rw [List.take_length] at hrD
      have W3 : Wf c { s' with heap := h3, toks := tk } := W'.but hk3' wrHB wrX
      have x3 : Ext c s { s' with heap := h3, toks := tk } := ⟨⟨fun b o hX q => hk3' b o (fun hb => by rw [T.new b hb] at q; cases q) (xs'.up.kp b o hX q), fun b o q => by
          obtain ⟨o', q'⟩ := xs'.up.th b o q
          exact ⟨o', hk3' b o' (fun hb => by rw [T.new b hb] at q; cases q) q'⟩⟩, W3⟩
      have nsE : ∃ m, h3.Ns C m := by
        obtain ⟨mC, o, es, ep, ho, hd', q⟩ := hnsC
        exact ⟨mC, o, es, ep, hk3' C o (notWr C o ho (by rw [hd']; nofun)) ho, hd', q⟩
      have hlD3 : IsL h3 D ys m := hk3' D _ hDw hlD
      have hrD3 : ReadsAll h3 ys.toList ((xs.filter p).map g) as := readsAll_upon hrD (fun a ha o q hpl' => hk3' a o (notWr a o q (by
          obtain ⟨o1, g1, g2⟩ := readsAll_objs hrD a ha
          rw [q] at g1; cases g1
          rcases g2 with ⟨_, _, _, h⟩ | ⟨_, _, _, h⟩ <;> rw [h] <;> nofun)) q) (fun a o q _ hdd => hk3' a o (notWr a o q (by obtain ⟨_, _, h⟩ := hdd; rw [h]; nofun)) q)
      refine hRR D C _ as x3 hDs hCs hDC nsE (.list hlD3 rfl rfl hrD3) (List.nodup_cons.mpr ⟨fun q => (hfr D q).2.1 rfl, hnd⟩) (fun a ha => ?_) (fun a ha => ?_) (fun q => (hfr C q).2.2 rfl)
      · rcases List.mem_cons.mp ha with rfl | ha
        · exact hDs
        · exact x2.up.none (hfr a ha).1
      · rcases List.mem_cons.mp ha with rfl | ha
        · exact Pl.of_isL hlD3
        · obtain ⟨o, q, ql, qd⟩ := hpl a ha
          exact ⟨o, hk3' a o (notWr a o q (fun vs h => by rcases ql with ⟨_, _, _, q⟩ | ⟨_, _, _, q⟩ <;> rw [h] at q <;> cases q)) q, ql, qd⟩
  exact codeAny_compStart_list loop (hW.self 0 _ _ _ (hW.frame _ _ _ T.start fun b _ o q => hk24 b o q) loop)

theorem ns_notSeq {h : Heap} {C : Addr} {m : Str → Option Value} (n : h.Ns C m) {o : Obj} (q : h.get? C = some o) : ¬ ∃ vs n, o.data = .seq vs n := by
  obtain ⟨o2, es, ep, ho, hd, _⟩ := n
  rw [q] at ho; cases ho
  rintro ⟨vs, n, h⟩; rw [hd] at h; cases h

theorem ev_comp {elt iter : Expr} {x : Str} {xp : Pos} {ifs : List Expr} {scope : Scope} {pos : Pos} {cp : List Nat} {α : Type} {enc : α → PyData} {xs : List α} {k0 : EK} {sk : K} {p : α → Bool} {g : α → PyData}
    (CO : CompOk c f ρ scope x cp) (h : It c f ρ iter (xs.map enc) k0) (hk : Fills3 k0 (xs.map enc) sk) (hsz : xs.length ≤ sizeLine)
    (ht : ∀ C, ∀ el ∈ xs, Ifs c (chFm f scope C x cp) (chRho ρ cp ⟨sk, enc el⟩) ifs (p el))
    (he : ∀ C, ∀ el ∈ xs, p el = true → Ev c (chFm f scope C x cp) (chRho ρ cp ⟨sk, enc el⟩) elt (g el) .fr)
    (hs : ∀ env x, foldedSetIterable iter env x = pure x := by intro _ _; rfl) :
    Ev c f ρ (.ListComp elt [⟨.Name x xp, iter, ifs, 0⟩] scope pos) (.list ((xs.filter p).map g)) .fr := fun mo val fp s E S => by
  rw [eval_ListComp]
  refine wpAny_comprehension_free (use := none) rfl (hs _) (closureFor_eq CO.free) CO.kind CO.names (comp_core (RR := fun acc C => compPost c.M f.A E none _ acc C) CO h hk hsz ht he S ?_)
  intro D C s' as x1 hD hC hDC hns r nd fr pl hCas
  obtain ⟨m, hm⟩ := hns
  refine ⟨m, hm, fun h' hs' => ?_⟩
  have hCD : C ∉ D :: as := fun q => (List.mem_cons.mp q).elim (fun h => hDC h.symm) hCas
  have hX : ¬ c.X C := fun hx => by
    obtain ⟨ps, q⟩ := x1.wf.tab C hx
    obtain ⟨o, es, ep, ho, hd, _⟩ := hm
    rw [q] at ho; cases ho; cases hd
  refine ⟨⟨⟨fun b o hXb q => (hs'.2 b fun h => by rw [h, hC] at q; cases q).trans (x1.up.kp b o hXb q), fun b o q => by
      obtain ⟨o', q'⟩ := x1.up.th b o q
      exact ⟨o', (hs'.2 b fun h => by rw [h, hC] at q; cases q).trans q'⟩⟩, x1.wf.sameBut hs' (S.ok.base.none (S.keep.none hC)) hX⟩, D :: as, ?_, frOk S nd fr fun a ha => ?_⟩
  · exact reads_upon r (fun b hb o q _ => (hs'.2 b fun h => hCD (h ▸ hb)).trans q) (fun b o q _ hdd => (hs'.2 b fun h => ns_notSeq hm (h ▸ q) hdd).trans q)
  · obtain ⟨o, q, r⟩ := pl a ha
    exact ⟨o, (hs'.2 a fun h => hCD (h ▸ ha)).trans q, r⟩

/-- x = [..]: the store comes ahead of the comprehension's end -/
theorem ex_assign_comp {elt iter : Expr} {x y : Str} {xp yp : Pos} {ifs : List Expr} {scope : Scope} {pos spos : Pos} {cp : List Nat} {α : Type} {enc : α → PyData} {xs : List α} {k0 : EK} {sk : K} {p : α → Bool} {g : α → PyData} {i : Nat} {Q : Fl → Rho → Prop}
    (FS : FmS c f) (hy : f.xs[i]? = some y) (hi : i < ρ.length) (CO : CompOk c f ρ scope x cp) (h : It c f ρ iter (xs.map enc) k0) (hk : Fills3 k0 (xs.map enc) sk) (hsz : xs.length ≤ sizeLine)
    (ht : ∀ C, ∀ el ∈ xs, Ifs c (chFm f scope C x cp) (chRho ρ cp ⟨sk, enc el⟩) ifs (p el))
    (he : ∀ C, ∀ el ∈ xs, p el = true → Ev c (chFm f scope C x cp) (chRho ρ cp ⟨sk, enc el⟩) elt (g el) .fr)
    (hsw : swapsWith (.ListComp elt [⟨.Name x xp, iter, ifs, 0⟩] scope pos) (some (.Name y yp)) spos.line f.env = pure true)
    (hQ : Q .next (ρ.set i (some ⟨.ow, .list ((xs.filter p).map g)⟩)))
    (hs : ∀ env x, foldedSetIterable iter env x = pure x := by intro _ _; rfl) :
    Ex1 c f (.Assign [.Name y yp] (.ListComp elt [⟨.Name x xp, iter, ifs, 0⟩] scope pos) spos) ρ Q := fun mo val fp s S => by
  rw [exec_Assign_Name_used _ _ _ _ hsw]
  refine wpAny_bind (wpAny_standAt (wpAny_bind ?_))
  show wpAny _ f.A (do let _ ← comprehension (.ListComp elt [⟨.Name x xp, iter, ifs, 0⟩] scope pos) scope f.env _ (newList []) false (eval iter f.env) (some (assign (.Name y yp) f.env))) _ _ s
  refine wpAny_bind (wpAny_mono (wpAny_comprehension_free (use := some (assign (.Name y yp) f.env)) (Q := fun _ s' => Post c f mo s Q .next s') rfl (hs _) (closureFor_eq CO.free) CO.kind CO.names
    (comp_core (RR := fun acc C => compPost c.M f.A _ (some (assign (.Name y yp) f.env)) _ acc C) CO h hk hsz ht he S ?_)) (fun _ s' hq => wpAny_pure (wpAny_pure hq)) fun _ _ z => z)
  intro D C s' as x1 hD hC hDC hns r nd fr pl hCas
  obtain ⟨m, hm⟩ := hns
  have S1 := S.ext x1
  have hCD : C ∉ D :: as := fun q => (List.mem_cons.mp q).elim (fun h => hDC h.symm) hCas
  have fpIn : ∀ j sl, ρ[j]? = some (some sl) → ∀ a ∈ fp j, ∃ o, s.heap.get? a = some o := fun j sl e a ha => by
    obtain ⟨_, _, _, r⟩ := S.var j sl e
    obtain ⟨o, ho, _⟩ := reads_objs r a ha; exact ⟨o, ho⟩
  have hCL : C ≠ f.env.locals := fun q => by obtain ⟨_, o, _, _, ho, _⟩ := S.ns; rw [← q, hC] at ho; cases ho
  have hCP : ¬ Pv f C := fun hp => by obtain ⟨o, q, _⟩ := pv_obj S hp; rw [hC] at q; cases q
  have hL : f.env.locals ∉ D :: as := fun q => by obtain ⟨_, o, _, _, ho, _⟩ := S.ns; rw [fr _ q] at ho; cases ho
  have hX : ¬ c.X C := fun hx => by
    obtain ⟨ps, q⟩ := x1.wf.tab C hx
    obtain ⟨o, es, ep, ho, hd, _⟩ := hm
    rw [q] at ho; cases ho; cases hd
  show wpAny c.M f.A (assign (.Name y yp) f.env (.ref D)) _ _ _
  refine wpAny_assign_Name (store_step (sl := ⟨.ow, .list ((xs.filter p).map g)⟩) FS S1 hy hi r hL ?_ fun s2 S2 hk2 th2 => ?_)
  · refine ⟨nd, fun a ha => ⟨fun hm => ?_, S.keep.none (fr a ha)⟩, fun j sl _ e a ha q => ?_, pl⟩
    · obtain ⟨o, q, _⟩ := S.moIn a hm; rw [fr a ha] at q; cases q
    · obtain ⟨o, q'⟩ := fpIn j sl e a ha; rw [fr a q] at q'; cases q'
  · obtain ⟨oC, esC, epC, hoC, hdC, rC⟩ := hm
    have hoC2 := hk2 C oC hCP hoC
    refine ⟨m, ⟨oC, esC, epC, hoC2, hdC, rC⟩, fun h' hs' => ?_⟩
    have nm : (C : Addr) ∉ D :: as := hCD
    have notSeq : ∀ {b o}, s2.heap.get? b = some o → (∃ vs n, o.data = .seq vs n) → b ≠ C := fun {b o} q hd h => by
      rw [h, hoC2] at q; cases q; obtain ⟨_, _, hd⟩ := hd; rw [hdC] at hd; cases hd
    have mo2 : ∀ a, moWith mo .ow (D :: as) a → a ≠ C := fun a ha h => by
      rcases ha with ha | ⟨_, ha⟩
      · obtain ⟨o, q, _⟩ := S.moIn a ha; rw [h, hC] at q; cases q
      · exact hCD (h ▸ ha)
    have fp2 : ∀ j sl, (ρ.set i (some ⟨.ow, .list ((xs.filter p).map g)⟩))[j]? = some (some sl) → C ∉ upd fp i (D :: as) j := fun j sl e => by
      by_cases hj : j = i
      · subst hj; rw [upd_self]; exact hCD
      · rw [upd_ne _ _ _ hj]
        rw [List.getElem?_set, if_neg (fun q => hj q.symm)] at e
        intro q; obtain ⟨o, q'⟩ := fpIn j sl e C q; rw [hC] at q'; cases q'
    have keep' : ∀ b o, b ≠ C → s2.heap.get? b = some o → h'.get? b = some o := fun b o hb q => (hs'.2 b hb).trans q
    have cellNe : ∀ {a v}, s2.heap.IsCell a v → a ≠ C := fun ⟨o, ho, hd⟩ q => by
      rw [q, hoC2] at ho; cases ho; rw [hdC] at hd; cases hd
    refine ⟨.next, _, _, _, _, trivial, (?_ : St c f (ρ.set i (some ⟨.ow, .list ((xs.filter p).map g)⟩)) (moWith mo .ow (D :: as)) (upd val i (.ref D)) (upd fp i (D :: as)) { s2 with heap := h' }), ⟨fun b o h1 h2 h3 q => ?_, fun b o q => ?_, fun b h => ?_⟩, hQ⟩
    · refine ⟨S2.wf.sameBut (tk := s2.toks) hs' (S.ok.base.none (S.keep.none hC)) hX, S2.ok, ⟨fun b o hXb q => ?_, fun b o q => ?_⟩, ?_, fun z a q => ?_, fun j sl e => ?_, S2.own, S2.shr, S2.loc, S2.apart, S2.moNew, fun a ha => ?_, S2.moL, S2.fpL⟩
      · exact keep' b o (fun h => by have := S.keep.none hC; rw [← h, q] at this; cases this) (S2.keep.kp b o hXb q)
      · obtain ⟨o', q'⟩ := S2.keep.th b o q
        exact ⟨o', keep' b o' (fun h => by have := S.keep.none hC; rw [← h, q] at this; cases this) q'⟩
      · obtain ⟨m2, o, es, ep, ho, q⟩ := S2.ns
        exact ⟨m2, o, es, ep, keep' _ o hCL.symm ho, q⟩
      · obtain ⟨v0, n0⟩ := S2.cells z a q
        have hne := cellNe n0
        obtain ⟨o, ho, hd⟩ := n0
        exact ⟨v0, o, keep' a o hne ho, hd⟩
      · obtain ⟨z, g1, g2, g3⟩ := S2.var j sl e
        refine ⟨z, g1, ?_, reads_upon g3 (fun b hb o q _ => keep' b o (fun h => fp2 j sl e (h ▸ hb)) q) (fun b o q _ hdd => keep' b o (notSeq q hdd) q)⟩
        rcases g2 with ⟨k1, m2, ⟨o, es, ep, ho, q⟩, k3⟩ | ⟨k1, a, k2, k3⟩
        · exact .inl ⟨k1, m2, ⟨o, es, ep, keep' _ o hCL.symm ho, q⟩, k3⟩
        · have hne := cellNe k3
          obtain ⟨o, ho, hd⟩ := k3
          exact .inr ⟨k1, a, k2, o, keep' a o hne ho, hd⟩
      · obtain ⟨o, q, r⟩ := S2.moPl a ha
        exact ⟨o, keep' a o (mo2 a ha) q, r⟩
    · exact keep' b o (fun h => by rw [h, hC] at q; cases q) (hk2 b o h2 (x1.up.kp b o h1 q))
    · obtain ⟨o1, q1⟩ := x1.up.th b o q
      obtain ⟨o2, q2⟩ := th2 b o1 q1
      exact ⟨o2, keep' b o2 (fun h => by rw [h, hC] at q; cases q) q2⟩
    · exact h.imp id fun q => fr b q.2
end
end Mine

namespace Mine
open PySem PySem.Spec PySem.Calls PyProof.Rows

def typeNm : PyData → String
  | .none => "NoneType"
  | .bool _ => "bool"
  | .int _ => "int"
  | .str _ => "str"
  | .list _ => "list"
  | .tuple _ => "tuple"
  | .dict kvs => if isFlt kvs = true then "float" else "dict"

section
variable {c : Cx} {f : Fm} {ρ : Rho} {mo : Addr → Prop} {val : Nat → Value} {fp : Nat → List Addr} {s : Shared} {E : Value → Shared → Prop}
  {e l r : Expr} {d : PyData} {k k1 k2 : EK} {pos np np2 p2 : Pos} {a b : Int} {xs ys : List PyData}

theorem typeIs_reads {v : Value} {as : List Addr} (r : Reads s.heap v d as) : s.TypeIs v (typeNm d) := by
  cases r with
  | none => exact typeIs_none s
  | bool b => exact PySem.typeIs_bool s b
  | int i t => exact typeIs_int s i t
  | str x t => exact typeIs_str s x t
  | list h1 h2 => exact ⟨_, h1, h2⟩
  | tuple h1 h2 => exact ⟨_, h1, h2⟩
  | dict h1 h2 => rw [typeNm, isFlt_t]; exact ⟨_, h1, h2⟩
  | dictL h1 h2 => rw [typeNm, isFlt_l]; exact ⟨_, h1, h2⟩
  | flt b t => exact rfl
theorem typeNm_nb : (Value.type (typeNm d) == Value.type "builtin_function_or_method") = false := by
  cases d <;> first | rfl | skip
  rw [typeNm]; split <;> rfl

theorem type_core {op : CmpOp} {tn : Str} {T : String} {K : Value → Shared → Prop} (C : CxOk c) (B : Bi c "type" (.type "type")) (BT : Bi c tn (.type T)) (hx : f.env.kindOf "type" = some .globalImplicit) (ht : f.env.kindOf tn = some .globalImplicit)
    (h : Ev c f ρ e d k) (S : St c f ρ mo val fp s) (he : ∀ env rest, starEach (e :: rest) env = (false, eval e env) :: starEach rest env) (hd : (tn == ("__debug__" : Str)) = false)
    (hK : ∀ s', Ext c s s' → wpAny c.M f.A (compareOp op (.type (typeNm d)) (.type T)) K E s') :
    wpAny c.M f.A (eval (.Call (.Name "type" np) [e] [] p2) f.env) (fun v1 s1 => wpAny c.M f.A (eval (.Name tn np2) f.env) (fun v2 s2 => wpAny c.M f.A (compareOp op v1 v2) K E s2) E s1) E s := by
  refine Call_ (builtin_name C B hx S ?_)
  refine PySem.callWith_type (by rw [he]; rfl) ?_
  rw [he]
  refine evalArgs_plain (spliced_cons (h.bind S fun v s1 as x1 S1 r1 ko => spliced_nil ?_))
  refine call_type_of (typeIs_reads r1) typeNm_nb ?_
  exact builtin_name C BT ht S1 (hK s1 x1) hd

theorem ev_type_is {tn : Str} {T : String} (C : CxOk c) (B : Bi c "type" (.type "type")) (BT : Bi c tn (.type T)) (hx : f.env.kindOf "type" = some .globalImplicit) (ht : f.env.kindOf tn = some .globalImplicit) (h : Ev c f ρ e d k)
    (he : ∀ env rest, starEach (e :: rest) env = (false, eval e env) :: starEach rest env := by intros; rfl) (hd : (tn == ("__debug__" : Str)) = false := by decide +kernel) :
    Ev c f ρ (.Compare (.Call (.Name "type" np) [e] [] p2) [.Is] [.Name tn np2] pos) (.bool (typeNm d == T)) .fr := fun mo val fp s E S => by
  refine wpAny_Compare1 (type_core C B BT hx ht h S he hd fun s' x' => wpAny_is_plain rfl ?_) (by rfl)
  refine ⟨x', [], ?_, frNil⟩
  have : (Value.type (typeNm d) == Value.type T) = (typeNm d == T) := by
    by_cases q : typeNm d = T
    · rw [q]; simp
    · rw [beq_eq_false_iff_ne.mpr q]; exact beq_eq_false_iff_ne.mpr fun h => q (by cases h; rfl)
  rw [this]; exact .bool _
theorem ev_type_isnot {tn : Str} {T : String} (C : CxOk c) (B : Bi c "type" (.type "type")) (BT : Bi c tn (.type T)) (hx : f.env.kindOf "type" = some .globalImplicit) (ht : f.env.kindOf tn = some .globalImplicit) (h : Ev c f ρ e d k)
    (he : ∀ env rest, starEach (e :: rest) env = (false, eval e env) :: starEach rest env := by intros; rfl) (hd : (tn == ("__debug__" : Str)) = false := by decide +kernel) :
    Ev c f ρ (.Compare (.Call (.Name "type" np) [e] [] p2) [.IsNot] [.Name tn np2] pos) (.bool (!(typeNm d == T))) .fr := fun mo val fp s E S => by
  refine wpAny_Compare1 (type_core C B BT hx ht h S he hd fun s' x' => wpAny_isNot_plain rfl ?_) (by rfl)
  refine ⟨x', [], ?_, frNil⟩
  have : (Value.type (typeNm d) == Value.type T) = (typeNm d == T) := by
    by_cases q : typeNm d = T
    · rw [q]; simp
    · rw [beq_eq_false_iff_ne.mpr q]; exact beq_eq_false_iff_ne.mpr fun h => q (by cases h; rfl)
  rw [this]; exact .bool _
theorem tst_type_is {tn : Str} {T : String} (C : CxOk c) (B : Bi c "type" (.type "type")) (BT : Bi c tn (.type T)) (hx : f.env.kindOf "type" = some .globalImplicit) (ht : f.env.kindOf tn = some .globalImplicit) (h : Ev c f ρ e d k)
    (he : ∀ env rest, starEach (e :: rest) env = (false, eval e env) :: starEach rest env := by intros; rfl) (hd : (tn == ("__debug__" : Str)) = false := by decide +kernel) :
    Tst c f ρ (.Compare (.Call (.Name "type" np) [e] [] p2) [.Is] [.Name tn np2] pos) (typeNm d == T) := fun mo val fp s E S => by
  refine wpAny_isTrue_Compare1 (type_core C B BT hx ht h S he hd fun s' x' => wpAny_is_plain rfl (wpAny_truthy_bool ⟨?_, x'⟩)) (by rfl)
  by_cases q : typeNm d = T
  · rw [q]; simp
  · rw [beq_eq_false_iff_ne.mpr q]; exact beq_eq_false_iff_ne.mpr fun h => q (by cases h; rfl)
theorem tst_type_isnot {tn : Str} {T : String} (C : CxOk c) (B : Bi c "type" (.type "type")) (BT : Bi c tn (.type T)) (hx : f.env.kindOf "type" = some .globalImplicit) (ht : f.env.kindOf tn = some .globalImplicit) (h : Ev c f ρ e d k)
    (he : ∀ env rest, starEach (e :: rest) env = (false, eval e env) :: starEach rest env := by intros; rfl) (hd : (tn == ("__debug__" : Str)) = false := by decide +kernel) :
    Tst c f ρ (.Compare (.Call (.Name "type" np) [e] [] p2) [.IsNot] [.Name tn np2] pos) (!(typeNm d == T)) := fun mo val fp s E S => by
  refine wpAny_isTrue_Compare1 (type_core C B BT hx ht h S he hd fun s' x' => wpAny_isNot_plain rfl (wpAny_truthy_bool ⟨?_, x'⟩)) (by rfl)
  by_cases q : typeNm d = T
  · rw [q]; simp
  · rw [beq_eq_false_iff_ne.mpr q]; rw [show (Value.type (typeNm d) == Value.type T) = false from beq_eq_false_iff_ne.mpr fun h => q (by cases h; rfl)]

/-! a loop over a typed list -/
theorem ex_forT {α : Type} {enc : α → PyData} {ls : List α} {Q : Fl → Rho → Prop} {body : List Stmt} {x : Str} {xp : Pos} {iter : Expr} {i : Nat} {sk : K} (FS : FmS c f) (hx : f.xs[i]? = some x) (h : It c f ρ iter (ls.map enc) k) (hk : Fills2 k (ls.map enc) sk)
    (J : Nat → Rho → Prop) (h0 : J 0 ρ)
    (hb : ∀ j el ρ', ls[j]? = some el → J j ρ' → i < ρ'.length ∧ Ex c f body (ρ'.set i (some ⟨sk, enc el⟩)) (loopQ (J (j + 1)) Q))
    (hend : ∀ ρ', J ls.length ρ' → Q .next ρ') (hs : ∀ env x, foldedSetIterable iter env x = pure x := by intro _ _; rfl) : Ex1 c f (.For (.Name x xp) iter body [] pos) ρ Q := by
  refine ex_for FS hx h hk J h0 (fun j d ρ' hd hJ => ?_) (fun ρ' hJ => hend ρ' (by simpa [intsL_length] using hJ)) hs
  rw [List.getElem?_map] at hd
  cases hel : ls[j]? with
  | none => rw [hel] at hd; cases hd
  | some el => rw [hel] at hd; cases hd; exact hb j el ρ' hel hJ
/-- a loop over range(..) -/
theorem ex_forR {Q : Fl → Rho → Prop} {body : List Stmt} {x : Str} {xp : Pos} {iter : Expr} {i n : Nat} {a : Int} (FS : FmS c f) (hx : f.xs[i]? = some x) (h : It c f ρ iter (intsL a n) .fr)
    (J : Nat → Rho → Prop) (h0 : J 0 ρ)
    (hb : ∀ j ρ', j < n → J j ρ' → i < ρ'.length ∧ Ex c f body (ρ'.set i (some ⟨.lo, .int (a + j)⟩)) (loopQ (J (j + 1)) Q))
    (hend : ∀ ρ', J n ρ' → Q .next ρ') (hs : ∀ env x, foldedSetIterable iter env x = pure x := by intro _ _; rfl) : Ex1 c f (.For (.Name x xp) iter body [] pos) ρ Q := by
  refine ex_for (sk := .lo) FS hx h (.flat rfl intsL_flat) J h0 (fun j d ρ' hd hJ => ?_) (fun ρ' hJ => hend ρ' (by simpa [intsL_length] using hJ)) hs
  obtain ⟨h1, rfl⟩ := intsL_get hd
  exact hb j ρ' h1 hJ

/-! list + list -/
theorem add_lists {prog : Program} {w : World} {A : Around} {l b : Addr} {items items2 : Array Value} {Q : Value → Shared → Prop} (hl : s.heap.IsList l items) (hb : s.heap.IsList b items2)
    (h : Q (.ref s.heap.objs.size) { s with heap := s.heap.push { cls := .type "list", data := .seq (items ++ items2) } }) (hsz : items.size + items2.size ≤ sizeLine) : wpAny (model prog w) A (binaryOp .Add (.ref l) (.ref b)) Q E s := by
  have hT := hl.typeIs (s := s)
  have hT2 := hb.typeIs (s := s)
  refine wpAny_binaryOp_concat hT hT2 noFill_list_add seq_list_add (wpAny_call_entry F.slot_list_add hT F.entry_list_add ?_ (F.args_list_add_2 _ _))
  obtain ⟨o, ho, hc, n, hd⟩ := hl
  obtain ⟨o2, ho2, hc2, n2, hd2⟩ := hb
  obtain ⟨cl, di, da, sl⟩ := o
  obtain ⟨cl2, di2, da2, sl2⟩ := o2
  simp only at hc hd hc2 hd2
  subst hc hd hc2 hd2
  obtain ⟨hp, g, d, tk, os⟩ := s
  have f3 := sub_list_list
  wp_walk using wpAny_loadPart' ho, wpAny_loadPart' ho2
  exact ⟨_, rfl, h⟩
end
end Mine
namespace Mine
open PySem PySem.Spec PySem.Calls PyProof.Rows
theorem fn_go {c : Cx} {d : FnD} {args : List PyData} {res : PyData} {u : Bool} {lv : Nat} (ps rest xs : List Str) (C : CxOk c)
    (hbind : ∀ pm cd doc (vals : List Value), vals.length = args.length → bindArgs (docDef d.name d.params d.body d.scope pm cd doc) ⟨vals, []⟩ = pure (ps.zip vals))
    (hlen : ps.length = args.length) (nd : (ps ++ rest).Nodup)
    (hk : ((ps ++ rest).all fun x => d.scope.names.lookup x == some .local || d.scope.names.lookup x == some .cell) = true)
    (h1 : d.scope.isCoroutine = false) (h2 : d.scope.isGenerator = false) (h3 : d.scope.kind = .function) (ρ0 : Rho)
    (h : ∀ f : Fm, f.env.scope = d.scope → f.xs = xs → f.lv = lv → FmS c f → Ex c f d.body ρ0 (RetQ res u)) (hxs : ps ++ rest = xs := by rfl) (hρ : startRho args rest = ρ0 := by rfl) : Fn c (lv + 1) d args res u := by
  subst hxs hρ
  exact fn_enter ps rest C hbind hlen nd hk h1 h2 h3 h
theorem fn_goC {c : Cx} {d : FnD} {args : List PyData} {res : PyData} {u : Bool} {lv : Nat} (ps rest xs : List Str) (C : CxOk c)
    (hbind : ∀ pm cd doc (vals : List Value), vals.length = args.length → bindArgs (docDef d.name d.params d.body d.scope pm cd doc) ⟨vals, []⟩ = pure (ps.zip vals))
    (hlen : ps.length = args.length) (nd : (ps ++ rest).Nodup)
    (hk : ((ps ++ rest).all fun x => d.scope.names.lookup x == some .local || d.scope.names.lookup x == some .cell) = true)
    (h1 : d.scope.isCoroutine = false) (h2 : d.scope.isGenerator = false) (h3 : d.scope.kind = .function) (ρ0 : Rho)
    (h : ∀ f : Fm, f.env.scope = d.scope → f.xs = xs → f.lv = lv → (∃ fa o pm doc, Has c d fa o pm f.env.code doc) → FmS c f → Ex c f d.body ρ0 (RetQ res u)) (hxs : ps ++ rest = xs := by rfl) (hρ : startRho args rest = ρ0 := by rfl) : Fn c (lv + 1) d args res u := by
  subst hxs hρ
  exact fn_enterC ps rest C hbind hlen nd hk h1 h2 h3 h
end Mine

namespace Mine
open PySem PySem.Spec PySem.Calls PyProof.Rows

/-- names that stand in cells -/
def HasCells (f : Fm) (ys : List Str) : Prop := ∀ y ∈ ys, (f.env.kindOf y = some .cell ∨ f.env.kindOf y = some .free) ∧ ∃ a, f.env.cells.lookup y = some a
theorem HasCells.nil {f : Fm} : HasCells f [] := nofun
theorem HasCells.of {c : Cx} {f : Fm} (FS : FmS c f) {ys : List Str} (h : ∀ y ∈ ys, y ∈ f.xs ∧ f.env.kindOf y = some .cell) : HasCells f ys := fun y hy => by
  obtain ⟨h1, h2⟩ := h y hy
  obtain ⟨i, hi, rfl⟩ := List.mem_iff_getElem.mp h1
  rcases FS.kinds i _ (List.getElem?_eq_getElem hi) with q | ⟨q, a, ha⟩
  · rw [h2] at q; cases q
  · exact ⟨.inl q, a, ha⟩
theorem HasCells.ofs {c : Cx} {f : Fm} (FS : FmS c f) {ys : List Str} (sc : Scope) (hsc : f.env.scope = sc) (xs : List Str) (hxs : f.xs = xs) (h : (ys.all fun y => xs.contains y && sc.names.lookup y == some .cell) = true) : HasCells f ys :=
  HasCells.of FS fun y hy => by
    have := List.all_eq_true.mp h y hy
    simp only [Bool.and_eq_true, beq_iff_eq, List.contains_iff_mem] at this
    exact ⟨hxs ▸ this.1, by show f.env.scope.names.lookup y = _; rw [hsc]; exact this.2⟩

def compChk (scope : Scope) (x : Str) (cp : List Nat) (capn cells : List Str) : Bool :=
  scope.kind == .function && (scope.names.all fun y => y.2 != .local || scope.names.lookup y.1 == some .local) &&
  (scope.names.lookup x == some .local || (scope.names.lookup x == some .cell && scope.names.contains (x, NameKind.cell))) &&
  (scope.names.all fun y => y.2 != .free || cells.contains y.1) && decide cp.Nodup &&
  (capn.all fun y => scope.names.lookup y == some .free && scope.names.contains (y, NameKind.free) && !scope.names.contains (y, NameKind.cell) && cells.contains y)

theorem compOk_mk {c : Cx} {f : Fm} {ρ : Rho} {scope : Scope} {x : Str} {cp : List Nat} {capn cells : List Str} (H : HasCells f cells) (hn : cp.map (fun j => f.xs[j]?) = capn.map some) (h : compChk scope x cp capn cells = true) : CompOk c f ρ scope x cp := by
  unfold compChk at h
  simp only [Bool.and_eq_true, decide_eq_true_eq, List.all_eq_true, beq_iff_eq, Bool.or_eq_true, bne_iff_ne, ne_eq, List.contains_iff_mem, Bool.not_eq_true'] at h
  obtain ⟨⟨⟨⟨⟨h1, h2⟩, h3⟩, h4⟩, h5⟩, h6⟩ := h
  refine ⟨h1, fun y hy hl => ?_, ?_, fun y hy hf => ?_, h5, fun j hj => ?_⟩
  · exact (h2 y hy).resolve_left fun q => q hl
  · exact h3.imp id fun q => ⟨q.1, q.2⟩
  · exact (H y.1 ((h4 y hy).resolve_left fun q => q hf)).2
  · have hm : f.xs[j]? ∈ capn.map some := hn ▸ List.mem_map_of_mem hj
    obtain ⟨y, hy, e⟩ := List.mem_map.mp hm
    obtain ⟨⟨⟨q1, q2⟩, q3⟩, q4⟩ := h6 y hy
    refine ⟨y, e.symm, q1, q2, fun q => ?_, (H y q4).1⟩
    have q' := List.contains_iff_mem.mpr q
    rw [q3] at q'; cases q'

def chChk (scope : Scope) (cells names : List Str) : Bool :=
  names.all fun y => (scope.names.contains (y, NameKind.cell) && scope.names.lookup y == some .cell) ||
    (scope.names.contains (y, NameKind.free) && scope.names.lookup y == some .free && !scope.names.contains (y, NameKind.cell) && cells.contains y)
theorem child_cells {f : Fm} {scope : Scope} {C : Addr} {x : Str} {cp : List Nat} {cells names : List Str} (H : HasCells f cells) (h : chChk scope cells names = true) : HasCells (chFm f scope C x cp) names := fun y hy => by
  have := List.all_eq_true.mp h y hy
  simp only [Bool.and_eq_true, beq_iff_eq, Bool.or_eq_true, List.contains_iff_mem, Bool.not_eq_true'] at this
  rcases this with ⟨h1, h2⟩ | ⟨⟨⟨h1, h2⟩, h3⟩, h4⟩
  · refine ⟨.inl ?_, Option.isSome_iff_exists.mp (cellsFrom_has _ _ _ (.inl h2))⟩
    rcases relabel_lookup (env := f.env) h2 with q | ⟨q, _⟩
    · exact q
    · cases q
  · refine ⟨?_, ?_⟩
    · rcases relabel_lookup (env := f.env) h2 with q | ⟨_, q⟩
      · exact .inr q
      · exact .inl q
    · obtain ⟨a, ha⟩ := (H y h4).2
      refine ⟨a, ?_⟩
      show (cellsFrom (C + 1) scope.names (clOf f.env scope.names [])).lookup y = some a
      rw [cellsFrom_not _ _ _ (fun q => by have := List.contains_iff_mem.mpr q; rw [h3] at this; cases this)]
      exact clOf_lookup ha scope.names [] (.inl h1) (fun b q => by simp at q)

section
variable {c : Cx} {f : Fm} {ρ : Rho}
/-- the frame within a comprehension, its names written out -/
abbrev cf (f : Fm) (scope : Scope) (C : Addr) (x : Str) (names : List Str) : Fm := ⟨chEnv scope C f.env, f.A, f.h₀, x :: names, f.lv⟩

/-- a comprehension; capn: the names taken from around, slots: what they hold; cells: the names that stand in cells -/
theorem ev_compX {elt iter : Expr} {x : Str} {xp : Pos} {ifs : List Expr} {scope : Scope} {pos : Pos} {α : Type} {enc : α → PyData} {xs : List α} {k0 : EK} (sk : K) {p : α → Bool} {g : α → PyData}
    {cells : List Str} (H : HasCells f cells) (cp : List Nat) (capn : List Str) (slots : Rho) (cells' : List Str) (h : It c f ρ iter (xs.map enc) k0) (hk : Fills3 k0 (xs.map enc) sk) (hsz : xs.length ≤ sizeLine)
    (ht : ∀ C, HasCells (cf f scope C x capn) cells' → ∀ el ∈ xs, Ifs c (cf f scope C x capn) (some ⟨sk, enc el⟩ :: slots) ifs (p el))
    (he : ∀ C, HasCells (cf f scope C x capn) cells' → ∀ el ∈ xs, p el = true → Ev c (cf f scope C x capn) (some ⟨sk, enc el⟩ :: slots) elt (g el) .fr)
    (hchk : (compChk scope x cp capn cells && chChk scope cells cells') = true := by decide +kernel)
    (hn : cp.map (fun j => f.xs[j]?) = capn.map some := by rfl) (hn2 : cp.map (fun j => f.xs.getD j default) = capn := by rfl) (hsl : cp.map (fun j => (ρ[j]?).join) = slots := by rfl)
    (hs : ∀ env x, foldedSetIterable iter env x = pure x := by intro _ _; rfl) :
    Ev c f ρ (.ListComp elt [⟨.Name x xp, iter, ifs, 0⟩] scope pos) (.list ((xs.filter p).map g)) .fr := by
  obtain ⟨h1, h2⟩ := Bool.and_eq_true_iff.mp hchk
  have CO : CompOk c f ρ scope x cp := compOk_mk H hn h1
  have e1 : ∀ C, chFm f scope C x cp = cf f scope C x capn := fun C => by unfold chFm; rw [hn2]
  have e2 : ∀ d, chRho ρ cp ⟨sk, d⟩ = some ⟨sk, d⟩ :: slots := fun d => by unfold chRho; rw [hsl]
  have HC : ∀ C, HasCells (cf f scope C x capn) cells' := fun C => e1 C ▸ child_cells H h2
  exact ev_comp CO h hk hsz (fun C el hel => by rw [e1, e2]; exact ht C (HC C) el hel) (fun C el hel hp => by rw [e1, e2]; exact he C (HC C) el hel hp) hs

theorem ex_assign_compX {elt iter : Expr} {x y : Str} {xp yp : Pos} {ifs : List Expr} {scope : Scope} {pos spos : Pos} {α : Type} {enc : α → PyData} {xs : List α} {k0 : EK} (sk : K) {p : α → Bool} {g : α → PyData} {i : Nat} {Q : Fl → Rho → Prop}
    {cells : List Str} (FS : FmS c f) (hy : f.xs[i]? = some y) (hi : i < ρ.length) (H : HasCells f cells) (cp : List Nat) (capn : List Str) (slots : Rho) (cells' : List Str) (h : It c f ρ iter (xs.map enc) k0) (hk : Fills3 k0 (xs.map enc) sk) (hsz : xs.length ≤ sizeLine)
    (ht : ∀ C, HasCells (cf f scope C x capn) cells' → ∀ el ∈ xs, Ifs c (cf f scope C x capn) (some ⟨sk, enc el⟩ :: slots) ifs (p el))
    (he : ∀ C, HasCells (cf f scope C x capn) cells' → ∀ el ∈ xs, p el = true → Ev c (cf f scope C x capn) (some ⟨sk, enc el⟩ :: slots) elt (g el) .fr)
    (hQ : Q .next (ρ.set i (some ⟨.ow, .list ((xs.filter p).map g)⟩)))
    (hsw : swapsWith (.ListComp elt [⟨.Name x xp, iter, ifs, 0⟩] scope pos) (some (.Name y yp)) spos.line f.env = pure true := by with_unfolding_all rfl)
    (hchk : (compChk scope x cp capn cells && chChk scope cells cells') = true := by decide +kernel)
    (hn : cp.map (fun j => f.xs[j]?) = capn.map some := by rfl) (hn2 : cp.map (fun j => f.xs.getD j default) = capn := by rfl) (hsl : cp.map (fun j => (ρ[j]?).join) = slots := by rfl)
    (hs : ∀ env x, foldedSetIterable iter env x = pure x := by intro _ _; rfl) :
    Ex1 c f (.Assign [.Name y yp] (.ListComp elt [⟨.Name x xp, iter, ifs, 0⟩] scope pos) spos) ρ Q := by
  obtain ⟨h1, h2⟩ := Bool.and_eq_true_iff.mp hchk
  have CO : CompOk c f ρ scope x cp := compOk_mk H hn h1
  have e1 : ∀ C, chFm f scope C x cp = cf f scope C x capn := fun C => by unfold chFm; rw [hn2]
  have e2 : ∀ d, chRho ρ cp ⟨sk, d⟩ = some ⟨sk, d⟩ :: slots := fun d => by unfold chRho; rw [hsl]
  have HC : ∀ C, HasCells (cf f scope C x capn) cells' := fun C => e1 C ▸ child_cells H h2
  exact ex_assign_comp FS hy hi CO h hk hsz (fun C el hel => by rw [e1, e2]; exact ht C (HC C) el hel) (fun C el hel hp => by rw [e1, e2]; exact he C (HC C) el hel hp) hsw hQ hs

/-- a range as a typed list -/
abbrev encR (a : Int) (i : Nat) : PyData := .int (a + i)
theorem intsL_eq (a : Int) (n : Nat) : intsL a n = (List.range n).map (encR a) := rfl
theorem it_r {e : Expr} {a : Int} {n : Nat} {k : EK} (h : It c f ρ e (intsL a n) k) : It c f ρ e ((List.range n).map (encR a)) k := h
theorem filter_tt {α : Type} (l : List α) : l.filter (fun _ => true) = l := List.filter_eq_self.mpr (fun _ _ => rfl)
theorem encR_flat {a : Int} {n : Nat} : ∀ d ∈ (List.range n).map (encR a), flat d = true := intsL_flat
end
end Mine

namespace Mine
open PySem PySem.Spec PySem.Calls PyProof.Rows

/-! plain data: lists of ints, tables of ints -/
abbrev il (r : List Int) : PyData := .list (r.map .int)
abbrev tb (rows : List (List Int)) : PyData := .list (rows.map il)

theorem canAll {xs : List PyData} (h : ∀ d ∈ xs, d.canLay0 = true) : PyData.canLayAll0 xs = true := by
  induction xs with
  | nil => rfl
  | cons x xs ih => rw [PyData.canLayAll0, h x (List.mem_cons_self ..), ih fun d hd => h d (List.mem_cons_of_mem _ hd)]; rfl
theorem depthAll_le {xs : List PyData} {n : Nat} (h : ∀ d ∈ xs, d.depth ≤ n) : PyData.depthAll xs ≤ n := by
  induction xs with
  | nil => exact Nat.zero_le _
  | cons x xs ih => rw [PyData.depthAll]; exact Nat.max_le.mpr ⟨h x (List.mem_cons_self ..), ih fun d hd => h d (List.mem_cons_of_mem _ hd)⟩
/-- small data: may be laid, at most n deep -/
def Sm (n : Nat) (d : PyData) : Prop := d.canLay0 = true ∧ d.depth ≤ n
theorem Sm.int {n : Nat} {i : Int} : Sm n (.int i) := ⟨rfl, Nat.zero_le _⟩
theorem Sm.bool {n : Nat} {i : Bool} : Sm n (.bool i) := ⟨rfl, Nat.zero_le _⟩
theorem Sm.none {n : Nat} : Sm n .none := ⟨rfl, Nat.zero_le _⟩
theorem Sm.list {n : Nat} {xs : List PyData} (h : ∀ d ∈ xs, Sm n d) : Sm (n + 1) (.list xs) :=
  ⟨by rw [PyData.canLay0]; exact canAll fun d hd => (h d hd).1, by rw [PyData.depth]; exact Nat.succ_le_succ (depthAll_le fun d hd => (h d hd).2)⟩
theorem Sm.tuple {n : Nat} {xs : List PyData} (h : ∀ d ∈ xs, Sm n d) : Sm (n + 1) (.tuple xs) :=
  ⟨by rw [PyData.canLay0]; exact canAll fun d hd => (h d hd).1, by rw [PyData.depth]; exact Nat.succ_le_succ (depthAll_le fun d hd => (h d hd).2)⟩
theorem Sm.map {α : Type} {n : Nat} {xs : List α} {g : α → PyData} (h : ∀ a, Sm n (g a)) : Sm (n + 1) (.list (xs.map g)) :=
  Sm.list fun d hd => by obtain ⟨a, _, rfl⟩ := List.mem_map.mp hd; exact h a
theorem Sm.il {n : Nat} {r : List Int} : Sm (n + 1) (il r) := Sm.map fun _ => Sm.int
theorem Sm.tb {n : Nat} {r : List (List Int)} : Sm (n + 2) (tb r) := Sm.map fun _ => Sm.il
theorem Sm.shaped {n : Nat} {d : PyData} (h : Sm n d) (hn : n ≤ 64 := by decide) : SeqAt.shaped d = true := by
  unfold SeqAt.shaped; rw [h.1, decide_eq_true (Nat.le_trans h.2 hn)]; rfl
theorem Sm.eqv {n : Nat} {d : PyData} (h : Sm n d) : PyData.eqv d d = true := PySem.SeqAt.eqv_refl d h.1

theorem il_get {r : List Int} {i : Nat} (h : i < r.length) : (r.map PyData.int)[i]? = some (.int (r.getD i 0)) := by
  rw [List.getElem?_map, List.getElem?_eq_getElem h, List.getD_eq_getElem?_getD, List.getElem?_eq_getElem h]; rfl
theorem tb_get {r : List (List Int)} {i : Nat} (h : i < r.length) : (r.map il)[i]? = some (il (r.getD i [])) := by
  rw [List.getElem?_map, List.getElem?_eq_getElem h, List.getD_eq_getElem?_getD, List.getElem?_eq_getElem h]; rfl
theorem map_get {α : Type} {g : α → PyData} {r : List α} {i : Nat} {a : α} (h : r[i]? = some a) : (r.map g)[i]? = some (g a) := by
  rw [List.getElem?_map, h]; rfl
theorem mulOkL {a b : Int} (h1 : -1000000 ≤ a) (h2 : a ≤ 1000000) : IntMulOk a b := IntMulOk.of_left (intBits_le_64 (by omega) (by omega))
end Mine

namespace Mine
open PySem PySem.Spec PySem.Calls PyProof.Rows

/-- a name's slot is filled anew -/
inductive Upd : List Str → Rho → Str → Option Slot → Rho → Nat → Prop
  | here {x : Str} {xs : List Str} {o sl : Option Slot} {ρ : Rho} : Upd (x :: xs) (o :: ρ) x sl (sl :: ρ) 0
  | there {x y : Str} {xs : List Str} {o sl : Option Slot} {ρ ρ' : Rho} {i : Nat} : Upd xs ρ x sl ρ' i → Upd (y :: xs) (o :: ρ) x sl (o :: ρ') (i + 1)
theorem Upd.get {xs : List Str} {ρ ρ' : Rho} {x : Str} {sl : Option Slot} {i : Nat} (h : Upd xs ρ x sl ρ' i) : xs[i]? = some x ∧ i < ρ.length ∧ ρ' = ρ.set i sl := by
  induction h with
  | here => exact ⟨rfl, by simp, rfl⟩
  | there _ ih => obtain ⟨h1, h2, h3⟩ := ih; exact ⟨by simpa using h1, by simpa using h2, by rw [h3]; rfl⟩
/-- where a name stands -/
inductive Nm : List Str → Str → Nat → Prop
  | here {x : Str} {xs : List Str} : Nm (x :: xs) x 0
  | there {x y : Str} {xs : List Str} {i : Nat} : Nm xs x i → Nm (y :: xs) x (i + 1)
theorem Nm.get {xs : List Str} {x : Str} {i : Nat} (h : Nm xs x i) : xs[i]? = some x := by
  induction h with
  | here => rfl
  | there _ ih => simpa using ih

section
variable {c : Cx} {f : Fm} {ρ ρ' : Rho} {st : Stmt} {rest body orelse : List Stmt} {Q : Fl → Rho → Prop} {e ei er : Expr} {d d0 : PyData} {k k2 k3 : EK} {pos xp ap cp sp sp2 : Pos} {x y : Str} {i : Nat} {sk : K} {xs : List PyData}

theorem s_asg (FS : FmS c f) (h : Ev c f ρ e d k) (hk : Fills k d sk) (hU : Upd f.xs ρ x (some ⟨sk, d⟩) ρ' i) (hQ : Ex c f rest ρ' Q) (hs : ∀ env, swapsWith e (some (.Name x xp)) pos.line env = pure false := by intro _; rfl) :
    Ex c f (.Assign [.Name x xp] e pos :: rest) ρ Q := by
  obtain ⟨h1, h2, rfl⟩ := hU.get
  exact ex_cons (ex_assign FS h1 h2 h hk hQ hs)
theorem s_if {t : Expr} {q : Bool} (ht : Tst c f ρ t q) (h1 : q = true → Ex c f body ρ (seqQ c f rest Q)) (h2 : q = false → Ex c f orelse ρ (seqQ c f rest Q)) : Ex c f (.If t body orelse pos :: rest) ρ Q := ex_cons (ex_if ht h1 h2)
/-- an if with no else whose branch is not taken -/
theorem s_skip {t : Expr} (ht : Tst c f ρ t false) (h2 : Ex c f rest ρ Q) : Ex c f (.If t body [] pos :: rest) ρ Q := ex_cons (ex_if ht (fun h => by cases h) fun _ => ex_nil h2)
/-- an if with no else -/
theorem s_when {t : Expr} {q : Bool} (ht : Tst c f ρ t q) (h1 : q = true → Ex c f body ρ (seqQ c f rest Q)) (h2 : q = false → Ex c f rest ρ Q) : Ex c f (.If t body [] pos :: rest) ρ Q := ex_cons (ex_if ht h1 fun h => ex_nil (h2 h))
theorem s_end (h : Q .next ρ) : Ex c f [] ρ Q := ex_nil h
theorem s_ret {u : Bool} (h : Ev c f ρ e d k) (hQ : Q (.ret d u) ρ) (hk : (k = .fr) ∨ (k = .lo ∧ u = false) ∨ (flat d = true) ∨ (∃ is : List Nat, k = .us is ∧ is.Nodup ∧ ∀ i ∈ is, ∃ sl : Slot, ρ[i]? = some (some sl) ∧ sl.k = .ow)) : Ex c f (.Return (some e) pos :: rest) ρ Q :=
  ex_cons (ex_return h hk hQ)
theorem s_append (FS : FmS c f) (hat : At f.xs ρ x ⟨.ow, .list xs⟩ i) (h : Ev c f ρ e d k) (hk : k = .fr ∨ flat d = true) (hsz : xs.length ≤ sizeLine) (hU : Upd f.xs ρ x (some ⟨.ow, .list (xs ++ [d])⟩) ρ' i) (hQ : Ex c f rest ρ' Q)
    (hd : (x == ("__debug__" : Str)) = false := by decide +kernel) (hn : (x == ("__classdict__" : Str)) = false := by decide +kernel)
    (hbase : ∀ env, attributeBase (.Name x xp) "append" env (eval (.Name x xp) env) = eval (.Name x xp) env := by intro _; rfl) (hline : (ap.endLine == cp.line) = true := by rfl)
    (htrees : ∀ env, backTo cp (starEach [e] env) = [(false, eval e env)] := by intro _; rfl)
    (hsw : ∀ env, swapsWith (.Call (.Attribute (.Name x xp) "append" ap) [e] [] cp) none pos.line env = pure false := by intro _; rfl) :
    Ex c f (.Expr (.Call (.Attribute (.Name x xp) "append" ap) [e] [] cp) pos :: rest) ρ Q := by
  obtain ⟨h1, h2, rfl⟩ := hU.get
  exact ex_cons (ex_append FS hat h hk hsz hQ hd hn hbase hline htrees (by intros; trivial) hsw)
theorem s_set {j : Int} (FS : FmS c f) (hat : At f.xs ρ x ⟨.ow, .list xs⟩ i) (hv : Ev c f ρ e d k) (hi : Ev c f ρ ei (.int j) k2) (hd : flat d = true) (h0 : 0 ≤ j) (hfit : j < 2 ^ 63) (hx : xs[j.toNat]? = some d0) (hd0 : flat d0 = true)
    (hU : Upd f.xs ρ x (some ⟨.ow, .list (xs.set j.toNat d)⟩) ρ' i) (hQ : Ex c f rest ρ' Q)
    (hdb : (x == ("__debug__" : Str)) = false := by decide +kernel) (hn : (x == ("__classdict__" : Str)) = false := by decide +kernel)
    (hs : ∀ env, swapsWith e (some (.Subscript (.Name x xp) ei sp)) pos.line env = pure false := by intro _; rfl) : Ex c f (.Assign [.Subscript (.Name x xp) ei sp] e pos :: rest) ρ Q := by
  obtain ⟨h1, h2, rfl⟩ := hU.get
  exact ex_cons (ex_setitem FS hat hv hi hd h0 hfit hx hd0 hQ hdb hn hs)
theorem s_set2 {j1 j2 : Int} {rows cells : List PyData} (FS : FmS c f) (hat : At f.xs ρ x ⟨.ow, .list rows⟩ i) (hv : Ev c f ρ e d k) (hi1 : Ev c f ρ er (.int j1) k2) (hi2 : Ev c f ρ ei (.int j2) k3) (hd : flat d = true)
    (h01 : 0 ≤ j1) (hfit1 : j1 < 2 ^ 63) (hrow : rows[j1.toNat]? = some (.list cells)) (hcf : flats cells = true) (h02 : 0 ≤ j2) (hfit2 : j2 < 2 ^ 63) (hlt : j2.toNat < cells.length)
    (hU : Upd f.xs ρ x (some ⟨.ow, .list (rows.set j1.toNat (.list (cells.set j2.toNat d)))⟩) ρ' i) (hQ : Ex c f rest ρ' Q)
    (hdb : (x == ("__debug__" : Str)) = false := by decide +kernel) (hn : (x == ("__classdict__" : Str)) = false := by decide +kernel) (hs2 : ∀ o i, subscripted er false o i = operate [o, i] (getItem o i) := by intros; rfl)
    (hs : ∀ env, swapsWith e (some (.Subscript (.Subscript (.Name x xp) er sp) ei sp2)) pos.line env = pure false := by intro _; rfl) : Ex c f (.Assign [.Subscript (.Subscript (.Name x xp) er sp) ei sp2] e pos :: rest) ρ Q := by
  obtain ⟨h1, h2, rfl⟩ := hU.get
  exact ex_cons (ex_setitem2 (xs := cells) FS hat hv hi1 hi2 hd h01 hfit1 hrow hcf h02 hfit2 rfl hlt hQ hdb hn hs2 hs)
theorem s_append2 {j1 : Int} {rows cells : List PyData} (FS : FmS c f) (hat : At f.xs ρ x ⟨.ow, .list rows⟩ i) (hi1 : Ev c f ρ er (.int j1) k2) (h : Ev c f ρ e d k) (hd : flat d = true)
    (h01 : 0 ≤ j1) (hfit1 : j1 < 2 ^ 63) (hrow : rows[j1.toNat]? = some (.list cells)) (hcf : flats cells = true) (hsz : cells.length ≤ sizeLine)
    (hU : Upd f.xs ρ x (some ⟨.ow, .list (rows.set j1.toNat (.list (cells ++ [d])))⟩) ρ' i) (hQ : Ex c f rest ρ' Q)
    (hdb : (x == ("__debug__" : Str)) = false := by decide +kernel) (hn : (x == ("__classdict__" : Str)) = false := by decide +kernel) (hs2 : ∀ o i, subscripted er false o i = operate [o, i] (getItem o i) := by intros; rfl)
    (hbase : ∀ env, attributeBase (.Subscript (.Name x xp) er sp) "append" env (eval (.Subscript (.Name x xp) er sp) env) = eval (.Subscript (.Name x xp) er sp) env := by intro _; rfl) (hline : (ap.endLine == cp.line) = true := by rfl)
    (htrees : ∀ env, backTo cp (starEach [e] env) = [(false, eval e env)] := by intro _; rfl)
    (hsw : ∀ env, swapsWith (.Call (.Attribute (.Subscript (.Name x xp) er sp) "append" ap) [e] [] cp) none pos.line env = pure false := by intro _; rfl) :
    Ex c f (.Expr (.Call (.Attribute (.Subscript (.Name x xp) er sp) "append" ap) [e] [] cp) pos :: rest) ρ Q := by
  obtain ⟨h1, h2, rfl⟩ := hU.get
  exact ex_cons (ex_append2 FS hat hi1 h hd h01 hfit1 hrow hcf hsz hQ hdb hn hs2 hbase hline htrees hsw)
theorem s_for {iter : Expr} {ds : List PyData} (FS : FmS c f) (hx : Nm f.xs x i) (h : It c f ρ iter ds k) (hk : Fills2 k ds sk)
    (J : Nat → Rho → Prop) (h0 : J 0 ρ)
    (hb : ∀ j d ρ', ds[j]? = some d → J j ρ' → ∃ ρ1, Upd f.xs ρ' x (some ⟨sk, d⟩) ρ1 i ∧ Ex c f body ρ1 (loopQ (J (j + 1)) (seqQ c f rest Q)))
    (hend : ∀ ρ', J ds.length ρ' → Ex c f rest ρ' Q) (hs : ∀ env x, foldedSetIterable iter env x = pure x := by intro _ _; rfl) : Ex c f (.For (.Name x xp) iter body [] pos :: rest) ρ Q :=
  ex_cons (ex_for FS hx.get h hk J h0 (fun j d ρ' hd hJ => by obtain ⟨ρ1, hU, h⟩ := hb j d ρ' hd hJ; obtain ⟨h1, h2, rfl⟩ := hU.get; exact ⟨h2, h⟩) hend hs)
theorem s_forT {α : Type} {enc : α → PyData} {ls : List α} {iter : Expr} (FS : FmS c f) (hx : Nm f.xs x i) (h : It c f ρ iter (ls.map enc) k) (hk : Fills2 k (ls.map enc) sk)
    (J : Nat → Rho → Prop) (h0 : J 0 ρ)
    (hb : ∀ j el ρ', ls[j]? = some el → J j ρ' → ∃ ρ1, Upd f.xs ρ' x (some ⟨sk, enc el⟩) ρ1 i ∧ Ex c f body ρ1 (loopQ (J (j + 1)) (seqQ c f rest Q)))
    (hend : ∀ ρ', J ls.length ρ' → Ex c f rest ρ' Q) (hs : ∀ env x, foldedSetIterable iter env x = pure x := by intro _ _; rfl) : Ex c f (.For (.Name x xp) iter body [] pos :: rest) ρ Q :=
  ex_cons (ex_forT FS hx.get h hk J h0 (fun j d ρ' hd hJ => by obtain ⟨ρ1, hU, h⟩ := hb j d ρ' hd hJ; obtain ⟨h1, h2, rfl⟩ := hU.get; exact ⟨h2, h⟩) hend hs)
theorem s_forR {iter : Expr} {n : Nat} {a : Int} (FS : FmS c f) (hx : Nm f.xs x i) (h : It c f ρ iter (intsL a n) .fr)
    (J : Nat → Rho → Prop) (h0 : J 0 ρ)
    (hb : ∀ j ρ', j < n → J j ρ' → ∃ ρ1, Upd f.xs ρ' x (some ⟨.lo, .int (a + j)⟩) ρ1 i ∧ Ex c f body ρ1 (loopQ (J (j + 1)) (seqQ c f rest Q)))
    (hend : ∀ ρ', J n ρ' → Ex c f rest ρ' Q) (hs : ∀ env x, foldedSetIterable iter env x = pure x := by intro _ _; rfl) : Ex c f (.For (.Name x xp) iter body [] pos :: rest) ρ Q :=
  ex_cons (ex_forR FS hx.get h J h0 (fun j ρ' hd hJ => by obtain ⟨ρ1, hU, h⟩ := hb j ρ' hd hJ; obtain ⟨h1, h2, rfl⟩ := hU.get; exact ⟨h2, h⟩) hend hs)
theorem s_while {t : Expr} (J : Nat → Rho → Prop) {n : Nat} (h0 : J n ρ)
    (hb : ∀ n ρ', J n ρ' → ∃ q, Tst c f ρ' t q ∧ (q = true → Ex c f body ρ' (loopQ (fun ρ'' => ∃ m, m < n ∧ J m ρ'') (seqQ c f rest Q))) ∧ (q = false → Ex c f rest ρ' Q)) : Ex c f (.While t body [] pos :: rest) ρ Q :=
  ex_cons (ex_while J h0 hb)
theorem s_comp {elt iter : Expr} {yp : Pos} {ifs : List Expr} {scope : Scope} {spos : Pos} {α : Type} {enc : α → PyData} {ls : List α} {k0 : EK} (sk : K) {p : α → Bool} {g : α → PyData}
    {cells : List Str} (FS : FmS c f) (H : HasCells f cells) (cp : List Nat) (capn : List Str) (slots : Rho) (cells' : List Str) (h : It c f ρ iter (ls.map enc) k0) (hk : Fills3 k0 (ls.map enc) sk) (hsz : ls.length ≤ sizeLine)
    (ht : ∀ C, HasCells (cf f scope C x capn) cells' → ∀ el ∈ ls, Ifs c (cf f scope C x capn) (some ⟨sk, enc el⟩ :: slots) ifs (p el))
    (he : ∀ C, HasCells (cf f scope C x capn) cells' → ∀ el ∈ ls, p el = true → Ev c (cf f scope C x capn) (some ⟨sk, enc el⟩ :: slots) elt (g el) .fr)
    (hU : Upd f.xs ρ y (some ⟨.ow, .list ((ls.filter p).map g)⟩) ρ' i) (hQ : Ex c f rest ρ' Q)
    (hsw : swapsWith (.ListComp elt [⟨.Name x xp, iter, ifs, 0⟩] scope pos) (some (.Name y yp)) spos.line f.env = pure true := by with_unfolding_all rfl)
    (hchk : (compChk scope x cp capn cells && chChk scope cells cells') = true := by decide +kernel)
    (hn : cp.map (fun j => f.xs[j]?) = capn.map some := by rfl) (hn2 : cp.map (fun j => f.xs.getD j default) = capn := by rfl) (hsl : cp.map (fun j => (ρ[j]?).join) = slots := by rfl)
    (hs : ∀ env x, foldedSetIterable iter env x = pure x := by intro _ _; rfl) :
    Ex c f (.Assign [.Name y yp] (.ListComp elt [⟨.Name x xp, iter, ifs, 0⟩] scope pos) spos :: rest) ρ Q := by
  obtain ⟨h1, h2, rfl⟩ := hU.get
  exact ex_cons (ex_assign_compX sk FS h1 h2 H cp capn slots cells' h hk hsz ht he hQ hsw hchk hn hn2 hsl hs)
end
end Mine

namespace Mine
open PySem PySem.Spec PySem.Calls PyProof.Rows

theorem ra_drop {h : Heap} {vs : List Value} {ds : List PyData} {as : List Addr} (r : ReadsAll h vs ds as) (hf : flats ds = true) : ∀ n, ReadsAll h (vs.drop n) (ds.drop n) []
  | 0 => by have := readsAll_flat r hf; subst this; exact r
  | n + 1 => by
    cases r with
    | nil => exact .nil
    | cons r1 r2 => exact ra_drop r2 (Bool.and_eq_true_iff.mp hf).2 n
theorem ra_take {h : Heap} {vs : List Value} {ds : List PyData} {as : List Addr} (r : ReadsAll h vs ds as) (hf : flats ds = true) : ∀ n, ReadsAll h (vs.take n) (ds.take n) []
  | 0 => .nil
  | n + 1 => by
    cases r with
    | nil => exact .nil
    | cons r1 r2 =>
      have h1 := reads_flat r1 (Bool.and_eq_true_iff.mp hf).1
      subst h1
      exact .cons r1 (ra_take r2 (Bool.and_eq_true_iff.mp hf).2 n)
theorem flats_drop {ds : List PyData} (hf : flats ds = true) : ∀ n, flats (ds.drop n) = true
  | 0 => hf
  | n + 1 => by cases ds with | nil => rfl | cons d ds => exact flats_drop (Bool.and_eq_true_iff.mp hf).2 n
theorem ra_app {h : Heap} {vs ws : List Value} {ds es : List PyData} {as bs : List Addr} (r : ReadsAll h vs ds as) (r' : ReadsAll h ws es bs) : ReadsAll h (vs ++ ws) (ds ++ es) (as ++ bs) := by
  induction r using ReadsAll.rec (motive_1 := fun _ _ _ _ => True) with
  | nil => exact r'
  | cons r1 r2 _ ih => rw [List.append_assoc]; exact .cons r1 ih
  | _ => trivial

/-- what a plain slice picks -/
def pick {α : Type} (xs : List α) (lo hi : Option Int) : List α := (xs.drop (lo.elim 0 (clipAt xs.length))).take (hi.elim xs.length (clipAt xs.length) - lo.elim 0 (clipAt xs.length))
theorem pick_upto {α : Type} (xs : List α) (b : Nat) : pick xs none (some (b : Int)) = xs.take b := by
  unfold pick; simp only [Option.elim, clipAt_nat, List.drop_zero, Nat.sub_zero]
  rcases Nat.le_total b xs.length with h | h
  · rw [Nat.min_eq_left h]
  · rw [Nat.min_eq_right h, List.take_of_length_le (by simp), List.take_of_length_le h]
theorem pick_from {α : Type} (xs : List α) (a : Nat) : pick xs (some (a : Int)) none = xs.drop a := by
  unfold pick; simp only [Option.elim, clipAt_nat]
  rcases Nat.le_total a xs.length with h | h
  · rw [Nat.min_eq_left h, List.take_of_length_le (by simp)]
  · rw [Nat.min_eq_right h, List.drop_of_length_le (by simp), List.drop_of_length_le h]; simp
theorem pick_run {α : Type} (xs : List α) (a b : Nat) : pick xs (some (a : Int)) (some (b : Int)) = (xs.drop a).take (b - a) := by
  unfold pick; simp only [Option.elim, clipAt_nat]
  rcases Nat.le_total a xs.length with h | h
  · rw [Nat.min_eq_left h]
    rcases Nat.le_total b xs.length with h' | h'
    · rw [Nat.min_eq_left h']
    · rw [Nat.min_eq_right h', List.take_of_length_le (by simp), List.take_of_length_le (by simp; omega)]
  · rw [Nat.min_eq_right h, List.drop_of_length_le (by simp), List.drop_of_length_le h]; simp
theorem pick_map {α β : Type} (g : α → β) (xs : List α) (lo hi : Option Int) : pick (xs.map g) lo hi = (pick xs lo hi).map g := by
  unfold pick; rw [List.map_take, List.map_drop, List.length_map]

section
variable {c : Cx} {f : Fm} {ρ : Rho} {mo : Addr → Prop} {val : Nat → Value} {fp : Nat → List Addr} {s : Shared} {E : Value → Shared → Prop}
  {e l r : Expr} {d d1 d2 d3 : PyData} {k k1 k2 k3 : EK} {pos sp : Pos} {a b : Int} {xs ys : List PyData}

/-- list + list, both flat -/
theorem ev_addL (h1 : Ev c f ρ l (.list xs) k1) (h2 : Ev c f ρ r (.list ys) k2) (f1 : flats xs = true) (f2 : flats ys = true) (hsz : xs.length + ys.length ≤ sizeLine) : Ev c f ρ (.BinOp l .Add r pos) (.list (xs ++ ys)) .fr :=
  ev_bin h1 h2 fun s v1 v2 as1 as2 E W _ r1 r2 => by
    cases r1 with | list g1 g2 g3 g4 =>
    cases r2 with | list g1' g2' g3' g4' =>
    rename_i a o vs m bs a' o' vs' m' bs'
    have hl : vs.size = xs.length := by simpa using readsAll_length g4
    have hl' : vs'.size = ys.length := by simpa using readsAll_length g4'
    have e1 := readsAll_flat g4 f1
    have e2 := readsAll_flat g4' f2
    subst e1 e2
    refine add_lists ⟨_, g1, g2, _, g3⟩ ⟨_, g1', g2', _, g3'⟩ ?_ (by omega)
    have x1 : Ext c s { s with heap := s.heap.push { cls := .type "list", data := .seq (vs ++ vs') } } := Ext.push W _ _
    refine ⟨x1, [s.heap.objs.size], .list (Heap.get?_push_size _ rfl) rfl rfl ?_, by simp, fun b hb => ?_, fun b hb => ?_⟩
    · rw [Array.toList_append]; exact x1.readsAll W (ra_app g4 g4')
    · rw [List.mem_singleton.mp hb]; exact get_size_none _
    · rw [List.mem_singleton.mp hb]; exact ⟨_, Heap.get?_push_size _ rfl, .inl ⟨rfl, _, _, rfl⟩, rfl, rfl⟩

/-- a bound of a slice -/
inductive Part (c : Cx) (f : Fm) (ρ : Rho) : Option Expr → Option Int → Prop
  | none : Part c f ρ none none
  | some {e : Expr} {i : Int} {k : EK} : Ev c f ρ e (.int i) k → Part c f ρ (some e) (some i)
theorem Part.bind {o : Option Expr} {i : Option Int} {Q : Value → Shared → Prop} (h : Part c f ρ o i) (S : St c f ρ mo val fp s) (hn : ∀ v s', Ext c s s' → St c f ρ mo val fp s' → IsPart v i → Q v s') :
    wpAny c.M f.A (evalPart o f.env) Q E s := by
  cases h with
  | none => exact wpAny_evalPart_none (hn _ s (Ext.refl S.wf) S .none)
  | some h => exact wpAny_evalPart_some (h.bind S fun v s' as x S' r _ => by cases r; exact hn _ s' x S' (.int _ _))

theorem ev_slice {lo up : Option Expr} {li ui : Option Int} (h : Ev c f ρ l (.list xs) k) (hl : Part c f ρ lo li) (hu : Part c f ρ up ui) (hf : flats xs = true) (hsz : xs.length ≤ sizeLine) (hp : pick xs li ui = ys) : Ev c f ρ (.Subscript l (.Slice lo up none sp) pos) (.list ys) .fr := by
  intro mo val fp s E S
  refine Subscript_ (h.bind S fun v s1 as x1 S1 r1 _ => wpAny_Slice (hl.bind S1 fun vl s2 x2 S2 p1 => hu.bind S2 fun vu s3 x3 S3 p2 => wpAny_evalPart_none ?_))
  have r3 := (x2.trans x3).reads S1.wf r1
  cases r3 with | list g1 g2 g3 g4 =>
  rename_i a o vs m bs _
  have hl : vs.size = xs.length := by simpa using readsAll_length g4
  have hL : s3.heap.IsList a vs := ⟨_, g1, g2, _, g3⟩
  refine tail_any (T := "list") (ops := [_, _]) (hL.push _).typeIs list_getitem_lookup (wpAny_getItem_list_slice (hL.push _) (Heap.IsSliceOf.new ..) p1 p2 .none (by simp) ?_ (by omega)) rfl
  rw [Heap.size_push]
  have y1 : Ext c s3 { s3 with heap := s3.heap.push { cls := .type "slice", data := .fields #[vl, vu, .none] } } := Ext.push S3.wf _ _
  have y2 := y1.trans (Ext.push (y1.wf) { cls := .type "list", data := .seq (slicePick vs li ui none) } s3.toks)
  refine ⟨((x1.trans x2).trans x3).trans y2, [s3.heap.objs.size + 1], ?_, frOk S (by simp) (fun b hb => ?_) fun b hb => ?_⟩
  · have : s3.heap.objs.size + 1 = (s3.heap.push { cls := .type "slice", data := .fields #[vl, vu, .none] }).objs.size := (Heap.size_push ..).symm
    rw [this]
    refine .list (Heap.get?_push_size _ rfl) rfl rfl ?_
    refine y2.readsAll S3.wf ?_
    rw [slicePick_plain, List.toList_toArray, ← hp, pick, hl]
    exact ra_take (ra_drop g4 hf _) (flats_drop hf _) _
  · rw [List.mem_singleton.mp hb]; exact ((x1.trans x2).trans x3).up.none (y1.up.none (by rw [← Heap.size_push]; exact get_size_none _))
  · rw [List.mem_singleton.mp hb]; exact ⟨_, by rw [← Heap.size_push]; exact Heap.get?_push_size _ rfl, .inl ⟨rfl, _, _, rfl⟩, rfl, rfl⟩

/-- a chain of two compares as a test -/
theorem tst_chain {o1 o2 : CmpOp} {m : Expr} {p q : Bool} (h1 : Ev c f ρ l d1 k1) (h2 : Ev c f ρ m d2 k2) (hc1 : Cmp c f.lv o1 d1 d2 p) (h3 : p = true → Ev c f ρ r d3 k3) (hc2 : p = true → Cmp c f.lv o2 d2 d3 q)
    (hm : lastMarks [o1, o2] [m, r] = false := by with_unfolding_all rfl) : Tst c f ρ (.Compare l [o1, o2] [m, r] pos) (p && q) := by
  intro mo val fp s E S
  refine isTrue_chain (h1.bind S fun v1 s1 as1 x1 S1 r1 _ => test_link (h2.bind S1 fun v2 s2 as2 x2 S2 r2 _ => ?_)) hm
  refine hc1 _ _ _ _ _ _ _ _ S2.wf S.ok.room (x2.reads S1.wf r1) r2 (wpAny_truthy_bool ?_)
  cases p with
  | false => exact ⟨rfl, x1.trans x2⟩
  | true =>
    refine test_last ((h3 rfl).bind S2 fun v3 s3 as3 x3 S3 r3 _ => ?_)
    exact hc2 rfl _ _ _ _ _ _ _ _ S3.wf S.ok.room (x3.reads S2.wf r2) r3 (wpAny_truthy_bool ⟨rfl, (x1.trans x2).trans x3⟩)

/-! edges: tuples of three ints -/
abbrev encI (e : Int × Int × Int) : PyData := .tuple [.int e.1, .int e.2.1, .int e.2.2]
abbrev encE (e : Nat × Nat × Int) : PyData := .tuple [.int e.1, .int e.2.1, .int e.2.2]
theorem flats_of {xs : List PyData} (h : ∀ d ∈ xs, flat d = true) : flats xs = true := by
  induction xs with
  | nil => rfl
  | cons x xs ih => exact Bool.and_eq_true_iff.mpr ⟨h x (List.mem_cons_self ..), ih fun d hd => h d (List.mem_cons_of_mem _ hd)⟩
theorem flats_map {α : Type} {g : α → PyData} (h : ∀ a, flat (g a) = true) (ls : List α) : flats (ls.map g) = true := flats_of fun d hd => by obtain ⟨a, _, rfl⟩ := List.mem_map.mp hd; exact h a
theorem flat_map {α : Type} {g : α → PyData} (h : ∀ a, flat (g a) = true) (ls : List α) : ∀ d ∈ ls.map g, flat d = true := fun d hd => by obtain ⟨a, _, rfl⟩ := List.mem_map.mp hd; exact h a
theorem Sm.edges {n : Nat} {es : List (Nat × Nat × Int)} : Sm (n + 2) (.list (es.map encE)) := Sm.map fun e => Sm.tuple fun d hd => by simp at hd; rcases hd with rfl | rfl | rfl <;> exact Sm.int
theorem Sm.edgesI {n : Nat} {es : List (Int × Int × Int)} : Sm (n + 2) (.list (es.map encI)) := Sm.map fun e => Sm.tuple fun d hd => by simp at hd; rcases hd with rfl | rfl | rfl <;> exact Sm.int
theorem ev_t0 {ds : List PyData} (h : Ev c f ρ l (.tuple (d :: ds)) k1) (h2 : Ev c f ρ r (.int 0) k2) (hd : flat d = true) (hs : ∀ o i, subscripted r false o i = operate [o, i] (getItem o i) := by intros; rfl) : Ev c f ρ (.Subscript l r pos) d .fr :=
  Ev.ofFlat (ev_tupitem h h2 (by decide) (by decide) rfl hs) hd
theorem ev_t1 {ds : List PyData} (h : Ev c f ρ l (.tuple (d1 :: d :: ds)) k1) (h2 : Ev c f ρ r (.int 1) k2) (hd : flat d = true) (hs : ∀ o i, subscripted r false o i = operate [o, i] (getItem o i) := by intros; rfl) : Ev c f ρ (.Subscript l r pos) d .fr :=
  Ev.ofFlat (ev_tupitem h h2 (by decide) (by decide) rfl hs) hd
theorem ev_t2 {ds : List PyData} (h : Ev c f ρ l (.tuple (d1 :: d2 :: d :: ds)) k1) (h2 : Ev c f ρ r (.int 2) k2) (hd : flat d = true) (hs : ∀ o i, subscripted r false o i = operate [o, i] (getItem o i) := by intros; rfl) : Ev c f ρ (.Subscript l r pos) d .fr :=
  Ev.ofFlat (ev_tupitem h h2 (by decide) (by decide) rfl hs) hd
/-- an item of a list, the item given with its index as a Nat -/
theorem ev_at {i : Nat} (h1 : Ev c f ρ l (.list xs) k1) (h2 : Ev c f ρ r (.int i) k2) (hx : xs[i]? = some d) (hl : xs.length ≤ sizeLine) 
    (hs : ∀ o i, subscripted r false o i = operate [o, i] (getItem o i) := by intros; rfl) : Ev c f ρ (.Subscript l r pos) d k1.sub :=
  ev_item h1 h2 (by omega) (by have : i < xs.length := (List.getElem?_eq_some_iff.mp hx).1; have : sizeLine < 2 ^ 62 := by decide +kernel
                               omega) hx hs
end

/-! square tables, written by a function -/
def mkT (n : Nat) (g : Nat → Nat → PyData) : List PyData := (List.range n).map fun u => .list ((List.range n).map (g u))
theorem mkT_len {n : Nat} {g : Nat → Nat → PyData} : (mkT n g).length = n := by simp [mkT]
theorem mkT_row {n u : Nat} {g : Nat → Nat → PyData} (h : u < n) : (mkT n g)[u]? = some (.list ((List.range n).map (g u))) := by
  rw [mkT, List.getElem?_map, List.getElem?_range h]; rfl
theorem rangeMap_at {α : Type} {n v : Nat} {g : Nat → α} (h : v < n) : ((List.range n).map g)[v]? = some (g v) := by
  rw [List.getElem?_map, List.getElem?_range h]; rfl
theorem rangeMap_set {α : Type} {n v : Nat} {g : Nat → α} {x : α} : ((List.range n).map g).set v x = (List.range n).map fun i => if i = v then x else g i := by
  apply List.ext_getElem?
  intro i
  by_cases hi : i < n
  · rw [rangeMap_at hi, List.getElem?_set]
    by_cases h : v = i
    · subst h; simp [hi]
    · rw [if_neg h, rangeMap_at hi, if_neg (fun q => h q.symm)]
  · rw [List.getElem?_eq_none (by simp; omega), List.getElem?_eq_none (by simp; omega)]
theorem mkT_set {n a b : Nat} {g : Nat → Nat → PyData} {x : PyData} (ha : a < n) : (mkT n g).set a (.list (((List.range n).map (g a)).set b x)) = mkT n fun u v => if u = a ∧ v = b then x else g u v := by
  rw [mkT, rangeMap_set, rangeMap_set, mkT]
  refine List.map_congr_left fun u _ => ?_
  by_cases h : u = a
  · subst h; simp
  · simp [h]
theorem mkT_congr {n : Nat} {g g' : Nat → Nat → PyData} (h : ∀ u v, u < n → v < n → g u v = g' u v) : mkT n g = mkT n g' := by
  unfold mkT
  refine List.map_congr_left fun u hu => ?_
  rw [List.map_congr_left fun v hv => h u v (by simpa using hu) (by simpa using hv)]
theorem Sm.mkT {n m : Nat} {g : Nat → Nat → PyData} (h : ∀ u v, Sm m (g u v)) : Sm (m + 2) (.list (mkT n g)) := Sm.map fun u => Sm.map fun v => h u v
end Mine

namespace Mine
open PySem PySem.Spec PySem.Calls PyProof.Rows

def cutQ (P : Rho → Prop) (Q : Fl → Rho → Prop) : Fl → Rho → Prop
  | .next, ρ => P ρ
  | fl, ρ => Q fl ρ
section
variable {c : Cx} {f : Fm} {ρ ρ' : Rho} {st : Stmt} {rest body orelse : List Stmt} {Q : Fl → Rho → Prop} {e t : Expr} {pos : Pos} {q : Bool}
theorem s_cut (P : Rho → Prop) (h1 : Ex1 c f st ρ (cutQ P Q)) (h2 : ∀ ρ', P ρ' → Ex c f rest ρ' Q) : Ex c f (st :: rest) ρ Q :=
  ex_cons (h1.mono fun fl ρ' h => by cases fl <;> first | exact h2 _ h | exact h)
/-- an if after which the ways meet again at P -/
theorem s_ifc (P : Rho → Prop) (ht : Tst c f ρ t q) (h1 : q = true → Ex c f body ρ (cutQ P Q)) (h2 : q = false → Ex c f orelse ρ (cutQ P Q)) (h3 : ∀ ρ', P ρ' → Ex c f rest ρ' Q) : Ex c f (.If t body orelse pos :: rest) ρ Q :=
  s_cut P (ex_if ht h1 h2) h3
theorem s_whenc (P : Rho → Prop) (ht : Tst c f ρ t q) (h1 : q = true → Ex c f body ρ (cutQ P Q)) (h2 : q = false → P ρ) (h3 : ∀ ρ', P ρ' → Ex c f rest ρ' Q) : Ex c f (.If t body [] pos :: rest) ρ Q :=
  s_cut P (ex_if ht h1 fun h => ex_nil (h2 h)) h3
theorem s_retO {x : Str} {xp : Pos} {d : PyData} {i : Nat} (hat : At f.xs ρ x ⟨.ow, d⟩ i) (hQ : Q (.ret d true) ρ) (hd : (x == ("__debug__" : Str)) = false := by decide +kernel) (hn : (x == ("__classdict__" : Str)) = false := by decide +kernel) :
    Ex c f (.Return (some (.Name x xp)) pos :: rest) ρ Q :=
  s_ret (ev_name_us hat hd hn) hQ (.inr (.inr (.inr ⟨[i], rfl, by simp, fun j hj => ⟨⟨.ow, d⟩, by rw [List.mem_singleton.mp hj]; exact hat.slot, rfl⟩⟩)))
end
/-- the cells of a law's script -/
def cellD (ns : List Int) (i d : Int) : Int := if i < (ns.length : Int) then ns.getD i.toNat 0 else d
end Mine

namespace Mine
open PySem PySem.Spec PySem.Calls PyProof.Rows

/-! ranges with a step -/
def intsS (a c : Int) (n : Nat) : List PyData := (List.range n).map fun i : Nat => .int (a + i * c)
theorem intsS_get {a c : Int} {n i : Nat} {d : PyData} (h : (intsS a c n)[i]? = some d) : i < n ∧ d = .int (a + i * c) := by
  unfold intsS at h
  rw [List.getElem?_map] at h
  rcases Nat.lt_or_ge i n with q | q
  · rw [List.getElem?_range q] at h; simp at h; exact ⟨q, h.symm⟩
  · rw [List.getElem?_eq_none (by simpa using q)] at h; simp at h
theorem intsS_length (a c : Int) (n : Nat) : (intsS a c n).length = n := by simp [intsS]
theorem intsS_flat {a c : Int} {n : Nat} : ∀ d ∈ intsS a c n, flat d = true := fun d hd => by
  unfold intsS at hd
  obtain ⟨i, _, rfl⟩ := List.mem_map.mp hd
  rfl
section
variable {c : Cx} {f : Fm} {ρ : Rho} {mo : Addr → Prop} {val : Nat → Value} {fp : Nat → List Addr} {s : Shared} {E : Value → Shared → Prop} {pos : Pos} {k : EK}
theorem itr_rangeS {s1 : Shared} {a c' : Int} {n : Nat} {o : Obj} {tk : Nat} (S : St c f ρ mo val fp s) (x1 : Ext c s s1) (S1 : St c f ρ mo val fp s1)
    : let s2 : Shared := { s1 with heap := (s1.heap.push o).push { cls := .type "range_iterator", data := .fields #[rawInt a, rawInt n, rawInt c'] }, toks := tk }
      Ext c s s2 ∧ ∃ I Fp wr P Sx as, (Value.ref (s1.heap.push o).objs.size) = .ref I ∧ Itr c f mo fp s s2 (intsS a c' n) .fr I Fp wr P Sx as := by
  intro s2
  have xs : Ext c s1 s2 := Ext.of S1.wf fun _ _ e => Heap.get?_push_of_some _ (Heap.get?_push_of_some _ e)
  have x2 : Ext c s s2 := x1.trans xs
  have hIn : s1.heap.get? (s1.heap.push o).objs.size = none := by
    cases e : s1.heap.get? (s1.heap.push o).objs.size with
    | none => rfl
    | some o' => have := Heap.lt_size e; rw [Heap.size_push] at this; exact absurd this (Nat.not_lt.mpr (Nat.le_succ _))
  refine ⟨x2, (s1.heap.push o).objs.size, [(s1.heap.push o).objs.size], [(s1.heap.push o).objs.size], _, _, [], rfl, ⟨by rw [intsS_length]; exact Walks.range S.ok.room.hand _ a c' n, ?_, fun b hb => ?_, fun b hb => ?_, fun b hb => ?_, fun hs b hb => ?_, fun i h st b hb => ?_, fun b hb => ?_, fun j v d hP hd => ?_, ?_, nofun⟩⟩
  · have e1 : (a + ((0 : Nat) : Int) * c') = a := by simp
    have e2 : ((n : Int) - ((0 : Nat) : Int)) = n := by simp
    rw [e1, e2]
    exact Heap.get?_push_size _ rfl
  · rw [List.mem_singleton.mp hb]; exact ⟨_, Heap.get?_push_size _ rfl⟩
  · rw [List.mem_singleton.mp hb]; intro hp
    obtain ⟨o2, h2, _⟩ := pv_obj S1 hp
    rw [hIn] at h2; cases h2
  · rw [List.mem_singleton.mp hb]; intro hx
    obtain ⟨ps, q⟩ := S1.wf.tab _ hx
    rw [hIn] at q; cases q
  · rw [List.mem_singleton.mp hb]; intro hm
    obtain ⟨o2, h2, _⟩ := S1.moIn _ hm
    rw [hIn] at h2; cases h2
  · rw [List.mem_singleton.mp hb]; exact ⟨_, _, st, rfl⟩
  · rw [List.mem_singleton.mp hb]; exact x1.up.none hIn
  · obtain ⟨h1, rfl⟩ := intsS_get hd
    obtain ⟨t, rfl⟩ := hP
    exact ⟨[], List.Sublist.refl _, .int _ _⟩
  · exact frOk S .nil nofun nofun

theorem it_range3 {e1 e2 e3 : Expr} {a b st : Int} {n : Nat} {k k2 k3 : EK} {rp : Pos} (C : CxOk c) (B : Bi c "range" (.type "range")) (hx : f.env.kindOf "range" = some .globalImplicit) (h1 : Ev c f ρ e1 (.int a) k) (h2 : Ev c f ρ e2 (.int b) k2) (h3 : Ev c f ρ e3 (.int st) k3)
    (hst : st ≠ 0) (hst' : -1000 ≤ st ∧ st ≤ 1000) (hsm : Builtin.Range.small a b st = true) (hsz : Builtin.Range.rangeSize a b st = (n : Int))
    (he1 : ∀ env rest, starEach (e1 :: rest) env = (false, eval e1 env) :: starEach rest env := by intros; rfl) (he2 : ∀ env rest, starEach (e2 :: rest) env = (false, eval e2 env) :: starEach rest env := by intros; rfl) (he3 : ∀ env rest, starEach (e3 :: rest) env = (false, eval e3 env) :: starEach rest env := by intros; rfl) :
    It c f ρ (.Call (.Name "range" rp) [e1, e2, e3] [] pos) (intsS a st n) .fr := fun mo val fp s E S => by
  refine Call_ (builtin_name C B hx S ?_)
  refine PySem.callWith_type (by rw [he1, he2, he3]; rfl) ?_
  rw [he1, he2, he3]
  refine evalArgs_plain (spliced_cons (h1.bind S fun v s1 as x1 S1 r1 ko => spliced_cons (h2.bind S1 fun v2 s2 as2 x2 S2 r2 ko2 => spliced_cons (h3.bind S2 fun v3 s3 as3 x3 S3 r3 ko3 => spliced_nil ?_))))
  cases r1; cases r2; cases r3
  refine call_range_3 hst ?_ (.inl (PyProof.noPylong_small (by omega)))
  refine wpAny_pyIter_range (IsRange.new ..) hsm ?_
  rw [hsz]
  exact itr_rangeS S ((x1.trans x2).trans x3) S3
theorem s_forS {x : Str} {xp : Pos} {i : Nat} {body rest : List Stmt} {Q : Fl → Rho → Prop} {iter : Expr} {n : Nat} {a st : Int} (FS : FmS c f) (hx : Nm f.xs x i) (h : It c f ρ iter (intsS a st n) .fr)
    (J : Nat → Rho → Prop) (h0 : J 0 ρ)
    (hb : ∀ j ρ', j < n → J j ρ' → ∃ ρ1, Upd f.xs ρ' x (some ⟨.lo, .int (a + j * st)⟩) ρ1 i ∧ Ex c f body ρ1 (loopQ (J (j + 1)) (seqQ c f rest Q)))
    (hend : ∀ ρ', J n ρ' → Ex c f rest ρ' Q) (hs : ∀ env x, foldedSetIterable iter env x = pure x := by intro _ _; rfl) : Ex c f (.For (.Name x xp) iter body [] pos :: rest) ρ Q :=
  s_for (sk := .lo) FS hx h (.flat rfl intsS_flat) J h0 (fun j d ρ' hd hJ => by obtain ⟨h1, rfl⟩ := intsS_get hd; exact hb j ρ' h1 hJ) (fun ρ' hJ => hend ρ' (by rw [intsS_length] at hJ; exact hJ)) hs
end
/-! range(n) as Nats -/
abbrev encN (i : Nat) : PyData := .int (i : Int)
section
variable {c : Cx} {f : Fm} {ρ : Rho} {pos : Pos} {k : EK}
theorem intsL0 (n : Nat) : intsL 0 n = (List.range n).map encN := by
  unfold intsL; exact List.map_congr_left fun i _ => by rw [Int.zero_add]
theorem it_n {e : Expr} {n : Nat} (h : It c f ρ e (intsL 0 n) k) : It c f ρ e ((List.range n).map encN) k := intsL0 n ▸ h
theorem encN_flat {n : Nat} : ∀ d ∈ (List.range n).map encN, flat d = true := flat_map (fun _ => rfl) _
theorem s_forN {x : Str} {xp : Pos} {i : Nat} {body rest : List Stmt} {Q : Fl → Rho → Prop} {iter : Expr} {n : Nat} (FS : FmS c f) (hx : Nm f.xs x i) (h : It c f ρ iter (intsL 0 n) .fr)
    (J : Nat → Rho → Prop) (h0 : J 0 ρ)
    (hb : ∀ j ρ', j < n → J j ρ' → ∃ ρ1, Upd f.xs ρ' x (some ⟨.lo, .int (j : Int)⟩) ρ1 i ∧ Ex c f body ρ1 (loopQ (J (j + 1)) (seqQ c f rest Q)))
    (hend : ∀ ρ', J n ρ' → Ex c f rest ρ' Q) (hs : ∀ env x, foldedSetIterable iter env x = pure x := by intro _ _; rfl) : Ex c f (.For (.Name x xp) iter body [] pos :: rest) ρ Q :=
  s_forR FS hx h J h0 (fun j ρ' hj hJ => by rw [Int.zero_add]; exact hb j ρ' hj hJ) hend hs
end
/-- membership of a Nat in a list of Nats, as python sees it -/
abbrev nl (F : List Nat) : List PyData := F.map fun x : Nat => .int (x : Int)
theorem nl_any (F : List Nat) (a : Nat) : ((nl F).any fun y => PyData.eqv y (.int (a : Int))) = decide (a ∈ F) := by
  induction F with
  | nil => rfl
  | cons x F ih =>
    rw [nl, List.map_cons, List.any_cons]
    rw [nl] at ih
    rw [ih, PyData.eqv]
    by_cases h : x = a
    · subst h; simp
    · have h1 : ¬ (x : Int) = (a : Int) := by omega
      have h2 : ¬ a = x := fun q => h q.symm
      simp [h1, h2]
theorem nl_snoc (F : List Nat) (x : Nat) : nl (F ++ [x]) = nl F ++ [.int (x : Int)] := by simp [nl]
theorem nl_can (F : List Nat) : PyData.canLayAll0 (nl F) = true := canAll fun d hd => by obtain ⟨a, _, rfl⟩ := List.mem_map.mp hd; rfl
end Mine

namespace Mine
open PySem PySem.Spec PySem.Calls PyProof.Rows

section
variable {c : Cx} {f : Fm} {ρ : Rho} {e l r : Expr} {d : PyData} {k k1 k2 : EK} {pos : Pos} {a b : Int} {x y : Str} {n : Nat}
theorem ev_pow (h1 : Ev c f ρ l (.int a) k1) (h2 : Ev c f ρ r (.int b) k2) (ha : 2 ≤ a) (hb : 0 < b) (hs : Builtin.Int.intTooBig (↑(Builtin.Int.intBits a) * b) = false) : Ev c f ρ (.BinOp l .Pow r pos) (.int (a ^ b.toNat)) .fr :=
  ev_bin h1 h2 fun s v1 v2 as1 as2 E W _ r1 r2 => by
    cases r1; cases r2
    refine AutoIntOps.pow_4 (by omega) (by simp; omega) (by simp; omega) (by simp; omega) (by rw [hs]; decide) ?_
    show (fun v s' => _) _ _
    exact ⟨Ext.toks W _, [], .int _ _, .nil, nofun, nofun⟩
theorem ev_adds (h1 : Ev c f ρ l (.str x) k1) (h2 : Ev c f ρ r (.str y) k2) (hs : x.length + y.length ≤ sizeLine) : Ev c f ρ (.BinOp l .Add r pos) (.str (x ++ y)) .fr :=
  ev_bin h1 h2 fun s v1 v2 as1 as2 E W _ r1 r2 => by
    cases r1; cases r2
    exact SB.add (fun t' k => ⟨Ext.toks W _, [], .str _ _, .nil, nofun, nofun⟩) hs
theorem ev_chr {i : Int} {ch : Nat} (h1 : Ev c f ρ l (.str x) k1) (h2 : Ev c f ρ r (.int i) k2) (h0 : 0 ≤ i) (hfit : i < 2 ^ 63) (hx : (seqIndex? i x.length).bind (x.cps[·]?) = some ch)
    (hs : ∀ o i, subscripted r false o i = operate [o, i] (getItem o i) := by intros; rfl) : Ev c f ρ (.Subscript l r pos) (.str ⟨#[ch]⟩) .fr := by
  intro mo val fp s E S
  refine Subscript_ (h1.bind S fun v1 s1 as1 x1 S1 r1 k1 => h2.bind S1 fun v2 s2 as2 x2 S2 r2 _ => ?_)
  have r1' := x2.reads S1.wf r1
  cases r2; cases r1'
  refine tail_any (T := "str") (typeIs_str _ _ _) F.slot_str_getitem.lookup ?_ (hs _ _)
  refine P.getItem_str (by simp; omega) hx ?_
  exact ⟨(x1.trans x2).trans (Ext.toks S2.wf _), [], .str _ _, frNil⟩
theorem vc_stri (ha : a.natAbs.log2 < 1920) : VC c n (.type "str") [.int a] (.str (Str.ofString (toString a))) := fun A s vals ass E R W r => by
  cases r with | cons r1 r2 => cases r2; cases r1 with
  | int i t => exact P.str_of_int ha ⟨Ext.toks W _, [], .str _ _, .nil, nofun, nofun⟩
end
theorem strOk_ofString (s : String) : PyData.strOk (Str.ofString s) = true := by
  rw [Str.ofString_eq_toList, PyData.strOk]
  simp only [Array.all_eq_true', List.mem_toArray, List.mem_map]
  rintro x ⟨ch, _, rfl⟩
  have := ch.valid
  rcases this with h | ⟨_, h⟩
  · have : ch.toNat < 0xd800 := h
    simp; omega
  · have : ch.toNat < 0x110000 := h
    simp; omega
theorem Sm.ofString {n : Nat} {s : String} : Sm n (.str (Str.ofString s)) := ⟨by rw [PyData.canLay0]; exact strOk_ofString s, Nat.zero_le _⟩
/-- the decimal digits of a number, as code points -/
def dg (n : Nat) : List Nat := (Nat.toDigits 10 n).map Char.toNat
theorem digitChar_nat : ∀ d : Nat, d < 10 → (Nat.digitChar d).toNat = 48 + d := by decide
theorem dg_small {n : Nat} (h : n < 10) : dg n = [48 + n] := by rw [dg, Nat.toDigits_of_lt_base h, List.map_cons, List.map_nil, digitChar_nat n h]
theorem dg_step {n : Nat} (h : 10 ≤ n) : dg n = dg (n / 10) ++ [48 + n % 10] := by
  rw [dg, Nat.toDigits_of_base_le (by decide) h, List.map_append, List.map_cons, List.map_nil, digitChar_nat _ (Nat.mod_lt _ (by decide)), dg]
theorem text_nat (n : Nat) : Str.ofString (toString (n : Int)) = ⟨(dg n).toArray⟩ := by
  rw [Str.ofString_eq_toList]
  show Str.mk ((Nat.repr n).toList.map Char.toNat).toArray = _
  rw [Nat.toList_repr]; rfl
theorem text_neg {n : Nat} (h : 0 < n) : Str.ofString (toString (-(n : Int))) = ⟨(45 :: dg n).toArray⟩ := by
  obtain ⟨m, rfl⟩ : ∃ m, n = m + 1 := ⟨n - 1, by omega⟩
  rw [Str.ofString_eq_toList]
  show Str.mk (("-" ++ Nat.repr (m + 1)).toList.map Char.toNat).toArray = _
  rw [String.toList_append, List.map_append, Nat.toList_repr]; rfl
end Mine

namespace Mine
open PySem PySem.Spec PySem.Calls PyProof.Rows
theorem ra_rev {h : Heap} {vs : List Value} {ds : List PyData} {as : List Addr} (r : ReadsAll h vs ds as) (hf : flats ds = true) : ReadsAll h vs.reverse ds.reverse [] := by
  induction ds generalizing vs as with
  | nil => cases r; exact .nil
  | cons d ds ih =>
    cases r with
    | cons q1 q2 =>
      have f1 := Bool.and_eq_true_iff.mp hf
      have z1 := reads_flat q1 f1.1
      subst z1
      rw [List.reverse_cons, List.reverse_cons]
      exact ra_app (as := []) (bs := []) (ih q2 f1.2) (.cons (as := []) (bs := []) q1 .nil)
section
variable {c : Cx} {f : Fm} {ρ ρ' : Rho} {Q : Fl → Rho → Prop} {rest : List Stmt} {x : Str} {xs : List PyData} {i : Nat} {xp ap cp pos : Pos}
/-- x.reverse(), a list of flat items -/
theorem s_reverse (FS : FmS c f) (hat : At f.xs ρ x ⟨.ow, .list xs⟩ i) (hf : flats xs = true) (hsz : xs.length ≤ sizeLine) (hU : Upd f.xs ρ x (some ⟨.ow, .list xs.reverse⟩) ρ' i) (hQ : Ex c f rest ρ' Q)
    (hd : (x == ("__debug__" : Str)) = false := by decide +kernel) (hn : (x == ("__classdict__" : Str)) = false := by decide +kernel)
    (hbase : ∀ env, attributeBase (.Name x xp) "reverse" env (eval (.Name x xp) env) = eval (.Name x xp) env := by intro _; rfl) (hline : (ap.endLine == cp.line) = true := by rfl)
    (hsw : ∀ env, swapsWith (.Call (.Attribute (.Name x xp) "reverse" ap) [] [] cp) none pos.line env = pure false := by intro _; rfl) :
    Ex c f (.Expr (.Call (.Attribute (.Name x xp) "reverse" ap) [] [] cp) pos :: rest) ρ Q := by
  obtain ⟨h1, h2, rfl⟩ := hU.get
  refine ex_cons fun mo val fp s S => ?_
  have hint : interactive f.env = false := by unfold interactive; rw [S.ok.kind]; rfl
  refine wpAny_Expr_any ?_ hint (hsw _)
  refine wpAny_Call_method0_late (hbase _) hline (name_step S hat (fun _ => ?_) hd hn)
  have e0 := hat.slot
  obtain ⟨a, vs, n, as, hv, hfp, hl, hr, hma⟩ := owned_list S e0
  have has : as = [] := readsAll_flat hr hf
  subst has
  rw [hv]
  refine ⟨"list", "list.reverse", F.plainAttrs_list, F.slot_list_reverse, F.type_list_reverse, ⟨_, hl, rfl⟩, fun a' q => by cases q; exact ⟨_, hl, rfl⟩, ?_⟩
  have hlen : vs.size = xs.length := by simpa using readsAll_length hr
  refine P.reverse_list hl ?_ (by omega)
  have hl2 := hl.update (fun xs => xs.reverse)
  have hsb : Heap.SameBut a s.heap (s.heap.update a (Obj.mapSeq fun xs => xs.reverse)) := sameBut_update ..
  have hr2 := readsAll_but hsb (isL_notTup hl) (by simp) hr
  refine mut0 (tk := s.toks) FS S (Ext.refl S.wf) e0 (by rw [hfp]; exact List.mem_cons_self ..) hsb (Pl.of_isL hl2) ?_ hQ
  rw [hv, hfp]
  refine .list hl2 rfl rfl ?_
  rw [Array.toList_reverse]
  exact ra_rev hr2 hf

theorem wpAny_And3 {M : Model} {A : Around} {E : Value → Shared → Prop} {s : Shared} {env : Env} {x y z : Expr} {Q : Value → Shared → Prop}
    (h : wpAny M A (eval x env) (fun v s₁ => wpAny M A (truthy v) (fun t s₂ => if t then wpAny M A (eval (.BoolOp .And [y, z] pos) env) Q E s₂ else Q v s₂) E s₁) E s) :
    wpAny M A (eval (.BoolOp .And [x, y, z] pos) env) Q E s := by
  show wpAny M A (do
    let v ← eval x env
    standAt pos
    let t ← holding [v] (truthy v)
    match BoolOp.And, t with
    | .And, false | .Or, true => pure v
    | _, _ => boolOp pos .And [eval y env, eval z env]) Q E s
  refine wpAny_bind (wpAny_mono h (fun v s₁ h₁ => wpAny_bind (wpAny_standAt (wpAny_bind (wpAny_holding (wpAny_mono h₁ (fun t s₂ h₂ => ?_) fun _ _ x => x))))) fun _ _ x => x)
  cases t with
  | false => exact wpAny_pure h₂
  | true => exact h₂
theorem ev_and3 {x y z : Expr} {p q : Bool} {k1 k2 : EK} (h1 : Ev c f ρ x (.bool p) k1) (h2 : p = true → Ev c f ρ (.BoolOp .And [y, z] pos) (.bool q) k2) : Ev c f ρ (.BoolOp .And [x, y, z] pos) (.bool (p && q)) .fr := by
  intro mo val fp s E S
  refine wpAny_And3 (h1.bind S fun v1 s1 as1 x1 S1 r1 _ => ?_)
  cases r1
  refine wpAny_truthy_bool ?_
  cases p with
  | false => exact ⟨x1, [], .bool _, frNil⟩
  | true => exact (h2 rfl).bind S1 fun v2 s2 as2 x2 S2 r2 _ => by cases r2; exact ⟨x1.trans x2, [], .bool _, frNil⟩
end
end Mine

namespace Mine
open PySem PySem.Spec PySem.Calls PyProof.Rows
section
variable {c : Cx} {f : Fm} {ρ : Rho} {l r : Expr} {k1 k2 : EK} {pos : Pos}
theorem rsh_small : ∀ a : Nat, a < 16 → ∀ b : Nat, b < 4 → ((b : Int) ≥ (Builtin.Int.intBits (a : Int) : Nat) → a / 2 ^ b = 0) := by decide +kernel
/-- a >> b, of small numbers -/
theorem ev_rshift {a b : Nat} (h1 : Ev c f ρ l (.int (a : Int)) k1) (h2 : Ev c f ρ r (.int (b : Int)) k2) (ha : a < 16) (hb : b < 4) : Ev c f ρ (.BinOp l .RShift r pos) (.int ((a / 2 ^ b : Nat) : Int)) .fr :=
  ev_bin h1 h2 fun s v1 v2 as1 as2 E W _ r1 r2 => by
    cases r1; cases r2
    by_cases h : (b : Int) ≥ (Builtin.Int.intBits (a : Int) : Nat)
    · refine AutoIntOps.rshift_1 (by omega) h ?_
      show (fun v s' => _) _ _
      refine ⟨Ext.toks W _, [], ?_, .nil, nofun, nofun⟩
      rw [if_neg (by omega), rsh_small a ha b hb h]; exact .int _ _
    · refine AutoIntOps.rshift_2 (by omega) h ?_
      show (fun v s' => _) _ _
      refine ⟨Ext.toks W _, [], ?_, .nil, nofun, nofun⟩
      have e : (a : Int).fdiv (2 ^ (b : Int).toNat) = ((a / 2 ^ b : Nat) : Int) := by
        rw [Int.toNat_natCast, Int.fdiv_eq_ediv_of_nonneg _ (by have : (0 : Int) < 2 ^ b := Int.pow_pos (by decide)
                                                                omega), Int.natCast_ediv, Int.natCast_pow]; rfl
      rw [e]; exact .int _ _
end
end Mine

namespace Mine
open PySem PySem.Spec PySem.Calls PyProof.Rows

/-- what slot a part of a value of a kind may fill -/
inductive Fills4 : EK → PyData → K → Prop
  | lo {d : PyData} : Fills4 .lo d .lo
  | fr {d : PyData} : Fills4 .fr d .lo
  | sh {d : PyData} : Fills4 .sh d .sh
  | flat {k : EK} {d : PyData} {sk : K} : flat d = true → sk ≠ .ow → Fills4 k d sk

section
variable {c : Cx} {f : Fm} {ρ ρ1 ρ2 : Rho} {mo : Addr → Prop} {val : Nat → Value} {fp : Nat → List Addr} {s s' : Shared} {E : Value → Shared → Prop}
  {Q : Fl → Rho → Prop} {rest : List Stmt} {e ei ei2 : Expr} {d d0 d1 d2 d01 d02 : PyData} {k k1 k2 : EK} {pos xp yp tp sp sp2 : Pos} {x y : Str} {i j n : Nat} {xs : List PyData} {sk sk1 sk2 : K}

theorem Fills4.ok {v : Value} {as bs : List Addr} (h : Fills4 k d sk) (S : St c f ρ mo val fp s) (r : Reads s'.heap v d as) (sub : ∀ a ∈ as, a ∈ bs) (ko : KOk f mo fp s.heap s'.heap k bs) :
    sk ≠ .ow ∧ (∀ a ∈ as, ¬ mo a) ∧ (sk = .lo → ∀ a ∈ as, f.h₀.get? a = none) := by
  cases h with
  | lo => exact ⟨by nofun, fun a ha => (ko.2 a (sub a ha)).1, fun _ a ha => (ko.2 a (sub a ha)).2⟩
  | fr => have := (KOk.fr_lo S ko).2; exact ⟨by nofun, fun a ha => (this a (sub a ha)).1, fun _ a ha => (this a (sub a ha)).2⟩
  | sh => exact ⟨by nofun, fun a ha => ko.2 a (sub a ha), by nofun⟩
  | flat hf hs => rw [reads_flat r hf]; exact ⟨hs, nofun, fun _ => nofun⟩
theorem slotOk_of {as : List Addr} {h : Heap} (h1 : sk ≠ .ow) (h2 : ∀ a ∈ as, ¬ mo a) (h3 : sk = .lo → ∀ a ∈ as, f.h₀.get? a = none) : SlotOk f ρ i mo fp h sk as := by
  cases sk with
  | sh => exact h2
  | lo => exact fun a ha => ⟨h2 a ha, h3 rfl a ha⟩
  | ow => exact absurd rfl h1
theorem moWith_not {as : List Addr} {a : Addr} (h : sk ≠ .ow) (q : moWith mo sk as a) : mo a := q.elim id fun r => absurd r.1 h
theorem reads_keep (S : St c f ρ mo val fp s) (hk : ∀ b o, ¬ Pv f b → s.heap.get? b = some o → s'.heap.get? b = some o) {v : Value} {as : List Addr} (hL : f.env.locals ∉ as) (r : Reads s.heap v d as) : Reads s'.heap v d as := by
  refine reads_upon r (fun a ha o e _ => ?_) (fun a o e ht hd => ?_)
  · obtain ⟨o', e', hl⟩ := reads_objs r a ha
    exact hk a o (pv_ld S e' hl (fun q => hL (q ▸ ha))) e
  · refine hk a o (fun hp => ?_) e
    obtain ⟨o2, h2, h3⟩ := pv_obj S hp
    rw [e] at h2; cases h2
    obtain ⟨_, _, hd⟩ := hd
    rcases h3 with ⟨_, _, h⟩ | ⟨_, h⟩ <;> rw [hd] at h <;> cases h
theorem two_of {vs : Array Value} (h : vs.size = 2) : ∃ v1 v2, vs.toList = [v1, v2] := by
  cases vs with | mk l =>
  match l, h with | [a, b], _ => exact ⟨a, b, rfl⟩

/-- x, y = e -/
theorem s_unp2 (FS : FmS c f) (h : Ev c f ρ e (.tuple [d1, d2]) k) (hk1 : Fills4 k d1 sk1) (hk2 : Fills4 k d2 sk2) (hU1 : Upd f.xs ρ x (some ⟨sk1, d1⟩) ρ1 i) (hU2 : Upd f.xs ρ1 y (some ⟨sk2, d2⟩) ρ2 j) (hQ : Ex c f rest ρ2 Q)
    (hs : ∀ env, swapsWithSole [.Tuple [.Name x xp, .Name y yp] n tp] e pos.line env = pure false := by intro _; rfl)
    (hw : ∀ env, swappedStores [.Tuple [.Name x xp, .Name y yp] n tp] e env = pure none := by intro _; rfl) :
    Ex c f (.Assign [.Tuple [.Name x xp, .Name y yp] n tp] e pos :: rest) ρ Q := by
  obtain ⟨hx1, hi1, rfl⟩ := hU1.get
  obtain ⟨hx2, hi2, rfl⟩ := hU2.get
  refine ex_cons fun mo val fp s S => ?_
  refine Assign_Tuple (h.bind S fun v s1 as x1 S1 r1 ko => ?_) (hs _) (hw _)
  cases r1 with | tuple g1 g2 g3 g4 =>
  rename_i t o vs m
  have hsz : vs.size = 2 := by simpa using readsAll_length g4
  refine assign_Tuple_tuple S.ok.room.hand ⟨_, g1, g2, _, g3⟩ (by rw [hsz]; rfl) rfl (fun h' he => ?_)
  have x2 : Ext c s1 { s1 with heap := h' } := Ext.of S1.wf fun b o q => he b o (Nat.ne_of_lt (Heap.lt_size q)) q
  have S2 := S1.ext x2
  obtain ⟨v1, v2, hvs⟩ := two_of hsz
  rw [hvs] at g4 ⊢
  obtain _ | ⟨q1, q2⟩ := g4
  obtain _ | ⟨q2, q3⟩ := q2
  cases q3
  rename_i as1 as2
  obtain ⟨a1, a2, a3⟩ := hk1.ok S q1 (fun a ha => List.mem_append_left _ ha) ko
  obtain ⟨b1, b2, b3⟩ := hk2.ok S q2 (fun a ha => List.mem_append_right _ (List.mem_append_left _ ha)) ko
  have hL1 : f.env.locals ∉ as1 := fun q => ko.1 (List.mem_append_left _ q)
  have hL2 : f.env.locals ∉ as2 := fun q => ko.1 (List.mem_append_right _ (List.mem_append_left _ q))
  show wpAny _ _ (do holding [v2] (assign (.Name x xp) f.env v1); assignInOrder [assign (.Name y yp) f.env] [v2]) _ _ _
  refine wpAny_bind (wpAny_holding (wpAny_assign_Name ?_))
  refine store_step (sl := ⟨sk1, d1⟩) FS S2 hx1 hi1 (x2.reads S1.wf q1) hL1 (slotOk_of a1 a2 a3) fun s3 S3 hk3 th3 => ?_
  show wpAny _ _ (do holding [] (assign (.Name y yp) f.env v2); assignInOrder [] []) _ _ _
  refine wpAny_bind (wpAny_holding (wpAny_assign_Name ?_))
  refine store_step (sl := ⟨sk2, d2⟩) FS S3 hx2 hi2 (reads_keep S2 hk3 hL2 (x2.reads S1.wf q2)) hL2 (slotOk_of b1 (fun a ha q => b2 a ha (moWith_not a1 q)) b3) fun s4 S4 hk4 th4 => ?_
  refine wpAny_pure ⟨.next, _, _, _, _, trivial, S4, ⟨fun b o g1 g2 _ q => hk4 b o g2 (hk3 b o g2 ((x1.trans x2).up.kp b o g1 q)), fun b o q => ?_, fun b q => .inl (moWith_not a1 (moWith_not b1 q))⟩, hQ⟩
  obtain ⟨o1, e1⟩ := (x1.trans x2).up.th b o q
  obtain ⟨o2, e2⟩ := th3 b o1 e1
  exact th4 b o2 e2

/-- a flat item laid into a list that a variable owns, by an assignment within another -/
theorem assign_sub {jj : Int} {K : Unit → Shared → Prop} (FS : FmS c f) (S : St c f ρ mo val fp s) (hat : At f.xs ρ x ⟨.ow, .list xs⟩ i) (hi : Ev c f ρ ei (.int jj) k2) {v : Value} (r1 : Reads s.heap v d []) (h0 : 0 ≤ jj) (hfit : jj < 2 ^ 63)
    (hx : xs[jj.toNat]? = some d0) (hd0 : flat d0 = true)
    (hK : ∀ s' mo' val' fp', St c f (ρ.set i (some ⟨.ow, .list (xs.set jj.toNat d)⟩)) mo' val' fp' s' → Step c f mo s mo' s' → K () s')
    (hdb : (x == ("__debug__" : Str)) = false) (hn : (x == ("__classdict__" : Str)) = false) (hrel : ∀ (iv v ov : Value), (match ei with | .Slice _ _ none _ => [iv, v, ov] | _ => [v, ov, iv]) = [v, ov, iv]) :
    wpAny c.M f.A (assign (.Subscript (.Name x xp) ei sp) f.env v) K E s := by
  rw [arm_assign_Subscript]
  refine wpAny_bind (wpAny_holding (name_step S hat (fun _ => ?_) hdb hn))
  refine wpAny_bind (wpAny_holding (hi.bind S fun iv s3 as3 x3 S3 r3 _ => ?_))
  refine wpAny_bind (wpAny_standAt ?_)
  have e0 := hat.slot
  obtain ⟨a, vs, m, as, hva, hfp, hl, hr, hma⟩ := owned_list S3 e0
  cases r3
  rw [hva]
  have hlen : vs.size = xs.length := by simpa using readsAll_length hr
  have hjl : jj.toNat < xs.length := (List.getElem?_eq_some_iff.mp hx).1
  refine wpAny_bind (wpAny_holding (setItem_isL hl h0 hfit (by omega) fun hl2 => wpAny_release ?_))
  have hsb : Heap.SameBut a s3.heap (s3.heap.update a (Obj.mapSeq (·.setIfInBounds jj.toNat v))) := sameBut_update ..
  have nd := (S3.own i _ e0 rfl).1
  rw [hfp] at nd
  have r1' := reads_but hsb (isL_notTup hl) (by nofun) (x3.reads S.wf r1)
  have hr2 := readsAll_but hsb (isL_notTup hl) (List.nodup_cons.mp nd).1 hr
  have rd : Reads (s3.heap.update a (Obj.mapSeq (·.setIfInBounds jj.toNat v))) (val i) (.list (xs.set jj.toNat d)) (fp i) := by
    rw [hva, hfp]
    exact .list hl2 rfl rfl (by rw [Array.toList_setIfInBounds]; exact readsAll_set hr2 hx hd0 r1')
  have := S3.mut (tk := s3.toks) (as' := fp i) (extra := []) FS e0 (by rw [hfp]; exact List.mem_cons_self ..) hsb (Pl.of_isL hl2) rd (S3.own i _ e0 rfl).1 (fun a ha => .inl ha) nofun (fun _ _ _ _ _ _ h => by cases h) nofun
  exact hK _ _ _ _ this.1 ⟨fun b o h1 h2 h3 q => this.2.1 b o h3 (x3.up.kp b o h1 q), fun b o q => let ⟨o', q'⟩ := x3.up.th b o q; this.2.2 b o' q', fun b h => h.elim .inl (fun q => by cases q)⟩

/-- x[i], x[j] = (e1, e2), flat items of a list that x owns -/
theorem s_swap {jj1 jj2 : Int} {l1 l2 r1 r2 : Expr} {p1 p2 vp : Pos} {n2 : Nat} (FS : FmS c f) (hat : At f.xs ρ x ⟨.ow, .list xs⟩ i) (hv : Ev c f ρ (.Tuple [.Subscript l1 r1 p1, .Subscript l2 r2 p2] n2 vp) (.tuple [d1, d2]) k) (f1 : flat d1 = true) (f2 : flat d2 = true)
    (hi1 : Ev c f ρ ei (.int jj1) k1) (h01 : 0 ≤ jj1) (hfit1 : jj1 < 2 ^ 63) (hx1 : xs[jj1.toNat]? = some d01) (hd01 : flat d01 = true) (hU1 : Upd f.xs ρ x (some ⟨.ow, .list (xs.set jj1.toNat d1)⟩) ρ1 i)
    (hat2 : At f.xs ρ1 x ⟨.ow, .list (xs.set jj1.toNat d1)⟩ i)
    (hi2 : Ev c f ρ1 ei2 (.int jj2) k2) (h02 : 0 ≤ jj2) (hfit2 : jj2 < 2 ^ 63) (hx2 : (xs.set jj1.toNat d1)[jj2.toNat]? = some d02) (hd02 : flat d02 = true) (hU2 : Upd f.xs ρ1 x (some ⟨.ow, .list ((xs.set jj1.toNat d1).set jj2.toNat d2)⟩) ρ2 i)
    (hQ : Ex c f rest ρ2 Q)
    (hdb : (x == ("__debug__" : Str)) = false := by decide +kernel) (hn : (x == ("__classdict__" : Str)) = false := by decide +kernel)
    (hrel1 : ∀ (iv v ov : Value), (match ei with | .Slice _ _ none _ => [iv, v, ov] | _ => [v, ov, iv]) = [v, ov, iv] := by intros; rfl) (hrel2 : ∀ (iv v ov : Value), (match ei2 with | .Slice _ _ none _ => [iv, v, ov] | _ => [v, ov, iv]) = [v, ov, iv] := by intros; rfl)
    (hs : ∀ env, swapsWithSole [.Tuple [.Subscript (.Name x xp) ei sp, .Subscript (.Name x yp) ei2 sp2] n tp] (.Tuple [.Subscript l1 r1 p1, .Subscript l2 r2 p2] n2 vp) pos.line env = pure false := by intro _; rfl) :
    Ex c f (.Assign [.Tuple [.Subscript (.Name x xp) ei sp, .Subscript (.Name x yp) ei2 sp2] n tp] (.Tuple [.Subscript l1 r1 p1, .Subscript l2 r2 p2] n2 vp) pos :: rest) ρ Q := by
  obtain ⟨hy1, hi1', rfl⟩ := hU1.get
  obtain ⟨hy2, hi2', rfl⟩ := hU2.get
  have hw : swappedStores [.Tuple [.Subscript (.Name x xp) ei sp, .Subscript (.Name x yp) ei2 sp2] n tp] (.Tuple [.Subscript l1 r1 p1, .Subscript l2 r2 p2] n2 vp) f.env = pure none := by
    unfold swappedStores
    by_cases hb : (f.env.blockKind != .function) = true
    · simp [hb]
    · simp [hb]
  refine ex_cons fun mo val fp s S => ?_
  refine Assign_Tuple (hv.bind S fun v s1 as x1 S1 r1 ko => ?_) (hs _) hw
  cases r1 with | tuple g1 g2 g3 g4 =>
  rename_i t o vs m
  have hsz : vs.size = 2 := by simpa using readsAll_length g4
  refine assign_Tuple_tuple S.ok.room.hand ⟨_, g1, g2, _, g3⟩ (by rw [hsz]; rfl) rfl (fun h' he => ?_)
  have x2 : Ext c s1 { s1 with heap := h' } := Ext.of S1.wf fun b o q => he b o (Nat.ne_of_lt (Heap.lt_size q)) q
  have S2 := S1.ext x2
  obtain ⟨v1, v2, hvs⟩ := two_of hsz
  rw [hvs] at g4 ⊢
  obtain _ | ⟨q1, q2⟩ := g4
  obtain _ | ⟨q2, q3⟩ := q2
  cases q3
  have w1 := x2.reads S1.wf q1
  have w2 := x2.reads S1.wf q2
  rw [reads_flat q1 f1] at w1
  rw [reads_flat q2 f2] at w2
  show wpAny _ _ (do holding [v2] (assign (.Subscript (.Name x xp) ei sp) f.env v1); assignInOrder [assign (.Subscript (.Name x yp) ei2 sp2) f.env] [v2]) _ _ _
  refine wpAny_bind (wpAny_holding (assign_sub FS S2 hat hi1 w1 h01 hfit1 hx1 hd01 (fun s3 mo3 val3 fp3 S3 X3 => ?_) hdb hn hrel1))
  show wpAny _ _ (do holding [] (assign (.Subscript (.Name x yp) ei2 sp2) f.env v2); assignInOrder [] []) _ _ _
  refine wpAny_bind (wpAny_holding (assign_sub FS S3 hat2 hi2 (reads_upon w2 (by nofun) fun a o q hc hd => X3.tuple S2 q hc hd) h02 hfit2 hx2 hd02 (fun s4 mo4 val4 fp4 S4 X4 => ?_) hdb hn hrel2))
  exact wpAny_pure ⟨.next, _, _, _, _, trivial, S4, (Step.ext (x1.trans x2)).trans (X3.trans X4), hQ⟩
end
end Mine

namespace Mine
open PySem PySem.Spec PySem.Calls PyProof.Rows

/-- the module of the builtins, as a frame of its own needs it -/
def BMok (c : Cx) : Prop := ∃ bm ob, c.mg "__builtins__" = some (.ref bm) ∧ bm ≠ builtinsNs ∧ c.hB.get? bm = some ob ∧ ob.cls = .type "module" ∧ ob.dict = some builtinsNs ∧ ob.data = .plain ∧ ¬ c.X bm
/-- the running function's code has a table of inner codes, which may grow -/
def CodeTab (c : Cx) (f : Fm) : Prop := ∃ cd P, f.env.code = .ref cd ∧ c.X P ∧ ¬ c.X cd ∧ P ≠ cStatics ∧ c.hB.IsCode cd P #[] ∧ c.hB.TableAt cd P #[]

theorem oldK_on {h₀ h h' : Heap} (K : OldK h₀ h) (hs : ∀ b o o', h₀.get? b = some o → h.get? b = some o' → h'.get? b = some o') : OldK h₀ h' := by
  refine ⟨fun b o e => ?_, fun b o e => let ⟨o', ho'⟩ := K.there b o e; ⟨o', hs b o o' e ho'⟩⟩
  rcases K.old b o e with x | ⟨t, hc, vs, more, hv, x⟩ | ⟨rfl, hc, ⟨o', es, n, ho', r⟩, z⟩
  · exact .inl (hs b o _ e x)
  · exact .inr (.inl ⟨t, hc, vs, more, hv, hs b o _ e x⟩)
  · exact .inr (.inr ⟨rfl, hc, ⟨o', es, n, hs _ o _ e ho', r⟩, fun key => by rw [OldK.staticOf_congr ((hs _ o _ e ho').trans ho'.symm) key]; exact z key⟩)

section
variable {c : Cx} {f : Fm} {ρ : Rho} {mo : Addr → Prop} {val : Nat → Value} {fp : Nat → List Addr} {s : Shared} {E : Value → Shared → Prop}

theorem gen_code {A : Around} {pos : Pos} {q : Str} {scope : Scope} {K : Value → Shared → Prop} (W : Wf c s) (HT : CodeTab c f)
    (hK : ∀ code h' tk, Ext c s { s with heap := h', toks := tk } → s.heap.objs.size ≤ h'.objs.size → K code { s with heap := h', toks := tk }) : wpAny c.M A (genexprCode f.env pos q scope) K E s := by
  obtain ⟨cd, P, hcode, hX, hcX, hPs, hI, hT⟩ := HT
  obtain ⟨⟨ps, htr⟩, hP⟩ := W.tab P hX
  have hT' : s.heap.TableAt cd P ps := by
    obtain ⟨⟨o, vs, a, r⟩, _⟩ := hT
    exact ⟨⟨o, vs, W.base _ _ hcX a, r⟩, hP⟩
  obtain ⟨o, vs, file, tf, flags, tg, inF, text, tt, op, ho, hd, h11, h2, h7, h9, h10, hop, hpd, _, hne⟩ := hI
  have ho' := W.base _ _ hcX ho
  have hI' : s.heap.IsCode cd P ps := ⟨o, vs, file, tf, flags, tg, inF, text, tt, _, ho', hd, h11, h2, h7, h9, h10, hP, rfl, htr, hne⟩
  cases hnf : codeAmong pos ps.toList with
  | none =>
    refine wpAny_genexprCodeX hcode hI' hT' hnf fun c' h' tk hx hge hlt hc' _ ht' _ => ?_
    refine hK _ h' tk ⟨⟨fun b o hb e => hx b o (fun q => hb (q ▸ hX)) e, fun b o e => ?_⟩, ⟨fun b o hb e => ?_, fun b hb => ?_, ?_, W.gens, W.os⟩⟩ (by omega)
    · by_cases hb : b = P
      · exact ⟨_, hb ▸ ht'.2⟩
      · exact ⟨o, hx b o hb e⟩
    · exact hx b o (fun q => hb (q ▸ hX)) (W.base b o hb e)
    · by_cases hbP : b = P
      · subst hbP
        refine ⟨⟨ps ++ #[rawInt pos.line, rawInt pos.col, .ref c'], ?_⟩, ht'.2⟩
        have : (ps ++ #[rawInt pos.line, rawInt pos.col, Value.ref c']).toList = ps.toList ++ [rawInt pos.line, rawInt pos.col, .ref c'] := by simp
        rw [this]; exact TriplesOk_snoc _ _ _ _ htr
      · obtain ⟨ps2, e⟩ := W.tab b hb; exact ⟨ps2, hx b _ hbP e⟩
    · exact W.old.step_table hT hT' ht' hx hPs
  | some cv =>
    unfold genexprCode codeAt
    rw [hcode, if_neg (show ¬ ((Value.ref cd == Value.none) = true) from Bool.false_ne_true)]
    refine wpAny_bind (wpAny_fieldsOf ho' hd ?_)
    rw [h11]
    refine wpAny_bind (wpAny_fieldsOf hP rfl ?_)
    rw [hnf]
    exact wpAny_pure (hK cv s.heap s.toks (Ext.refl W) (Nat.le_refl _))

theorem keepsRefl (s : Shared) : Keeps s s := ⟨s.heap, s.toks, rfl, fun _ _ e => e⟩
theorem pass_all (n : Nat) : passing (fun _ => true) n 0 = List.range n := by unfold passing; simp

/-- all(elt for x in e), the elements looked at without a trace -/
theorem ev_allG {elt e : Expr} {x : Str} {px np pos cp : Pos} {scope : Scope} {ds : List PyData} {k : EK} (C : CxOk c) (BM : BMok c) (HT : CodeTab c f) (B : Bi c "all" (.builtin "all")) (hx : f.env.kindOf "all" = some .globalImplicit) (h : Ev c f ρ e (.list ds) k)
    (cl : List (Str × Addr)) (hclos : closureFor scope f.env = pure cl) (hcell : ∀ y ∈ scope.names, y.2 ≠ .cell) (h0 : scope.names.lookup (".0" : Str) = some NameKind.local) (hxl : scope.names.lookup x = some .local) (hkind : scope.kind = .function) (hco : scope.isCoroutine = false)
    (tr : Nat → Bool)
    (helt : ∀ mo val fp s1, St c f ρ mo val fp s1 → ∀ (L : Addr) (code : Value) (A' : Around) (E' : Value → Shared → Prop) (i : Nat) (v : Value) (t : Shared) (m₂ : Str → Option Value), A'.handled = none → A'.depth ≤ f.A.depth + 1 → A'.units ≤ f.A.units + 8 →
      (∃ d as, ds[i]? = some d ∧ Reads s1.heap v d as) → t.heap.Ns L m₂ → m₂ x = some v → (∀ b o, ¬ c.X b → s1.heap.get? b = some o → t.heap.get? b = some o) →
      wpAny c.M A' (eval elt (genEnv scope cl L code builtinsNs f.env)) (fun y s₃ => y = .bool (tr i) ∧ Keeps t s₃) E' t)
    (hs : ∀ env x, genFold e env x = pure x := by intro _ _; rfl) :
    Ev c f ρ (.Call (.Name "all" np) [.GeneratorExp elt [⟨.Name x px, e, [], 0⟩] scope pos] [] cp) (.bool ((List.range ds.length).all tr)) .fr := by
  intro mo val fp s E S
  refine Call_ (builtin_name C B hx S ?_)
  refine callWith_builtin rfl ?_
  refine evalArgs_plain (spliced_cons ?_)
  have hroom : f.A.depth < recursionLimit := by have := S.ok.room.depth; omega
  refine wpAny_GeneratorExp_walksQD S.ok.room.hand hco hclos hcell h0 hxl hkind hroom (h.bind S fun v s1 as x1 S1 r1 ko => ?_) (hs _)
  cases r1 with | list g1 g2 g3 g4 =>
  rename_i a o vs n bs
  refine wpAny_pyIter_list ⟨_, g1, g2, _, g3⟩ ?_
  have x2 : Ext c s1 { s1 with heap := s1.heap.push { cls := .type "list_iterator", data := .fields #[.ref a, .int 0 0] } } := Ext.push S1.wf _ _
  have hne : a ≠ s1.heap.objs.size := Nat.ne_of_lt (Heap.lt_size g1)
  have hsz : vs.size = ds.length := by simpa using readsAll_length g4
  refine ⟨NoLimit.base x2.wf C, ?_⟩
  refine gen_code x2.wf HT fun code h3 tk3 x3 hsz3 => ?_
  rw [Heap.size_push] at hsz3
  have x13 := x2.trans x3
  obtain ⟨bm, ob, b1, b2, b3, b4, b5, b6, b7⟩ := BM
  refine wpAny_builtinsFor (bm := bm) (o := ob) (by rw [S.ok.glob]; exact Ns.base x3.wf C.g C.gX) b1 b2 (x3.wf.base _ _ b7 b3) b4 b5 b6 ?_
  have hIn := get_size_none s1.heap
  have ltI : ∀ b o, s1.heap.get? b = some o → b ≠ s1.heap.objs.size := fun b o e => Nat.ne_of_lt (Heap.lt_size e)
  have nXI : ¬ c.X s1.heap.objs.size := fun hX => by obtain ⟨ps, q⟩ := S1.wf.tab _ hX; rw [hIn] at q; cases q
  have hI3 : h3.get? s1.heap.objs.size = some { cls := .type "list_iterator", data := .fields #[.ref a, .int 0 0] } := x3.up.kp _ _ nXI (Heap.get?_push_size _ rfl)
  have ha3 : h3.get? a = some o := x13.up.kp a _ (not_tab S1.wf g1 (by rw [g2]; nofun)) g1
  refine ⟨s1.heap.objs.size, [s1.heap.objs.size, a], [s1.heap.objs.size], vs.size, fun i v => vs[i]? = some v, _, fun _ => true, fun i y => y = .bool (tr i), rfl, fun A' hA => Walks.list hA s1.heap.objs.size a hne vs,
    ⟨⟨_, hI3, rfl, rfl⟩, ⟨_, ha3, g2, _, g3⟩⟩, fun b hb => ?_, NoLimit.base x3.wf C, fun hm => ?_, fun href hk => ⟨fun A' E' i v t m₂ hA hD hU hP hn hm hkp => wpAny_pure ⟨rfl, keepsRefl _⟩, fun A' E' i v t m₂ hA hD hU hP _ hn hm hkp => ?_⟩, fun g h5 tk gs hgb hag hsz5 hk5 W hat => ?_⟩
  · rcases List.mem_cons.mp hb with rfl | hb
    · exact Heap.lt_size hI3
    · rw [List.mem_singleton.mp hb]; exact Heap.lt_size ha3
  · obtain ⟨mc, n1, _⟩ := NoLimit.base S1.wf C
    obtain ⟨o2, _, _, e2, _⟩ := n1
    rw [List.mem_singleton.mp hm, hIn] at e2; cases e2
  · refine helt mo val fp s1 S1 _ code A' E' i v t m₂ hA hD hU ?_ hn hm fun b o hb e => ?_
    · have hil : i < vs.size := by
        rcases Nat.lt_or_ge i vs.size with q | q
        · exact q
        · rw [Array.getElem?_eq_none q] at hP; cases hP
      obtain ⟨d, hd⟩ : ∃ d, ds[i]? = some d := ⟨_, List.getElem?_eq_getElem (by omega)⟩
      obtain ⟨v', cs, q1, q2, q3⟩ := readsAll_item g4 hd
      have : v' = v := by
        have h1 : vs.toList[i]? = some v := by simpa using hP
        rw [q1] at h1; exact Option.some.inj h1
      subst this
      exact ⟨d, cs, hd, q2⟩
    · have e3 := x13.up.kp b o hb e
      exact hkp b (List.mem_range.mpr (Heap.lt_size e3)) (fun q => ltI b o e (List.mem_singleton.mp q)) o (hk b o e3)
  · refine spliced_nil ?_
    refine call_all_walkS (W.in4_1.self 0 _ _ _ hat ⟨g, _, _, _, _, _, _, tr, rfl, W.in4_1, hat, fun j y t Q' E' hP hQ => ?_, fun s' hm => ?_⟩)
    · obtain ⟨i, hi, rfl⟩ := hP
      rw [pass_all] at hi
      have : i = j := by
        rw [List.getElem?_eq_some_iff] at hi
        obtain ⟨hl, e⟩ := hi
        simpa using e.symm
      subst this
      exact wpAny_truthy_bool hQ
    · have hle : s1.heap.objs.size < h3.objs.size := Heap.lt_size hI3
      have kp : ∀ b o, b < s1.heap.objs.size → h3.get? b = some o → s'.heap.get? b = some o := fun b o hb e =>
        hm.heap b o (fun q => by
          rcases List.mem_cons.mp q with q | q
          · exact absurd (show b = h3.objs.size from q) (Nat.ne_of_lt (Nat.lt_trans hb hle))
          · exact absurd (List.mem_singleton.mp q) (Nat.ne_of_lt hb)) (hk5 b o e)
      have x4 : Ext c s1 s' := ⟨⟨fun b o hb e => kp b o (Heap.lt_size e) (x13.up.kp b o hb e), fun b o e => let ⟨o', e'⟩ := x13.up.th b o e; ⟨o', kp b o' (Heap.lt_size e) e'⟩⟩,
        ⟨fun b o hb e => kp b o (Heap.lt_size (S1.wf.base b o hb e)) (x3.wf.base b o hb e), fun b hb => ?_, ?_, ?_, ?_⟩⟩
      · refine ⟨x1.trans x4, [], ?_, frNil⟩
        rw [pass_all, List.length_range, hsz]; exact .bool _
      · obtain ⟨ps, e⟩ := x3.wf.tab b hb
        obtain ⟨ps1, e1⟩ := S1.wf.tab b hb
        exact ⟨ps, kp b _ (Heap.lt_size e1) e⟩
      · refine oldK_on x3.wf.old fun b o o' e e' => ?_
        obtain ⟨o1, e1⟩ := S1.wf.old.there b o e
        exact kp b o' (Heap.lt_size e1) e'
      · exact hm.gens.bare (x3.wf.gens.push hgb)
      · exact hm.os.trans x3.wf.os

/-- all(type(x) is T for x in e), where all the items are of that type -/
theorem ev_allTy {e : Expr} {x : Str} {px np pos cp p1 p2 p3 p4 p5 : Pos} {scope : Scope} {ds : List PyData} {k : EK} {tn : Str} {T : String} (C : CxOk c) (BM : BMok c) (HT : CodeTab c f) (B : Bi c "all" (.builtin "all")) (Bt : Bi c "type" (.type "type")) (BT : Bi c tn (.type T)) (hx : f.env.kindOf "all" = some .globalImplicit)
    (h : Ev c f ρ e (.list ds) k) (hds : ∀ d ∈ ds, typeNm d = T)
    (cl : List (Str × Addr)) (hclos : closureFor scope f.env = pure cl) (hcell : ∀ y ∈ scope.names, y.2 ≠ .cell) (h0 : scope.names.lookup (".0" : Str) = some NameKind.local) (hxl : scope.names.lookup x = some .local) (hkind : scope.kind = .function) (hco : scope.isCoroutine = false)
    (ht : scope.names.lookup ("type" : Str) = some .globalImplicit) (hT : scope.names.lookup tn = some .globalImplicit)
    (hs : ∀ env x, genFold e env x = pure x := by intro _ _; rfl) (hdx : (x == ("__debug__" : Str)) = false := by decide +kernel) (hdt : (tn == ("__debug__" : Str)) = false := by decide +kernel) :
    Ev c f ρ (.Call (.Name "all" np) [.GeneratorExp (.Compare (.Call (.Name "type" p1) [.Name x p2] [] p3) [.Is] [.Name tn p4] p5) [⟨.Name x px, e, [], 0⟩] scope pos] [] cp) (.bool true) .fr := by
  refine Ev.cast (ev_allG C BM HT B hx h cl hclos hcell h0 hxl hkind hco (fun _ => true) ?_ hs) (by simp)
  intro mo val fp s1 S1 L code A' E' i v t m₂ hA hD hU hP hn hm hk
  obtain ⟨d, as, hd, r⟩ := hP
  have rt : Reads t.heap v d as := reads_upon r (fun a ha o e p => hk a o (not_tab S1.wf e (plainish_cls p)) e) (fun a o e p _ => hk a o (not_tab S1.wf e (by rw [p]; nofun)) e)
  have ng : t.heap.Ns mainGlobals c.mg := by
    obtain ⟨o, es, ep, ho, q⟩ := Ns.base S1.wf C.g C.gX
    exact ⟨o, es, ep, hk _ o C.gX ho, q⟩
  have nb : t.heap.Ns builtinsNs c.mb := by
    obtain ⟨o, es, ep, ho, q⟩ := Ns.base S1.wf C.b C.bX
    exact ⟨o, es, ep, hk _ o C.bX ho, q⟩
  have hgl : (genEnv scope cl L code builtinsNs f.env).globals = mainGlobals := S1.ok.glob
  refine wpAny_Compare1 ?_ (by rfl)
  refine Call_ (Name_function_global hkind ht (loadGlobal_builtin (mg := c.mg) (mb := c.mb) (by rw [hgl]; exact ng) Bt.no nb ((C.builtins _ Bt.ne).trans Bt.is) ?_) (by decide +kernel))
  refine PySem.callWith_type rfl ?_
  refine evalArgs_plain (spliced_cons (wpAny_Name (wpAny_loadName_local hkind hxl hn hm (spliced_nil ?_)) hdx))
  refine call_type_of (typeIs_reads rt) typeNm_nb ?_
  refine Name_function_global hkind hT (loadGlobal_builtin (mg := c.mg) (mb := c.mb) (by rw [hgl]; exact ng) BT.no nb ((C.builtins _ BT.ne).trans BT.is) ?_) hdt
  refine wpAny_is_plain rfl ⟨?_, keepsRefl _⟩
  rw [hds d (List.mem_of_getElem? hd)]; simp
end
end Mine

namespace Mine
open PySem PySem.Spec PySem.Calls PyProof.Rows

theorem slicePick_rev (items : Array Value) : slicePick items none none (some (-1)) = items.reverse := by
  unfold slicePick
  have e : sliceRange (sliceBounds none none (some (-1)) items.size).1 (sliceBounds none none (some (-1)) items.size).2.1 (sliceBounds none none (some (-1)) items.size).2.2 = (List.range items.size).map fun k => items.size - 1 - k := by
    simp only [sliceBounds, sliceRange]
    simp only [show ¬ ((-1 : Int) > 0) by decide, if_false, Option.getD_some]
    have h : (if ((items.size : Int) - 1 > -1) then ((items.size : Int) - 1 - -1 - -1 - 1) / (- -1) else 0).toNat = items.size := by
      rw [show (-(-1 : Int)) = 1 from rfl, Int.ediv_one]; split <;> omega
    rw [h]
    exact List.map_congr_left fun k hk => by have := List.mem_range.mp hk; omega
  rw [e]
  apply Array.ext_getElem?
  intro i
  have hall : (List.filterMap (fun x => items[x]?) ((List.range items.size).map fun k => items.size - 1 - k)) = (List.range items.size).map fun k => items.getD (items.size - 1 - k) .none := by
    rw [List.filterMap_map]
    have : ∀ l : List Nat, (∀ k ∈ l, k < items.size) → List.filterMap ((fun x => items[x]?) ∘ fun k => items.size - 1 - k) l = l.map fun k => items.getD (items.size - 1 - k) .none := by
      intro l
      induction l with
      | nil => intro _; rfl
      | cons k l ih =>
        intro h
        have hk := h k (List.mem_cons_self ..)
        have hlt : items.size - 1 - k < items.size := by omega
        rw [List.filterMap_cons, List.map_cons, ih fun x hx => h x (List.mem_cons_of_mem _ hx)]
        simp only [Function.comp, Array.getElem?_eq_getElem hlt]
        rw [Array.getD_eq_getD_getElem?, Array.getElem?_eq_getElem hlt]; rfl
    exact this _ fun k hk => List.mem_range.mp hk
  rw [hall]
  by_cases hi : i < items.size
  · have hlt : items.size - 1 - i < items.size := by omega
    rw [List.getElem?_toArray, List.getElem?_map, List.getElem?_range hi, Array.getElem?_reverse hi, Option.map_some, Array.getD_eq_getD_getElem?, Array.getElem?_eq_getElem hlt]; rfl
  · rw [List.getElem?_toArray, List.getElem?_eq_none (by simp; omega), Array.getElem?_eq_none (by simp; omega)]

theorem ra_erase {h : Heap} : ∀ {vs : List Value} {ds : List PyData} {as : List Addr} {k : Nat}, ReadsAll h vs ds as → flats ds = true → ReadsAll h (vs.eraseIdx k) (ds.eraseIdx k) []
  | _, _, _, _, .nil, _ => .nil
  | _, _, _, 0, .cons h1 h2, hf => by
    obtain ⟨f1, f2⟩ := Bool.and_eq_true_iff.mp hf
    have := readsAll_flat h2 f2; subst this; exact h2
  | _, _, _, k + 1, .cons h1 h2, hf => by
    obtain ⟨f1, f2⟩ := Bool.and_eq_true_iff.mp hf
    have e := reads_flat h1 f1; subst e
    exact .cons (as := []) (bs := []) h1 (ra_erase h2 f2)
theorem erase_last {α : Type} (xs : List α) (x : α) : (xs ++ [x]).eraseIdx xs.length = xs := by
  rw [List.eraseIdx_append_of_length_le (Nat.le_refl _)]; simp
theorem flats_mem {xs : List PyData} {d : PyData} (h : flats xs = true) (hd : d ∈ xs) : flat d = true := by
  induction xs with
  | nil => cases hd
  | cons x xs ih =>
    obtain ⟨f1, f2⟩ := Bool.and_eq_true_iff.mp h
    rcases List.mem_cons.mp hd with rfl | hd
    · exact f1
    · exact ih f2 hd

section
variable {c : Cx} {f : Fm} {ρ ρ1 ρ2 : Rho} {mo : Addr → Prop} {val : Nat → Value} {fp : Nat → List Addr} {s : Shared} {E : Value → Shared → Prop}
  {Q : Fl → Rho → Prop} {rest : List Stmt} {e ei l : Expr} {d : PyData} {k k2 : EK} {pos xp yp ap cp sp : Pos} {x y : Str} {i j : Nat} {xs : List PyData} {sk : K}

/-- e[::-1], a list of flat items -/
theorem ev_rev {n : Nat} {ip up : Pos} (h : Ev c f ρ l (.list xs) k) (hf : flats xs = true) (hsz : xs.length ≤ sizeLine) : Ev c f ρ (.Subscript l (.Slice none none (some (.UnaryOp .USub (.Constant (.int 1) n ip) up)) sp) pos) (.list xs.reverse) .fr := by
  intro mo val fp s E S
  refine Subscript_ (h.bind S fun v s1 as x1 S1 r1 _ => wpAny_Slice (wpAny_evalPart_none (wpAny_evalPart_none (wpAny_evalPart_some ((ev_neg (c := c) (f := f) (ρ := ρ) ev_int).bind S1 fun vst s3 as3 x3 S3 r3 _ => ?_)))))
  cases r3
  have r3 := x3.reads S1.wf r1
  cases r3 with | list g1 g2 g3 g4 =>
  rename_i a o vs m bs _
  have hl : vs.size = xs.length := by simpa using readsAll_length g4
  have hL : s3.heap.IsList a vs := ⟨_, g1, g2, _, g3⟩
  refine tail_any (T := "list") (ops := [_, _]) (hL.push _).typeIs list_getitem_lookup (wpAny_getItem_list_slice (hL.push _) (Heap.IsSliceOf.new ..) .none .none (.int _ _) (by decide) ?_ (by omega)) rfl
  rw [Heap.size_push]
  have y1 : ∀ q, Ext c s3 { s3 with heap := s3.heap.push { cls := .type "slice", data := .fields q } } := fun q => Ext.push S3.wf _ _
  have y2 := fun q => (y1 q).trans (Ext.push (y1 q).wf { cls := .type "list", data := .seq (slicePick vs none none (some (-1))) } s3.toks)
  refine ⟨(x1.trans x3).trans (y2 _), [s3.heap.objs.size + 1], ?_, frOk S (by simp) (fun b hb => ?_) fun b hb => ?_⟩
  · have e5 : ∀ q, s3.heap.objs.size + 1 = (s3.heap.push { cls := .type "slice", data := .fields q }).objs.size := fun q => (Heap.size_push ..).symm
    rw [e5]
    refine .list (Heap.get?_push_size _ rfl) rfl rfl ?_
    refine (y2 _).readsAll S3.wf ?_
    rw [slicePick_rev, Array.toList_reverse]
    exact ra_rev g4 hf
  · rw [List.mem_singleton.mp hb]; exact (x1.trans x3).up.none ((y1 #[]).up.none (by rw [← Heap.size_push]; exact get_size_none _))
  · rw [List.mem_singleton.mp hb]; exact ⟨_, by rw [← Heap.size_push]; exact Heap.get?_push_size _ rfl, .inl ⟨rfl, _, _, rfl⟩, rfl, rfl⟩

theorem isL_erase {h : Heap} {a : Addr} {vs : Array Value} {n m : Nat} {h' : Heap} (hs : h'.get? a = some { cls := .type "list", data := .seq (vs.toList.eraseIdx m).toArray (n + 1) }) : IsL h' a (vs.toList.eraseIdx m).toArray (n + 1) := hs

/-- del x[j], of a list of flat items -/
theorem s_del {jj : Int} (FS : FmS c f) (hat : At f.xs ρ x ⟨.ow, .list xs⟩ i) (hi : Ev c f ρ ei (.int jj) k2) (hf : flats xs = true) (h0 : 0 ≤ jj) (hlt : jj.toNat < xs.length) (hsz : xs.length ≤ sizeLine)
    (hU : Upd f.xs ρ x (some ⟨.ow, .list (xs.eraseIdx jj.toNat)⟩) ρ1 i) (hQ : Ex c f rest ρ1 Q)
    (hdb : (x == ("__debug__" : Str)) = false := by decide +kernel) (hn : (x == ("__classdict__" : Str)) = false := by decide +kernel) :
    Ex c f (.Delete [.Subscript (.Name x xp) ei sp] pos :: rest) ρ Q := by
  obtain ⟨h1, h2, rfl⟩ := hU.get
  refine ex_cons fun mo val fp s S => ?_
  refine wpAny_Delete (wpAny_deleteEach_cons (wpAny_delete_Subscript (name_step S hat (fun _ => hi.bind S fun iv s3 as3 x3 S3 r3 _ => ?_) hdb hn)))
  have e0 := hat.slot
  obtain ⟨a, vs, n, as, hva, hfp, hl, hr, hma⟩ := owned_list S3 e0
  have has : as = [] := readsAll_flat hr hf
  subst has
  cases r3
  rw [hva]
  have hlen : vs.size = xs.length := by simpa using readsAll_length hr
  have hbig : sizeLine < 2 ^ 62 := by decide +kernel
  refine delItem_at (k := jj.toNat) hl (fitsIndex_of h0 (by omega)) (by
    unfold seqIndex?
    have e1 : ¬ (jj < 0) := by omega
    have e2 : jj < (vs.size : Int) := by omega
    simp [e1, h0, e2]) (fun h' hsb ho' => wpAny_deleteEach_nil ?_) (by omega)
  have hr2 := readsAll_but hsb (isL_notTup hl) (by simp) hr
  refine mut0 (tk := s3.toks) FS S x3 e0 (by rw [hfp]; exact List.mem_cons_self ..) hsb (Pl.of_isL ho') ?_ hQ
  rw [hva, hfp]
  exact .list ho' rfl rfl (ra_erase hr2 hf)

/-- x = y.pop(), of a list of flat items -/
theorem s_pop (FS : FmS c f) (hat : At f.xs ρ y ⟨.ow, .list (xs ++ [d])⟩ i) (hf : flats (xs ++ [d]) = true) (hsz : xs.length + 1 ≤ sizeLine)
    (hU1 : Upd f.xs ρ y (some ⟨.ow, .list xs⟩) ρ1 i) (hU2 : Upd f.xs ρ1 x (some ⟨.lo, d⟩) ρ2 j) (hQ : Ex c f rest ρ2 Q)
    (hd : (y == ("__debug__" : Str)) = false := by decide +kernel) (hn : (y == ("__classdict__" : Str)) = false := by decide +kernel)
    (hbase : ∀ env, attributeBase (.Name y yp) "pop" env (eval (.Name y yp) env) = eval (.Name y yp) env := by intro _; rfl) (hline : (ap.endLine == cp.line) = true := by rfl)
    (hs : ∀ env, swapsWith (.Call (.Attribute (.Name y yp) "pop" ap) [] [] cp) (some (.Name x xp)) pos.line env = pure false := by intro _; rfl) :
    Ex c f (.Assign [.Name x xp] (.Call (.Attribute (.Name y yp) "pop" ap) [] [] cp) pos :: rest) ρ Q := by
  obtain ⟨hx1, hi1, rfl⟩ := hU1.get
  obtain ⟨hx2, hi2, rfl⟩ := hU2.get
  refine ex_cons fun mo val fp s S => ?_
  refine wpAny_Assign_Name ?_ (hs _)
  refine wpAny_Call_method0_late (hbase _) hline (name_step S hat (fun _ => ?_) hd hn)
  have e0 := hat.slot
  obtain ⟨a, vs, n, as, hv, hfp, hl, hr, hma⟩ := owned_list S e0
  have has : as = [] := readsAll_flat hr hf
  subst has
  rw [hv]
  refine ⟨"list", "list.pop", F.plainAttrs_list, F.slot_list_pop, F.type_list_pop, ⟨_, hl, rfl⟩, fun a' q => by cases q; exact ⟨_, hl, rfl⟩, ?_⟩
  have hlen : vs.size = xs.length + 1 := by simpa using readsAll_length hr
  have hlast : (xs ++ [d])[xs.length]? = some d := by simp
  obtain ⟨v, bs, q1, q2, q3⟩ := readsAll_item hr hlast
  have hbs : bs = [] := List.eq_nil_of_subset_nil q3.subset
  subst hbs
  refine P.pop_list hl (y := v) (by rw [hlen, Nat.add_sub_cancel, ← Array.getElem?_toList]; exact q1) ?_ (by omega)
  have hsb : Heap.SameBut a s.heap (s.heap.update a (Obj.mapSeq fun xs => xs.eraseIdxIfInBounds (vs.size - 1))) := sameBut_update ..
  have ho' : (s.heap.update a (Obj.mapSeq fun xs => xs.eraseIdxIfInBounds (vs.size - 1))).get? a = some { cls := .type "list", data := .seq (vs.toList.eraseIdx (vs.size - 1)).toArray (n + 1) } := by
    rw [Heap.get?_update_self _ hl (by rw [mapSeq_erase _ _ _ (by omega)]; rfl), mapSeq_erase _ _ _ (by omega)]
  have hr2 := readsAll_but hsb (isL_notTup hl) (by simp) hr
  have rd : Reads (s.heap.update a (Obj.mapSeq fun xs => xs.eraseIdxIfInBounds (vs.size - 1))) (val i) (.list xs) (fp i) := by
    rw [hv, hfp]
    refine .list ho' rfl rfl ?_
    have := ra_erase (k := vs.size - 1) hr2 hf
    rw [hlen, Nat.add_sub_cancel, erase_last] at this
    rw [hlen, Nat.add_sub_cancel]; exact this
  have M := S.mut (tk := s.toks) (as' := fp i) (extra := []) FS e0 (by rw [hfp]; exact List.mem_cons_self ..) hsb (Pl.of_isL ho') rd (S.own i _ e0 rfl).1 (fun a ha => .inl ha) nofun (fun _ _ _ _ _ _ h => by cases h) nofun
  have q2' : Reads (s.heap.update a (Obj.mapSeq fun xs => xs.eraseIdxIfInBounds (vs.size - 1))) v d [] := reads_but hsb (isL_notTup hl) (by simp) q2
  refine store_step (sl := ⟨.lo, d⟩) FS M.1 hx2 hi2 q2' (by simp) (slotOk_of (show K.lo ≠ K.ow by decide) nofun (fun _ => nofun)) fun s4 S4 hk4 th4 => ?_
  refine ⟨.next, _, _, _, _, trivial, S4, ⟨fun b o g1 g2 g3 q => hk4 b o g2 (M.2.1 b o g3 q), fun b o q => ?_, fun b q => ?_⟩, hQ⟩
  · obtain ⟨o2, e2⟩ := M.2.2 b o q
    exact th4 b o2 e2
  · rcases moWith_not (show K.lo ≠ K.ow by decide) q with q | q
    · exact .inl q
    · cases q
end
end Mine

namespace Mine
open PySem PySem.Spec PySem.Calls PyProof.Rows

/-! dicts from tuples of ints to ints -/
abbrev dD (ps : List (List Int × Int)) : PyData := .dict (ps.map fun p => (.tuple (p.1.map .int), .int p.2))
def dfind (ps : List (List Int × Int)) (k : List Int) : Option Int := (ps.find? fun p => decide (p.1 = k)).map (·.2)
def dput (ps : List (List Int × Int)) (k : List Int) (v : Int) : List (List Int × Int) := if (dfind ps k).isSome then ps.map (fun p => if p.1 = k then (p.1, v) else p) else ps ++ [(k, v)]
theorem ints_inj : ∀ {a b : List Int}, a.map PyData.int = b.map PyData.int → a = b
  | [], [], _ => rfl
  | [], _ :: _, h => by cases h
  | _ :: _, [], h => by cases h
  | x :: a, y :: b, h => by
    rw [List.map_cons, List.map_cons] at h
    injection h with h1 h2
    injection h1 with h1
    rw [h1, ints_inj h2]
theorem dD_inj : ∀ {a b : List (List Int × Int)}, (a.map fun p => ((PyData.tuple (p.1.map .int), PyData.int p.2) : PyData × PyData)) = (b.map fun p => (.tuple (p.1.map .int), .int p.2)) → a = b
  | [], [], _ => rfl
  | [], _ :: _, h => by cases h
  | _ :: _, [], h => by cases h
  | (k, x) :: a, (l, y) :: b, h => by
    rw [List.map_cons, List.map_cons] at h
    injection h with h1 h2
    injection h1 with h3 h4
    injection h3 with h3
    injection h4 with h4
    have h3 := ints_inj h3
    simp only at h3 h4
    rw [h3, h4, dD_inj h2]
theorem reads_dict {h : Heap} {v : Value} {ps : List (List Int × Int)} {as : List Addr} (r : Reads h v (dD ps) as) :
    ∃ a xs, v = .ref a ∧ as = [a] ∧ (a == sysModules) = false ∧ (∀ prog w, h.DictOfH (tupleKind (intKind prog w)) a xs) ∧ xs.map (·.1) = ps.map (·.1) ∧ (∀ (j : Nat) x p, xs[j]? = some x → ps[j]? = some p → ∃ t, x.2.2 = .int p.2 t) := by
  generalize hd : dD ps = d at r
  cases r with
  | dict k1 k2 k3 h0 h1 h2 h3 =>
    injection hd with hd
    have := dD_inj hd
    subst this
    exact ⟨_, _, rfl, rfl, h0, h1, h2, h3⟩
  | dictL k1 k2 k3 h0 h1 h2 h3 =>
    injection hd with hd
    rename_i kvs ps' as'
    cases ps with
    | cons q qs =>
      cases ps' with
      | nil => cases hd
      | cons q' qs' =>
        rw [List.map_cons, List.map_cons] at hd
        injection hd with hd _
        injection hd with hd _
        cases hd
    | nil =>
      cases ps' with
      | cons q' qs' => cases hd
      | nil =>
        cases kvs with
        | cons _ _ => cases h2
        | nil =>
          cases h3
          refine ⟨_, [], rfl, rfl, h0, fun prog w => ?_, rfl, fun j x p h => by simp at h⟩
          obtain ⟨o, es, ep, g1, g2, g3, g4, g5, g6⟩ := h1 prog w
          refine ⟨o, es, ep, g1, g2, g3, ?_, nofun, .nil⟩
          generalize es.toList = l at g5
          cases g5; rfl
  | flt b t =>
    injection hd with hd
    cases ps with
    | nil => cases hd
    | cons q qs =>
      rw [List.map_cons] at hd
      injection hd with hd _
      injection hd with hd _
      cases hd
  | _ => cases hd
theorem items_of {h : Heap} {prog : Program} {w : World} : ∀ {ks : List Int} {vs : List Value} {as : List Addr}, ReadsAll h vs (ks.map .int) as → ItemsAre (intKind prog w) ks vs
  | [], _, _, r => by cases r; exact .nil
  | k :: ks, _, _, r => by
    cases r with | cons r1 r2 => cases r1 with | int i t => exact .cons (show Value.isInt k (.int k t) = true by simp [Value.isInt]) (items_of r2)
theorem key_of {h : Heap} {prog : Program} {w : World} {v : Value} {ks : List Int} {as : List Addr} (r : Reads h v (.tuple (ks.map .int)) as) : ∃ b, v = .ref b ∧ (tupleKind (intKind prog w)).is h ks b := by
  cases r with | tuple g1 g2 g3 g4 => exact ⟨_, rfl, _, _, _, g1, g2, g3, items_of g4⟩
theorem items_conv {prog prog' : Program} {w w' : World} : ∀ {ks : List Int} {vs : List Value}, ItemsAre (intKind prog w) ks vs → ItemsAre (intKind prog' w') ks vs
  | _, _, .nil => .nil
  | _, _, .cons h1 h2 => .cons h1 (items_conv h2)
theorem dict_conv {h : Heap} {a : Addr} {xs : List (List Int × Addr × Value)} {prog : Program} {w : World} (x : h.DictOfH (tupleKind (intKind prog w)) a xs) (prog' : Program) (w' : World) : h.DictOfH (tupleKind (intKind prog' w')) a xs := by
  obtain ⟨o, es, ep, g1, g2, g3, g4, g5, g6⟩ := x
  refine ⟨o, es, ep, g1, g2, g3, g4, fun y hy => ?_, g6⟩
  obtain ⟨o', items, n, k1, k2, k3, k4⟩ := g5 y hy
  exact ⟨o', items, n, k1, k2, k3, items_conv k4⟩
theorem at_find : ∀ {xs : List (List Int × Addr × Value)} {ps : List (List Int × Int)}, xs.map (·.1) = ps.map (·.1) → (∀ (j : Nat) x p, xs[j]? = some x → ps[j]? = some p → ∃ t, x.2.2 = .int p.2 t) → ∀ k,
    (atKey xs k = none ∧ dfind ps k = none) ∨ ∃ q i t, atKey xs k = some q ∧ dfind ps k = some i ∧ q.2 = .int i t
  | [], [], _, _, k => .inl ⟨rfl, rfl⟩
  | [], _ :: _, h, _, _ => by cases h
  | _ :: _, [], h, _, _ => by cases h
  | x :: xs, p :: ps, h, hv, k => by
    rw [List.map_cons, List.map_cons] at h
    injection h with h1 h2
    by_cases q : x.1 = k
    · obtain ⟨t, e⟩ := hv 0 x p rfl rfl
      refine .inr ⟨x.2, p.2, t, by simp [atKey, q], by simp [dfind, ← h1, q], e⟩
    · have := at_find h2 (fun j y r a b => hv (j + 1) y r (by simpa using a) (by simpa using b)) k
      have e1 : atKey (x :: xs) k = atKey xs k := by simp [atKey, q]
      have e2 : dfind (p :: ps) k = dfind ps k := by simp [dfind, ← h1, q]
      rw [e1, e2]; exact this
theorem put_rel {xs : List (List Int × Addr × Value)} {ps : List (List Int × Int)} (h2 : xs.map (·.1) = ps.map (·.1)) (h3 : ∀ (j : Nat) x p, xs[j]? = some x → ps[j]? = some p → ∃ t, x.2.2 = .int p.2 t) (k : List Int) (a : Addr) (i : Int) (t : Tok) :
    (storedH xs k a (.int i t)).map (·.1) = (dput ps k i).map (·.1) ∧ ∀ (j : Nat) x p, (storedH xs k a (.int i t))[j]? = some x → (dput ps k i)[j]? = some p → ∃ t, x.2.2 = .int p.2 t := by
  unfold storedH dput
  rcases at_find h2 h3 k with ⟨e1, e2⟩ | ⟨q, i', t', e1, e2, _⟩
  · rw [e1, e2]
    simp only [Option.isSome_none, Bool.false_eq_true, if_false]
    refine ⟨by rw [List.map_append, List.map_append, h2]; rfl, fun j x p hx hp => ?_⟩
    have hl : xs.length = ps.length := by have := congrArg List.length h2; simpa using this
    by_cases q : j < xs.length
    · rw [List.getElem?_append_left q] at hx
      rw [List.getElem?_append_left (by omega)] at hp
      exact h3 j x p hx hp
    · rw [List.getElem?_append_right (by omega)] at hx
      rw [List.getElem?_append_right (by omega)] at hp
      have ej : j - xs.length = 0 := by
        rcases Nat.eq_zero_or_pos (j - xs.length) with r | r
        · exact r
        · rw [List.getElem?_eq_none (by show 1 ≤ _; omega)] at hx; cases hx
      rw [ej] at hx
      rw [← hl, ej] at hp
      cases hx; cases hp
      exact ⟨t, rfl⟩
  · rw [e1, e2]
    simp only [Option.isSome_some, if_true]
    refine ⟨?_, fun j x p hx hp => ?_⟩
    · rw [keys_map_putAt, List.map_map, h2]
      refine List.map_congr_left fun p _ => ?_
      simp only [Function.comp]; split <;> rfl
    · rw [List.getElem?_map] at hx hp
      cases hx' : xs[j]? with
      | none => rw [hx'] at hx; cases hx
      | some x' =>
        cases hp' : ps[j]? with
        | none => rw [hp'] at hp; cases hp
        | some p' =>
          rw [hx'] at hx; rw [hp'] at hp
          cases hx; cases hp
          have hk : x'.1 = p'.1 := by
            have a1 : (xs.map (·.1))[j]? = some x'.1 := by rw [List.getElem?_map, hx']; rfl
            have a2 : (ps.map (·.1))[j]? = some p'.1 := by rw [List.getElem?_map, hp']; rfl
            rw [h2, a2] at a1; exact (Option.some.inj a1).symm
          unfold putAt
          by_cases r : x'.1 = k
          · have e : (fun p : List Int × Int => if p.1 = k then (p.1, i) else p) p' = (p'.1, i) := if_pos (hk ▸ r)
            rw [if_pos r, e]; exact ⟨t, rfl⟩
          · have e : (fun p : List Int × Int => if p.1 = k then (p.1, i) else p) p' = p' := if_neg (hk ▸ r)
            rw [if_neg r, e]; exact h3 j x' p' hx' hp'

section
variable {c : Cx} {f : Fm} {ρ ρ1 : Rho} {mo : Addr → Prop} {val : Nat → Value} {fp : Nat → List Addr} {s : Shared} {E : Value → Shared → Prop}
  {Q : Fl → Rho → Prop} {rest : List Stmt} {e ei l r : Expr} {k k1 k2 : EK} {pos xp sp : Pos} {x : Str} {i : Nat} {ps : List (List Int × Int)} {ks : List Int}

theorem room_in1 {n : Nat} {A : Around} (R : Room n A) : (tupleKind (intKind c.prog c.w)).room A.in1 := tupleKind_room_in1 (by have := R.units; omega)

/-- {} -/
theorem ev_dict0 (C : CxOk c) : Ev c f ρ (.Dict [] [] pos) (dD []) .fr := fun mo val fp s E S => by
  refine wpAny_Dict_empty ?_
  have hg := Ns.base S.wf C.g C.gX
  have hlt : mainGlobals < s.heap.objs.size := hg.lt
  have x1 : Ext c s { s with heap := s.heap.push { cls := .type "dict", data := .dict #[] } } := Ext.push S.wf _ _
  refine ⟨x1, [s.heap.objs.size], ?_, frOk S (by simp) (fun b hb => ?_) (fun b hb => ?_)⟩
  · refine Reads.dict (xs := []) (ps := []) (Heap.get?_push_size _ rfl) rfl rfl ?_ (fun prog w => Heap.DictOfH.new _) rfl nofun
    have : sysModules ≤ mainGlobals := by decide +kernel
    exact beq_eq_false_iff_ne.mpr fun q => by
      have : s.heap.objs.size ≤ mainGlobals := by rw [show s.heap.objs.size = sysModules from q]; exact this
      exact absurd hlt (Nat.not_lt.mpr this)
  · rw [List.mem_singleton.mp hb]; exact get_size_none _
  · rw [List.mem_singleton.mp hb]; exact ⟨_, Heap.get?_push_size _ rfl, .inr ⟨rfl, _, _, rfl⟩, rfl, rfl⟩

/-- x[key] = e -/
theorem s_dset {v : Int} (FS : FmS c f) (hat : At f.xs ρ x ⟨.ow, dD ps⟩ i) (hv : Ev c f ρ e (.int v) k) (hi : Ev c f ρ ei (.tuple (ks.map .int)) k2) (hsz : ps.length ≤ sizeLine)
    (hU : Upd f.xs ρ x (some ⟨.ow, dD (dput ps ks v)⟩) ρ1 i) (hQ : Ex c f rest ρ1 Q)
    (hdb : (x == ("__debug__" : Str)) = false := by decide +kernel) (hn : (x == ("__classdict__" : Str)) = false := by decide +kernel)
    (hs : ∀ env, swapsWith e (some (.Subscript (.Name x xp) ei sp)) pos.line env = pure false := by intro _; rfl) : Ex c f (.Assign [.Subscript (.Name x xp) ei sp] e pos :: rest) ρ Q := by
  obtain ⟨h1, h2, rfl⟩ := hU.get
  refine ex_cons fun mo val fp s S => ?_
  refine wpAny_Assign_Subscript (hv.bind S fun v1 s1 as1 x1 S1 r1 _ => name_step S1 hat (fun _ => hi.bind S1 fun iv s3 as3 x3 S3 r3 _ => ?_) hdb hn) (hs _)
  have e0 := hat.slot
  obtain ⟨_, _, _, rd⟩ := S3.var i _ e0
  obtain ⟨a, xs, hva, hfp, hsm, hm, hk2, hk3⟩ := reads_dict rd
  obtain ⟨b, rfl, hkey⟩ := key_of (prog := c.prog) (w := c.w) r3
  cases r1 with | int _ t =>
  rw [hva]
  have hl : xs.length = ps.length := by have := congrArg List.length hk2; simpa using this
  refine wpAny_setItem_heap (room_in1 S.ok.room) hkey (hm _ _) (fun h' hD hsb => ?_) (by omega)
  obtain ⟨p1, p2⟩ := put_rel hk2 hk3 ks b v t
  obtain ⟨o, es, ep, g1, g2, g3, g4, g5, g6⟩ := id hD
  have rd' : Reads h' (val i) (dD (dput ps ks v)) (fp i) := by
    rw [hva, hfp]
    exact .dict g1 g2.1 g3 hsm (fun prog w => dict_conv hD prog w) p1 p2
  have hb : a ∈ fp i := by rw [hfp]; simp
  have := (S3.mut (tk := s3.toks + (tupleKind (intKind c.prog c.w)).draws ks) (as' := fp i) (extra := []) FS e0 hb hsb ⟨o, g1, .inr ⟨g2.1, _, _, g3⟩, g2.2.1, g2.2.2⟩ rd' (S3.own i _ e0 rfl).1 (fun a ha => .inl ha) nofun (fun _ _ _ _ _ _ h => by cases h) nofun)
  have x13 := x1.trans x3
  exact ⟨.next, _, _, _, _, trivial, this.1, ⟨fun b o h1 h2 h3 q => this.2.1 b o h3 (x13.up.kp b o h1 q), fun b o q => let ⟨o', q'⟩ := x13.up.th b o q; this.2.2 b o' q', fun b h => h.elim .inl (fun q => by cases q)⟩, hQ⟩

theorem contains_dict {A : Around} {d b : Addr} {xs : List (List Int × Addr × Value)} {K : Bool → Shared → Prop} {n : Nat} (R : Room n A) (hkey : (tupleKind (intKind c.prog c.w)).is s.heap ks b) (hd : (d == sysModules) = false) (hm : s.heap.DictOfH (tupleKind (intKind c.prog c.w)) d xs)
    (h : K (atKey xs ks).isSome { s with toks := s.toks + (tupleKind (intKind c.prog c.w)).draws ks }) : wpAny c.M A (contains (.ref d) (.ref b)) K E s := by
  unfold contains
  try with_reducible refine wpAny_holding ?_
  refine wpAny_bind (wpAny_specialOf hm.typeIs slot_dict_contains.lookup ?_)
  show wpAny _ _ (if (some (Value.builtin "dict.__contains__") == some Value.none) = true then _ else _) _ E s
  rw [if_neg (by rw [beq_builtin_none]; exact Bool.false_ne_true)]
  refine wpAny_bind (wpAny_callSpecialUnlessNone?_slot (name := Str.ofString "__contains__") hm.typeIs slot_dict_contains
    (wpAny_call_entry slot_dict_contains hm.typeIs entry_dict_contains ?_ (args_dict_contains _ _)))
  show wpAny _ _ (dictGet d (.ref b) >>= _) _ _ s
  refine wpAny_bind (wpAny_dictGet_heap (room_in1 R) hkey hm ?_)
  cases hf : atKey xs ks with
  | some p =>
    rw [hf] at h
    show wpAny _ _ (ret (.bool true)) _ _ _
    exact wpAny_pure ⟨_, rfl, wpAny_truthy_bool h⟩
  | none =>
    rw [hf] at h
    show wpAny _ _ (Builtin.Dict.pendingKey? d (.ref b) >>= _) _ _ _
    exact wpAny_bind (wpAny_pendingKey_other hd (wpAny_pure ⟨_, rfl, wpAny_truthy_bool h⟩))

/-- key not in dict -/
theorem tst_dnotin (h1 : Ev c f ρ l (.tuple (ks.map .int)) k1) (h2 : Ev c f ρ r (dD ps) k2) (hm : behindInMarks .NotIn r = false := by with_unfolding_all rfl) :
    Tst c f ρ (.Compare l [.NotIn] [r] pos) (!(dfind ps ks).isSome) := by
  intro mo val fp s E S
  refine wpAny_isTrue_Compare1 (h1.bind S fun v1 s1 as1 x1 S1 r1 _ => h2.bind S1 fun v2 s2 as2 x2 S2 r2 _ => ?_) hm
  obtain ⟨b, rfl, hkey⟩ := key_of (prog := c.prog) (w := c.w) (x2.reads S1.wf r1)
  obtain ⟨a, xs, rfl, _, hsm, hm, hk2, hk3⟩ := reads_dict r2
  show wpAny _ _ (do return Value.bool (!(← contains (.ref a) (.ref b)))) _ _ _
  refine wpAny_bind (contains_dict S.ok.room hkey hsm (hm _ _) (wpAny_pure (wpAny_truthy_bool ⟨?_, (x1.trans x2).trans (Ext.toks x2.wf _)⟩)))
  rcases at_find hk2 hk3 ks with ⟨e1, e2⟩ | ⟨q, i', t', e1, e2, _⟩ <;> rw [e1, e2] <;> rfl
/-- dict[key] -/
theorem ev_dget {v : Int} (h1 : Ev c f ρ l (dD ps) k1) (h2 : Ev c f ρ r (.tuple (ks.map .int)) k2) (hv : dfind ps ks = some v) (hs : ∀ o i, subscripted r false o i = operate [o, i] (getItem o i) := by intros; rfl) : Ev c f ρ (.Subscript l r pos) (.int v) .fr := by
  intro mo val fp s E S
  refine Subscript_ (h1.bind S fun v1 s1 as1 x1 S1 r1 _ => h2.bind S1 fun v2 s2 as2 x2 S2 r2 _ => ?_)
  obtain ⟨b, rfl, hkey⟩ := key_of (prog := c.prog) (w := c.w) r2
  obtain ⟨a, xs, rfl, _, hsm, hm, hk2, hk3⟩ := reads_dict (x2.reads S1.wf r1)
  rcases at_find hk2 hk3 ks with ⟨e1, e2⟩ | ⟨q, i', t', e1, e2, e3⟩
  · rw [e2] at hv; cases hv
  · rw [e2] at hv; cases hv
    refine tail_any (T := "dict") (hm c.prog c.w).typeIs slot_dict_getitem.lookup (wpAny_getItem_heap (room_in1 S.ok.room) hkey (hm _ _) e1 ?_) (hs _ _)
    rw [e3]
    exact ⟨(x1.trans x2).trans (Ext.toks x2.wf _), [], .int _ _, frNil⟩
end
end Mine

namespace Mine
open PySem PySem.Spec PySem.Calls PyProof.Rows

def fnAt (p : Program) (i : Nat) : FnD :=
  match p.main.body[i]? with
  | some (.FunctionDef name args body _ _ _ scope _ _ _) => ⟨name, args, body, scope⟩
  | _ => ⟨"", ⟨[], [], none, [], [], none, []⟩, [], { kind := .function, names := [], isGenerator := false, isCoroutine := false, more := [] }⟩

end Mine

namespace Mine
open PySem PySem.W PySem.Spec PySem.Calls PyProof.Rows

/-- the context of a law: the heap at its call -/
def cxOf (prog : Program) (w : World) (s₁ : Shared) (mg mb : Str → Option Value) : Cx := ⟨prog, w, s₁.heap, fun _ => False, mg, mb, s₁.os⟩

section
variable {p prog : Program} {loose : List Str} {mean : ExcName → Option Value} {mg mb : Str → Option Value} {w : World} {s₁ : Shared}

theorem cxOk_of (T : Top p loose mean mg mb s₁.heap) : CxOk (cxOf prog w s₁ mg mb) :=
  ⟨T.g, id, T.b, id, T.nolimit, id, T.nodigits, T.builtins⟩
theorem wf_of (hg : s₁.gens = #[]) : Wf (cxOf prog w s₁ mg mb) s₁ :=
  ⟨fun _ _ _ e => e, fun _ h => h.elim, OldK.refl _, AllBare.of_eq hg, rfl⟩
theorem stands_of (T : Top p loose mean mg mb s₁.heap) {d : FnD} {r : DefRec} (hr : r ∈ recsOf p) (e1 : r.name = d.name) (e2 : r.params = d.params) (e3 : r.body = d.body) (e4 : r.scope = d.scope) : Stands (cxOf prog w s₁ mg mb) d := by
  obtain ⟨a, o, pm, code, doc, h1, h2, h3, h4⟩ := T.fn r hr
  rw [e1, e2, e3, e4] at *
  exact ⟨a, o, pm, code, doc, h1, h2, id, h3, h4, fun _ _ => id⟩
theorem stands_ix (T : Top p loose mean mg mb s₁.heap) (i : Nat) {d : FnD} {r : DefRec} (hr : (recsOf p)[i]? = some r) (e : r.name = d.name ∧ r.params = d.params ∧ r.body = d.body ∧ r.scope = d.scope) : Stands (cxOf prog w s₁ mg mb) d :=
  stands_of T (List.mem_of_getElem? hr) e.1 e.2.1 e.2.2.1 e.2.2.2
theorem bi_of (T : Top p loose mean mg mb s₁.heap) {x : Str} {v : Value} (hb : bootBuiltins x = some v) (hne : x ≠ "__name__")
    (h : (decide (x ∉ startupNames) && decide (x ∉ loose) && decide (x ∉ (recsOf p).map (·.name)) && decide (x ∉ (litsOf p).map (·.1)) && decide (x ∉ (clssOf p loose).map (·.name))) = true) : Bi (cxOf prog w s₁ mg mb) x v := by
  simp only [Bool.and_eq_true, decide_eq_true_eq] at h
  exact ⟨T.free x h.1.1.1.1 h.1.1.1.2 h.1.1.2 h.1.2 h.2, hb, hne⟩
end

theorem law_end {prog : Program} {w : World} {s₁ : Shared} {mg mb : Str → Option Value} {cl : ClaimW} {cls : Str → Option Addr} {mean : ExcName → Option Value} {args : List WData} {d : FnD} {ds : List PyData} {vals : List Value} {as : List Addr} {fa : Addr} {lv : Nat} {u : Bool}
    (hg : s₁.gens = #[]) (hf : mg d.name = some (.ref fa)) (H : Stands (cxOf prog w s₁ mg mb) d) (h : Fn (cxOf prog w s₁ mg mb) lv d ds (.bool true) u) (hlv : lv ≤ 60) (r : ReadsAll s₁.heap vals ds as)
    (hn : ∀ c, cl.raises args c = false) (hp : cl.post args (.bool true) args = true) :
    wpAny (model prog w) callerA (PySem.call (.ref fa) vals) (fun v s' => GoodWG cl cls mean args s₁ (.ok (.ret v)) s') (fun e s' => GoodWG cl cls mean args s₁ (.error e) s') s₁ := by
  obtain ⟨fa', o, pm, code, doc, H⟩ := H
  have : fa' = fa := by have := H.at_; rw [show (cxOf prog w s₁ mg mb).mg = mg from rfl, hf] at this; cases this; rfl
  subst this
  refine wpAny_mono (h callerA s₁ vals as _ fa' o pm code doc H ⟨rfl, ?_, ?_, rfl⟩ (wf_of hg) r) (fun v s' ⟨x, bs, r1, _, _⟩ => ?_) fun _ _ z => z
  · show 1 + claimMargin + 10 * lv + 10 < recursionLimit
    have h1 : claimMargin = 300 := rfl
    have h2 : recursionLimit = 1000 := rfl
    omega
  · show 4 + 100 * lv + 200 < cLine
    have h2 : cLine = 9900 := rfl
    omega
  · cases r1
    exact ⟨.inl ⟨_, .bool true, [], rfl, hn, .bool _, hp, fun _ => ⟨.nil, nofun⟩⟩, x.wf.old, x.wf.os, x.wf.gens⟩
end Mine

namespace Mine
open PySem PySem.Spec PySem.Calls PyProof.Rows
/-! dicts of ints to lists of ints -/
abbrev dL (ps : List (Int × List Int)) : PyData := .dict (ps.map fun p => (.int p.1, .list (p.2.map .int)))
section
variable {c : Cx} {f : Fm} {ρ : Rho} {pos : Pos}
theorem ev_dict0L (C : CxOk c) : Ev c f ρ (.Dict [] [] pos) (dL []) .fr := fun mo val fp s E S => by
  refine wpAny_Dict_empty ?_
  have hg := Ns.base S.wf C.g C.gX
  have hlt : mainGlobals < s.heap.objs.size := hg.lt
  have x1 : Ext c s { s with heap := s.heap.push { cls := .type "dict", data := .dict #[] } } := Ext.push S.wf _ _
  refine ⟨x1, [s.heap.objs.size], ?_, frOk S (by simp) (fun b hb => ?_) (fun b hb => ?_)⟩
  · refine Reads.dictL (kvs := []) (ps := []) (as := []) (Heap.get?_push_size _ rfl) rfl rfl ?_ (fun prog w => ⟨_, _, _, Heap.get?_push_size _ rfl, ⟨rfl, rfl, rfl⟩, rfl, nofun, .nil, .nil⟩) rfl .nil
    have : sysModules ≤ mainGlobals := by decide +kernel
    exact beq_eq_false_iff_ne.mpr fun q => by
      have : s.heap.objs.size ≤ mainGlobals := by rw [show s.heap.objs.size = sysModules from q]; exact this
      exact absurd hlt (Nat.not_lt.mpr this)
  · rw [List.mem_singleton.mp hb]; exact get_size_none _
  · rw [List.mem_singleton.mp hb]; exact ⟨_, Heap.get?_push_size _ rfl, .inr ⟨rfl, _, _, rfl⟩, rfl, rfl⟩
theorem dL_inj : ∀ {ps qs : List (Int × List Int)}, (ps.map fun p => ((PyData.int p.1, PyData.list (p.2.map .int)) : PyData × PyData)) = qs.map (fun p => (PyData.int p.1, PyData.list (p.2.map .int))) → ps = qs
  | [], [], _ => rfl
  | [], _ :: _, h => by cases h
  | _ :: _, [], h => by cases h
  | p :: ps, q :: qs, h => by
    rw [List.map_cons, List.map_cons] at h
    injection h with h1 h2
    injection h1 with h3 h4
    injection h3 with h3
    injection h4 with h4
    have h4 := ints_inj h4
    have e : p = q := Prod.ext h3 h4
    rw [e, dL_inj h2]
theorem reads_dictL {h : Heap} {v : Value} {ps : List (Int × List Int)} {as : List Addr} (r : Reads h v (dL ps) as) :
    ∃ a kvs as', v = .ref a ∧ as = a :: as' ∧ (a == sysModules) = false ∧ (∀ prog w, h.DictOf (intKind prog w) a kvs) ∧ kvs.map (·.1) = ps.map (·.1) ∧ ReadsAll h (kvs.map (·.2)) (ps.map fun p => .list (p.2.map .int)) as' := by
  generalize hd : dL ps = d at r
  cases r with
  | dictL k1 k2 k3 h0 h1 h2 h3 =>
    injection hd with hd
    have := dL_inj hd
    subst this
    exact ⟨_, _, _, rfl, rfl, h0, h1, h2, h3⟩
  | dict k1 k2 k3 h0 h1 h2 h3 =>
    injection hd with hd
    rename_i xs ps'
    cases ps with
    | cons q qs =>
      cases ps' with
      | nil => cases hd
      | cons q' qs' =>
        rw [List.map_cons, List.map_cons] at hd
        injection hd with hd _
        injection hd with hd _
        cases hd
    | nil =>
      cases ps' with
      | cons q' qs' => cases hd
      | nil =>
        cases xs with
        | cons _ _ => cases h2
        | nil =>
          refine ⟨_, [], [], rfl, rfl, h0, fun prog w => ?_, rfl, .nil⟩
          obtain ⟨o, es, ep, g1, g2, g3, g4, g5, g6⟩ := h1 prog w
          have : es = #[] := by rw [← Array.toList_eq_nil_iff]; exact g4
          subst this
          exact ⟨o, _, ep, g1, g2, g3, nofun, .nil, .nil⟩
  | flt b t =>
    injection hd with hd
    cases ps with
    | nil => cases hd
    | cons q qs =>
      rw [List.map_cons] at hd
      injection hd with hd _
      injection hd with hd _
      cases hd
  | _ => cases hd
/-- what stands at a key -/
def lfind (ps : List (Int × List Int)) (x : Int) : Option (List Int) := (ps.find? fun p => decide (p.1 = x)).map (·.2)
theorem lfind_at {h : Heap} {x : Int} : ∀ {kvs : List (Int × Value)} {ps : List (Int × List Int)} {as : List Addr} {L : List Int}, kvs.map (·.1) = ps.map (·.1) → ReadsAll h (kvs.map (·.2)) (ps.map fun p => .list (p.2.map .int)) as → lfind ps x = some L →
    ∃ v bs, valueAt kvs x = some v ∧ Reads h v (.list (L.map .int)) bs ∧ bs.Sublist as
  | _, [], _, _, _, _, hf => by cases hf
  | [], _ :: _, _, _, hk, _, _ => by cases hk
  | kv :: kvs, p :: ps, as, L, hk, r, hf => by
    rw [List.map_cons, List.map_cons] at hk r
    injection hk with hk1 hk2
    cases r with | cons r1 r2 =>
    rename_i as1 as2
    unfold lfind at hf
    unfold valueAt
    rw [List.find?_cons] at hf ⊢
    rw [hk1]
    by_cases q : p.1 = x
    · rw [decide_eq_true q] at hf ⊢
      cases hf
      exact ⟨kv.2, as1, rfl, r1, List.sublist_append_left ..⟩
    · rw [decide_eq_false q] at hf ⊢
      obtain ⟨v, bs, e1, e2, e3⟩ := lfind_at hk2 r2 hf
      exact ⟨v, bs, e1, e2, e3.trans (List.sublist_append_right ..)⟩
theorem ev_dgetL {l r : Expr} {k1 k2 : EK} {ps : List (Int × List Int)} {x : Int} {L : List Int} (h1 : Ev c f ρ l (dL ps) k1) (h2 : Ev c f ρ r (.int x) k2) (hv : lfind ps x = some L) (hs : ∀ o i, subscripted r false o i = operate [o, i] (getItem o i) := by intros; rfl) : Ev c f ρ (.Subscript l r pos) (.list (L.map .int)) k1.sub := by
  intro mo val fp s E S
  refine Subscript_ (h1.bind S fun v1 s1 as1 x1 S1 r1 ko => h2.bind S1 fun v2 s2 as2 x2 S2 r2 _ => ?_)
  obtain ⟨a, kvs, as', rfl, rfl, hsm, hm, hk2, hk3⟩ := reads_dictL (x2.reads S1.wf r1)
  obtain ⟨v, bs, e1, e2, e3⟩ := lfind_at hk2 hk3 hv
  cases r2 with | int _ t2 =>
  have hki : (intKind c.prog c.w).is x (.int x t2) = true := by show Value.isInt x (.int x t2) = true; simp [Value.isInt]
  refine tail_any (T := "dict") (hm c.prog c.w).typeIs slot_dict_getitem.lookup (wpAny_getItem_of (knd := intKind c.prog c.w) (k := x) hki (hm _ _).mapOf e1 ?_) (hs _ _)
  exact ⟨x1.trans (x2.trans (Ext.toks x2.wf _)), bs, e2, KOk.sub (KOk.later S1.wf (x2.trans (Ext.toks x2.wf _)) ko) (e3.trans (List.sublist_cons_self ..))⟩
end
end Mine

namespace Mine
open PySem PySem.Spec PySem.Calls PyProof.Rows
/-! sorted(..) of ints -/
def srtI (ns : List Int) : List Int := ns.mergeSort fun a b => decide (a ≤ b)
theorem srtI_perm (ns : List Int) : (srtI ns).Perm ns := List.mergeSort_perm _ _
theorem srtI_le (ns : List Int) : (srtI ns).Pairwise (· ≤ ·) := by
  have := List.pairwise_mergeSort (le := fun (a b : Int) => decide (a ≤ b)) (fun a b c h1 h2 => by simp at *; omega) (fun a b => by simp; omega) ns
  exact this.imp fun h => by simpa using h
theorem srtI_uniq {ns ms : List Int} (h1 : ms.Perm ns) (h2 : ms.Pairwise (· ≤ ·)) : ms = srtI ns :=
  List.Perm.eq_of_pairwise (le := (· ≤ ·)) (fun a b _ _ => Int.le_antisymm) h2 (srtI_le ns) (h1.trans (srtI_perm ns).symm)
theorem intsAre_of {h : Heap} : ∀ {vs : List Value} {ns : List Int} {as : List Addr}, ReadsAll h vs (ns.map .int) as → IntsAre vs ns
  | _, [], _, r => by cases r; exact .nil
  | _, n :: ns, _, r => by cases r with | cons r1 r2 => cases r1; exact .cons _ _ (intsAre_of r2)
theorem of_intsAre {h : Heap} : ∀ {vs : List Value} {ns : List Int}, IntsAre vs ns → ReadsAll h vs (ns.map .int) []
  | _, _, .nil => .nil
  | _, _, .cons n t r => .cons (as := []) (.int n t) (of_intsAre r)
theorem vc_sortedI {c : Cx} {n : Nat} {ns : List Int} (hlen : ns.length < 64) : VC c n (.builtin "sorted") [.list (ns.map .int)] (.list ((srtI ns).map .int)) := fun A s vals ass E R W r => by
  cases r with | cons r1 r2 => cases r2; cases r1 with
  | list g1 g2 g3 g4 =>
    rename_i a o vs m bs
    have hI := intsAre_of g4
    have hl : vs.toList.length = ns.length := by have := readsAll_length g4; simpa using this
    refine sorted_ints (l := a) (vs := vs.toList) ⟨_, g1, g2, _, by simpa using g3⟩ hI (by omega) fun out ms h1 h2 h3 => ?_
    have e := srtI_uniq h2 h3
    subst e
    obtain ⟨ep, hD⟩ := sortedAll_at s.heap vs.toList out
    have x1 : Ext c s { s with heap := sortedAll s.heap vs.toList out } := Ext.of W fun b o q => sortedAll_old q
    have hDn : s.heap.get? (s.heap.objs.size + 1) = none := by
      cases q : s.heap.get? (s.heap.objs.size + 1) with
      | none => rfl
      | some o' => exact absurd (Heap.lt_size q) (Nat.not_lt.mpr (Nat.le_succ _))
    refine ⟨x1, [s.heap.objs.size + 1], .list hD rfl rfl (of_intsAre h1), by simp, fun b hb => ?_, fun b hb => ?_⟩
    · rw [List.mem_singleton.mp hb]; exact hDn
    · rw [List.mem_singleton.mp hb]; exact ⟨_, hD, .inl ⟨rfl, _, _, rfl⟩, rfl, rfl⟩

theorem intsAre_keys {prog : Program} {w : World} : ∀ {kvs : List (Int × Value)} {vs : List Value}, vs.length = kvs.length → (∀ (j : Nat) v, vs[j]? = some v → ∃ k x, kvs[j]? = some (k, x) ∧ (intKind prog w).is k v = true) → IntsAre vs (kvs.map (·.1))
  | [], [], _, _ => .nil
  | [], _ :: _, h, _ => by cases h
  | _ :: _, [], h, _ => by cases h
  | kv :: kvs, v :: vs, h, hp => by
    obtain ⟨k, x, e1, e2⟩ := hp 0 v rfl
    cases e1
    obtain ⟨t, rfl⟩ := Value.isInt_shape e2
    exact .cons _ _ (intsAre_keys (by simpa using h) fun j v hv => hp (j + 1) v (by simpa using hv))
/-- sorted(d), d a dict of ints to lists -/
theorem vc_sortedD {c : Cx} {n : Nat} {ps : List (Int × List Int)} (hlen : ps.length < 64) : VC c n (.builtin "sorted") [dL ps] (.list ((srtI (ps.map (·.1))).map .int)) := fun A s vals ass E R W r => by
  cases r with | cons r1 r2 =>
  cases r2
  obtain ⟨a, kvs, as', rfl, rfl, hsm, hm, hk2, hk3⟩ := reads_dictL r1
  have hl : kvs.length = ps.length := by have := congrArg List.length hk2; simpa using this
  obtain ⟨ep, hat⟩ := (hm c.prog c.w).dictAt
  refine Calls.call_function_entry kind_sorted plain_sorted entry_sorted (args_sorted1 _) ?_
  unfold Builtin.sorted
  refine wpAny_bind (wpAny_of_eq (show checkCount "sorted" 1 1 1 = pure () from rfl) ?_)
  refine wpAny_bind (PySem.W.kdu_collect (PySem.W.kdl_dict hsm) R.hand hat (by simp [sizeLine]; omega) fun h1 tk acc k1 hI => ?_)
  obtain ⟨hI1, hI2⟩ := hI
  have hIA : IntsAre acc.toList (ps.map (·.1)) := by rw [← hk2]; exact intsAre_keys (by simpa using hI1) fun j v hv => hI2 j v (by simpa using hv)
  refine wpAny_bind (wpAny_newList ?_ (by simp [sizeLine]; omega))
  have hDs : s.heap.get? h1.objs.size = none := by
    cases q : s.heap.get? h1.objs.size with
    | none => rfl
    | some o' => exact absurd (Heap.lt_size (k1 _ _ q)) (Nat.lt_irrefl _)
  generalize hh2 : h1.push { cls := .type "list", data := .seq acc.toList.toArray } = h2
  have hD2 : h2.get? h1.objs.size = some (seqObj "list" acc.toList.toArray 0) := by rw [← hh2]; exact Heap.get?_push_size _ rfl
  refine wpAny_bind (wpAny_holding (wpAny_call_entry F.slot_list_sort ⟨_, (show ({ s with heap := h2, toks := tk } : Shared).heap.get? h1.objs.size = _ from hD2), rfl⟩ F.entry_list_sort ?_ (args_list_sort _)))
  refine list_sort_tree (s := { s with heap := h2, toks := tk }) hD2 hIA (by simp; omega) fun out ms i1 i2 i3 => ⟨_, rfl, ?_⟩
  refine wpAny_pure ⟨_, rfl, ?_⟩
  have e := srtI_uniq i2 i3
  subst e
  obtain ⟨e2, hD⟩ := sortedHeap_at (out := out) hD2
  have kp : ∀ b o, s.heap.get? b = some o → (sortedHeap h2 h1.objs.size acc.toList out).get? b = some o := fun b o q => by
    have q2 : h2.get? b = some o := by rw [← hh2]; exact Heap.get?_push_of_some _ (k1 b o q)
    rw [sortedHeap_old (fun e => by rw [e, hDs] at q; cases q) (Heap.lt_size q2)]; exact q2
  have x1 : Ext c s { s with heap := sortedHeap h2 h1.objs.size acc.toList out, toks := tk } := ⟨⟨fun b o _ q => kp b o q, fun b o q => ⟨o, kp b o q⟩⟩, W.but (wr := []) (fun b o _ q => kp b o q) nofun nofun⟩
  refine ⟨x1, [h1.objs.size], .list hD rfl rfl (of_intsAre i1), by simp, fun b hb => ?_, fun b hb => ?_⟩
  · rw [List.mem_singleton.mp hb]; exact hDs
  · rw [List.mem_singleton.mp hb]; exact ⟨_, hD, .inl ⟨rfl, _, _, rfl⟩, rfl, rfl⟩
end Mine

namespace Mine
open PySem PySem.Spec PySem.Calls PyProof.Rows
/-! d.setdefault(x, []).append(v) -/
def lset (ps : List (Int × List Int)) (x : Int) : List (Int × List Int) := if (lfind ps x).isSome = true then ps else ps ++ [(x, [])]
def lapp (ps : List (Int × List Int)) (x v : Int) : List (Int × List Int) := ps.map fun p => if p.1 = x then (p.1, p.2 ++ [v]) else p
theorem lfind_val {x : Int} : ∀ {kvs : List (Int × Value)} {ps : List (Int × List Int)}, kvs.map (·.1) = ps.map (·.1) → ((valueAt kvs x).isSome = (lfind ps x).isSome ∧ (kvs.any fun kv => decide (kv.1 = x)) = (lfind ps x).isSome)
  | [], [], _ => ⟨rfl, rfl⟩
  | [], _ :: _, h => by cases h
  | _ :: _, [], h => by cases h
  | kv :: kvs, p :: ps, h => by
    rw [List.map_cons, List.map_cons] at h
    injection h with h1 h2
    obtain ⟨a, b⟩ := lfind_val (x := x) h2
    unfold lfind valueAt at *
    rw [List.find?_cons, List.find?_cons, List.any_cons, h1]
    by_cases q : p.1 = x
    · rw [decide_eq_true q]; exact ⟨rfl, rfl⟩
    · rw [decide_eq_false q]; exact ⟨a, by rw [Bool.false_or]; exact b⟩
/-- a key that is not there yet -/
theorem stored_new {x : Int} {h : Heap} {N : Addr} {m : Nat} {kvs : List (Int × Value)} {ps : List (Int × List Int)} {as : List Addr} (hk : kvs.map (·.1) = ps.map (·.1)) (r : ReadsAll h (kvs.map (·.2)) (ps.map fun p => .list (p.2.map .int)) as) (hf : lfind ps x = none) (hN : h.get? N = some { cls := .type "list", data := .seq #[] m }) :
    stored kvs x (.ref N) = kvs ++ [(x, .ref N)] ∧ (stored kvs x (.ref N)).map (·.1) = (lset ps x).map (·.1) ∧ ReadsAll h ((stored kvs x (.ref N)).map (·.2)) ((lset ps x).map fun p => .list (p.2.map .int)) (as ++ [N]) := by
  have e0 := (lfind_val (x := x) hk).2
  rw [hf] at e0
  have e1 : stored kvs x (.ref N) = kvs ++ [(x, .ref N)] := by unfold stored; rw [e0]; rfl
  have e2 : lset ps x = ps ++ [(x, [])] := by unfold lset; rw [hf]; rfl
  rw [e1, e2]
  refine ⟨rfl, by simp [hk], ?_⟩
  rw [List.map_append, List.map_append]
  exact readsAll_snoc r (.list (as := []) hN rfl rfl .nil)
theorem lfind_set {ps : List (Int × List Int)} {x : Int} : ∃ L, lfind (lset ps x) x = some L := by
  unfold lset
  cases q : lfind ps x with
  | some L => exact ⟨L, by show lfind ps x = some L; exact q⟩
  | none =>
    refine ⟨[], ?_⟩
    rw [if_neg (by simp)]
    unfold lfind at *
    rw [List.find?_append]
    have : (ps.find? fun p => decide (p.1 = x)) = none := by
      cases r : ps.find? fun p => decide (p.1 = x) with
      | none => rfl
      | some y => rw [r] at q; cases q
    rw [this]
    simp
theorem lapp_none {x v : Int} : ∀ {ps : List (Int × List Int)}, x ∉ ps.map (·.1) → lapp ps x v = ps
  | [], _ => rfl
  | p :: ps, h => by
    rw [List.map_cons, List.mem_cons, not_or] at h
    unfold lapp
    rw [List.map_cons, if_neg (fun q => h.1 q.symm)]
    congr 1
    exact lapp_none h.2
theorem lapp_at {x v : Int} {L : List Int} : ∀ {ps : List (Int × List Int)}, (ps.map (·.1)).Nodup → lfind ps x = some L → ∃ j, ps[j]? = some (x, L) ∧ lapp ps x v = ps.set j (x, L ++ [v])
  | [], _, h => by cases h
  | p :: ps, nd, h => by
    rw [List.map_cons] at nd
    obtain ⟨n1, n2⟩ := List.nodup_cons.mp nd
    unfold lfind at h
    rw [List.find?_cons] at h
    by_cases q : p.1 = x
    · rw [decide_eq_true q] at h
      cases h
      refine ⟨0, by rw [← q]; rfl, ?_⟩
      unfold lapp
      rw [List.map_cons, if_pos q, List.set_cons_zero, q]
      congr 1
      exact lapp_none (q ▸ n1)
    · rw [decide_eq_false q] at h
      obtain ⟨j, e1, e2⟩ := lapp_at n2 h
      refine ⟨j + 1, by simpa using e1, ?_⟩
      rw [List.set_cons_succ, ← e2]
      unfold lapp
      rw [List.map_cons, if_neg q]
end Mine

namespace Mine
open PySem PySem.Spec PySem.Calls PyProof.Rows
/-! 0002, the plain part -/
def dds (d : List Int) (x : Int) : List Int := if x ∈ d then d else d ++ [x]
def ddp (l : List Int) : List Int := l.foldl dds []
theorem dds_nodup {d : List Int} {x : Int} (h : d.Nodup) : (dds d x).Nodup := by
  unfold dds
  split
  · exact h
  · rename_i q
    exact List.nodup_append.mpr ⟨h, by simp, fun a ha b hb e => by rw [List.mem_singleton.mp hb] at e; exact q (e ▸ ha)⟩
theorem mem_dds {d : List Int} {x y : Int} : y ∈ dds d x ↔ y ∈ d ∨ y = x := by
  unfold dds
  split
  · rename_i q; exact ⟨.inl, fun h => h.elim id (fun e => e ▸ q)⟩
  · simp
theorem ddpF (l : List Int) : ∀ d : List Int, d.Nodup → (l.foldl dds d).Nodup ∧ ∀ y, y ∈ l.foldl dds d ↔ y ∈ d ∨ y ∈ l := by
  induction l with
  | nil => exact fun d h => ⟨h, fun y => by simp⟩
  | cons x l ih =>
    intro d h
    obtain ⟨a, b⟩ := ih (dds d x) (dds_nodup h)
    refine ⟨a, fun y => ?_⟩
    rw [List.foldl_cons, b, mem_dds, List.mem_cons, or_assoc]
theorem ddp_nodup (l : List Int) : (ddp l).Nodup := (ddpF l [] .nil).1
theorem mem_ddp {l : List Int} {y : Int} : y ∈ ddp l ↔ y ∈ l := by
  have := (ddpF l [] .nil).2 y
  simpa [ddp] using this
theorem ddpS (l : List Int) : ∀ d : List Int, (d ++ l).Pairwise (· ≤ ·) → (l.foldl dds d).Pairwise (· ≤ ·) := by
  induction l with
  | nil => exact fun d h => by simpa using h
  | cons x l ih =>
    intro d h
    rw [List.foldl_cons]
    refine ih _ ?_
    unfold dds
    split
    · refine h.sublist ?_
      exact (List.Sublist.refl d).append (List.sublist_cons_self x l)
    · rw [List.append_assoc]; exact h
theorem ddp_snoc (l : List Int) (x : Int) : ddp (l ++ [x]) = dds (ddp l) x := by
  unfold ddp; rw [List.foldl_append]; rfl
theorem ddpL (l : List Int) : ∀ d : List Int, (l.foldl dds d).length ≤ d.length + l.length := by
  induction l with
  | nil => intro d; simp
  | cons x l ih =>
    intro d
    rw [List.foldl_cons]
    refine Nat.le_trans (ih _) ?_
    have : (dds d x).length ≤ d.length + 1 := by unfold dds; split <;> simp
    rw [List.length_cons]; omega
theorem ddp_len (l : List Int) : (ddp l).length ≤ l.length := by have := ddpL l []; simpa [ddp] using this
/-- the distinct items in order = the sorted distinct items -/
theorem ddp_sort (l : List Int) : ddp (srtI l) = srtI (ddp l) := by
  refine srtI_uniq ?_ (ddpS _ [] (by simpa using srtI_le l))
  refine (List.perm_ext_iff_of_nodup (ddp_nodup _) (ddp_nodup _)).mpr fun a => ?_
  rw [mem_ddp, mem_ddp]
  exact (srtI_perm l).mem_iff
/-! groups -/
theorem lfind_nil {ps : List (Int × List Int)} {x : Int} : lfind ps x = none ↔ x ∉ ps.map (·.1) := by
  unfold lfind
  rw [Option.map_eq_none_iff, List.find?_eq_none]
  constructor
  · intro h hm
    obtain ⟨p, hp, e⟩ := List.mem_map.mp hm
    exact h p hp (decide_eq_true e)
  · intro h p hp e
    exact h (List.mem_map.mpr ⟨p, hp, of_decide_eq_true e⟩)
theorem lfind_cons {p : Int × List Int} {ps : List (Int × List Int)} {x : Int} : lfind (p :: ps) x = if p.1 = x then some p.2 else lfind ps x := by
  unfold lfind
  rw [List.find?_cons]
  by_cases q : p.1 = x
  · rw [decide_eq_true q, if_pos q]; rfl
  · rw [decide_eq_false q, if_neg q]
theorem lfind_app {ps qs : List (Int × List Int)} {x : Int} : lfind (ps ++ qs) x = if (lfind ps x).isSome = true then lfind ps x else lfind qs x := by
  induction ps with
  | nil => simp [lfind]
  | cons p ps ih =>
    rw [List.cons_append, lfind_cons, lfind_cons]
    by_cases q : p.1 = x
    · rw [if_pos q, if_pos q]; rfl
    · rw [if_neg q, if_neg q]; exact ih
theorem lfind_lapp {x y v : Int} : ∀ {ps : List (Int × List Int)}, lfind (lapp ps y v) x = if x = y then (lfind ps x).map (· ++ [v]) else lfind ps x
  | [] => by split <;> rfl
  | p :: ps => by
    have e : lapp (p :: ps) y v = (if p.1 = y then (p.1, p.2 ++ [v]) else p) :: lapp ps y v := rfl
    rw [e, lfind_cons, lfind_cons, lfind_lapp (ps := ps)]
    by_cases q : p.1 = y
    · rw [if_pos q]
      by_cases r : p.1 = x
      · have : x = y := r.symm.trans q
        rw [if_pos r, if_pos this, if_pos r]; rfl
      · have : ¬ x = y := fun h => r (q.trans h.symm)
        rw [if_neg r, if_neg this, if_neg r, if_neg this]
    · rw [if_neg q]
      by_cases r : p.1 = x
      · have : ¬ x = y := fun h => q (r.trans h)
        rw [if_pos r, if_neg this, if_pos r]
      · rw [if_neg r, if_neg r]
theorem lfind_step {ps : List (Int × List Int)} {x y v : Int} : lfind (lapp (lset ps y) y v) x = if x = y then some ((lfind ps y).getD [] ++ [v]) else lfind ps x := by
  rw [lfind_lapp]
  have hs : lfind (lset ps y) x = if x = y then some ((lfind ps y).getD []) else lfind ps x := by
    unfold lset
    cases h : lfind ps y with
    | some L =>
      rw [if_pos (show (some L).isSome = true from rfl)]
      by_cases q : x = y
      · subst q; rw [if_pos rfl, h]; rfl
      · rw [if_neg q]
    | none =>
      rw [if_neg (by simp), lfind_app]
      by_cases q : x = y
      · subst q; rw [h, if_pos rfl, if_neg (by simp), lfind_cons, if_pos rfl]; rfl
      · rw [if_neg q, lfind_cons, if_neg (show ¬ y = x from fun e => q e.symm)]
        cases lfind ps x <;> rfl
  rw [hs]
  by_cases q : x = y
  · rw [if_pos q, if_pos q, if_pos q]; rfl
  · rw [if_neg q, if_neg q, if_neg q]
theorem keys_step {ps : List (Int × List Int)} {y v : Int} : (lapp (lset ps y) y v).map (·.1) = dds (ps.map (·.1)) y := by
  have e : ∀ qs : List (Int × List Int), (lapp qs y v).map (·.1) = qs.map (·.1) := fun qs => by
    unfold lapp
    rw [List.map_map]
    refine List.map_congr_left fun p _ => ?_
    simp only [Function.comp]; split <;> rfl
  rw [e]
  unfold lset dds
  cases h : lfind ps y with
  | some L =>
    have : y ∈ ps.map (·.1) := Classical.byContradiction fun q => by rw [lfind_nil.mpr q] at h; cases h
    rw [if_pos (show (some L).isSome = true from rfl), if_pos this]
  | none =>
    rw [if_neg (by simp), if_neg (lfind_nil.mp h)]
    simp
/-- the groups of the first i names -/
def grp (ns : List Int) : Nat → List (Int × List Int)
  | 0 => []
  | i + 1 => lapp (lset (grp ns i) (ns.getD i 0)) (ns.getD i 0) (i : Int)
/-- the places of x among the first i names -/
def posI (ns : List Int) (x : Int) : Nat → List Int
  | 0 => []
  | i + 1 => if ns.getD i 0 = x then posI ns x i ++ [(i : Int)] else posI ns x i
theorem grp_find (ns : List Int) (x : Int) : ∀ i, lfind (grp ns i) x = if posI ns x i = [] then none else some (posI ns x i)
  | 0 => rfl
  | i + 1 => by
    show lfind (lapp (lset (grp ns i) (ns.getD i 0)) (ns.getD i 0) (i : Int)) x = if (if ns.getD i 0 = x then posI ns x i ++ [(i : Int)] else posI ns x i) = [] then none else some (if ns.getD i 0 = x then posI ns x i ++ [(i : Int)] else posI ns x i)
    rw [lfind_step]
    by_cases q : ns.getD i 0 = x
    · rw [if_pos q.symm, if_pos q, if_neg (by simp), q, grp_find ns x i]
      split
      · rename_i e; rw [e]; rfl
      · rfl
    · rw [if_neg (fun e => q e.symm), if_neg q]; exact grp_find ns x i
theorem take_snoc {ns : List Int} {i : Nat} (h : i < ns.length) : ns.take (i + 1) = ns.take i ++ [ns.getD i 0] := by
  rw [List.take_add_one, List.getD_eq_getElem?_getD, List.getElem?_eq_getElem h]; rfl
theorem grp_keys (ns : List Int) : ∀ i, i ≤ ns.length → (grp ns i).map (·.1) = ddp (ns.take i)
  | 0, _ => rfl
  | i + 1, h => by
    show (lapp (lset (grp ns i) (ns.getD i 0)) (ns.getD i 0) (i : Int)).map (·.1) = _
    rw [keys_step, grp_keys ns i (by omega), take_snoc h, ddp_snoc]
theorem posI_some {ns : List Int} {x : Int} : ∀ {i : Nat}, i ≤ ns.length → x ∈ ns.take i → posI ns x i ≠ []
  | 0, _, h => by simp at h
  | i + 1, hi, h => by
    show (if ns.getD i 0 = x then posI ns x i ++ [(i : Int)] else posI ns x i) ≠ []
    by_cases q : ns.getD i 0 = x
    · rw [if_pos q]; simp
    · rw [if_neg q]
      rw [take_snoc hi, List.mem_append, List.mem_singleton] at h
      exact posI_some (by omega) (h.resolve_right fun e => q e.symm)
theorem posI_len (ns : List Int) (x : Int) : ∀ i, (posI ns x i).length ≤ i ∧ ∀ v ∈ posI ns x i, 0 ≤ v ∧ v < i
  | 0 => ⟨Nat.le_refl _, nofun⟩
  | i + 1 => by
    obtain ⟨a, b⟩ := posI_len ns x i
    show (if ns.getD i 0 = x then posI ns x i ++ [(i : Int)] else posI ns x i).length ≤ i + 1 ∧ ∀ v ∈ (if ns.getD i 0 = x then posI ns x i ++ [(i : Int)] else posI ns x i), 0 ≤ v ∧ v < ((i + 1 : Nat) : Int)
    split
    · refine ⟨by simp; omega, fun v hv => ?_⟩
      rcases List.mem_append.mp hv with h | h
      · have := b v h; omega
      · rw [List.mem_singleton.mp h]; omega
    · exact ⟨by omega, fun v hv => by have := b v hv; omega⟩
/-! lines -/
abbrev spc : Str := Str.ofString " "
abbrev sI (v : Int) : Str := Str.ofString (toString v)
def jnI (L : List Int) : Str := Str.join spc (L.map sI)
def lnI (ns : List Int) (x : Int) : Nat → Str
  | 0 => Str.ofString ""
  | i + 1 => if ns.getD i 0 = x then (if lnI ns x i ≠ Str.ofString "" then lnI ns x i ++ spc else lnI ns x i) ++ sI (i : Int) else lnI ns x i
theorem join_snoc (sep y : Str) : ∀ l : List Str, l ≠ [] → Str.join sep (l ++ [y]) = Str.join sep l ++ sep ++ y
  | [], h => absurd rfl h
  | [x], _ => rfl
  | x :: z :: r, _ => by
    have := join_snoc sep y (z :: r) (by simp)
    show x ++ sep ++ Str.join sep ((z :: r) ++ [y]) = x ++ sep ++ Str.join sep (z :: r) ++ sep ++ y
    rw [this]
    simp only [Str.append_assoc]
theorem ofS_nil : Str.ofString "" = Str.empty := by decide
theorem join_ne (sep : Str) : ∀ l : List Str, (∀ x ∈ l, 0 < x.length) → l ≠ [] → Str.join sep l ≠ Str.empty
  | [], _, h => absurd rfl h
  | [x], hx, _ => fun e => by
    have := hx x (by simp)
    have e : x = Str.empty := e
    rw [e] at this; exact absurd this (by decide)
  | x :: z :: r, hx, _ => fun e => by
    have := hx x (by simp)
    have e : x ++ sep ++ Str.join sep (z :: r) = Str.empty := e
    have e := congrArg Str.length e
    rw [Str.length_append, Str.length_append] at e
    have z : Str.length Str.empty = 0 := rfl
    omega
theorem lnI_eq (hsI : ∀ v : Nat, 0 < (sI (v : Int)).length) (ns : List Int) (x : Int) : ∀ i, lnI ns x i = jnI (posI ns x i)
  | 0 => by show Str.ofString "" = Str.join spc []; rw [ofS_nil]; rfl
  | i + 1 => by
    have ih := lnI_eq hsI ns x i
    show (if ns.getD i 0 = x then (if lnI ns x i ≠ Str.ofString "" then lnI ns x i ++ spc else lnI ns x i) ++ sI (i : Int) else lnI ns x i) = jnI (if ns.getD i 0 = x then posI ns x i ++ [(i : Int)] else posI ns x i)
    by_cases q : ns.getD i 0 = x
    · rw [if_pos q, if_pos q, ih]
      unfold jnI
      rw [List.map_append]
      by_cases r : posI ns x i = []
      · rw [r]
        rw [if_neg (by rw [ofS_nil]; exact fun h => h rfl)]
        show Str.empty ++ sI (i : Int) = sI (i : Int)
        exact Str.empty_append _
      · have hne : (posI ns x i).map sI ≠ [] := by simpa using r
        rw [show ([(i : Int)].map sI) = [sI (i : Int)] from rfl, join_snoc _ _ _ hne]
        rw [if_pos]
        rw [ofS_nil]
        refine join_ne _ _ (fun y hy => ?_) hne
        obtain ⟨v, hv, rfl⟩ := List.mem_map.mp hy
        have := (posI_len ns x i).2 v hv
        obtain ⟨m, rfl⟩ : ∃ m : Nat, v = m := ⟨v.toNat, by omega⟩
        exact hsI m
    · rw [if_neg q, if_neg q]; exact ih
theorem pieces_eq (hsI : ∀ v : Nat, 0 < (sI (v : Int)).length) (ns : List Int) :
    (srtI ((grp ns ns.length).map (·.1))).map (fun x => jnI ((lfind (grp ns ns.length) x).getD [])) = (ddp (srtI ns)).map (fun x => lnI ns x ns.length) := by
  rw [grp_keys ns _ (Nat.le_refl _), List.take_length, ddp_sort]
  refine List.map_congr_left fun x hx => ?_
  have hx : x ∈ ns := mem_ddp.mp ((srtI_perm _).mem_iff.mp hx)
  rw [lnI_eq hsI, grp_find, if_neg (posI_some (Nat.le_refl _) (by rw [List.take_length]; exact hx))]
  rfl
end Mine

namespace Mine
open PySem PySem.Spec PySem.Calls PyProof.Rows
/-! d.setdefault(x, []).append(v): the walk -/
theorem pairs_conv {prog prog' : Program} {w w' : World} : ∀ {es : List DictEntry} {kvs : List (Int × Value)}, Pairs (intKind prog w) es kvs → Pairs (intKind prog' w') es kvs
  | _, _, .nil => .nil
  | _, _, .cons h1 h2 h3 => .cons h1 h2 (pairs_conv h3)
theorem dictL_conv {h : Heap} {a : Addr} {kvs : List (Int × Value)} {prog : Program} {w : World} (x : h.DictOf (intKind prog w) a kvs) (prog' : Program) (w' : World) : h.DictOf (intKind prog' w') a kvs := by
  obtain ⟨o, es, ep, g1, g2, g3, g4, g5, g6⟩ := x
  exact ⟨o, es, ep, g1, g2, g3, g4, pairs_conv g5, g6⟩
/-- what the dict that a variable owns holds, and the list at a key -/
def DH (c : Cx) (val : Nat → Value) (fp : Nat → List Addr) (i : Nat) (ps : List (Int × List Int)) (x : Int) (b : Addr) (s : Shared) : Prop :=
  ∃ a kvs as', val i = .ref a ∧ fp i = a :: as' ∧ (a == sysModules) = false ∧ s.heap.DictOf (intKind c.prog c.w) a kvs ∧ kvs.map (·.1) = ps.map (·.1) ∧ ReadsAll s.heap (kvs.map (·.2)) (ps.map fun p => .list (p.2.map .int)) as' ∧ valueAt kvs x = some (.ref b)
section
variable {c : Cx} {f : Fm} {ρ ρ1 ρ2 : Rho} {mo : Addr → Prop} {val : Nat → Value} {fp : Nat → List Addr} {s : Shared} {E : Value → Shared → Prop}
  {Q : Fl → Rho → Prop} {rest : List Stmt} {e ek e0 : Expr} {k k1 k2 : EK} {pos xp ap cp ap2 cp2 : Pos} {x : Str} {i : Nat} {ps : List (Int × List Int)} {key : Int}

theorem DH.ext {b : Addr} {s' : Shared} (h : DH c val fp i ps key b s) (W : Wf c s) (x : Ext c s s') : DH c val fp i ps key b s' := by
  obtain ⟨a, kvs, as', h1, h2, h3, ⟨o, es, ep, g1, g2, g3, g4, g5, g6⟩, h5, h6, h7⟩ := h
  exact ⟨a, kvs, as', h1, h2, h3, ⟨o, es, ep, listOrDict_ext W x g1 (.inr ⟨g2.1, _, _, g3⟩), g2, g3, g4, g5, g6⟩, h5, x.readsAll W h6, h7⟩

theorem sd_step {K : Value → Shared → Prop} (FS : FmS c f) (S : St c f ρ mo val fp s) (hat : At f.xs ρ x ⟨.ow, dL ps⟩ i) (hk : Ev c f ρ ek (.int key) k1) (h0 : Ev c f ρ e0 (.list []) .fr) (hsz : ps.length ≤ sizeLine)
    (hK : ∀ b s' mo' fp', St c f (ρ.set i (some ⟨.ow, dL (lset ps key)⟩)) mo' val fp' s' → Step c f mo s mo' s' → DH c val fp' i (lset ps key) key b s' → K (.ref b) s')
    (hdb : (x == ("__debug__" : Str)) = false) (hn : (x == ("__classdict__" : Str)) = false)
    (hbase : ∀ env, attributeBase (.Name x xp) "setdefault" env (eval (.Name x xp) env) = eval (.Name x xp) env) (hline : (ap.endLine == cp.line) = true)
    (htrees : ∀ env, backTo cp (starEach [ek, e0] env) = [(false, eval ek env), (false, eval e0 env)]) :
    wpAny c.M f.A (eval (.Call (.Attribute (.Name x xp) "setdefault" ap) [ek, e0] [] cp) f.env) K E s := by
  refine wpAny_Call_method2_late (hbase _) hline (htrees _) (name_step S hat (fun r0 => ?_) hdb hn)
  have e1 := hat.slot
  obtain ⟨a, kvs, as', hva, hfp, hsm, hm, hkeys, hr⟩ := reads_dictL r0
  obtain ⟨o, es, ep, g1, g2, g3, g4, g5, g6⟩ := id (hm c.prog c.w)
  rw [hva]
  refine ⟨"dict", "dict.setdefault", F.plainAttrs_dict, F.slot_dict_setdefault, F.type_dict_setdefault, (hm c.prog c.w).typeIs, fun a' q => by cases q; exact ⟨o, g1, g2.2.1⟩, ?_⟩
  refine Calls.callWith_builtin rfl ?_
  refine evalArgs_plain (spliced_cons (hk.bind S fun v1 s1 as1 x1 S1 r1 _ => spliced_cons (h0.bind S1 fun v2 s2 as2 x2 S2 r2 ko2 => spliced_nil ?_)))
  cases r1 with | int _ t =>
  have x12 := x1.trans x2
  have hkey : (intKind c.prog c.w).is key (.int key t) = true := by show Value.isInt key (.int key t) = true; simp [Value.isInt]
  have hl : kvs.length = ps.length := by have := congrArg List.length hkeys; simpa using this
  have hm2 : s2.heap.DictOf (intKind c.prog c.w) a kvs := ⟨o, es, ep, listOrDict_ext S.wf x12 g1 (.inr ⟨g2.1, _, _, g3⟩), g2, g3, g4, g5, g6⟩
  have hr2 := x12.readsAll S.wf hr
  cases r2 with
  | list q1 q2 q3 q4 =>
  rename_i N oN vsN nN bsN
  cases hvs : vsN.toList with
  | cons _ _ => rw [hvs] at q4; cases q4
  | nil =>
  rw [hvs] at q4
  cases q4
  have evs : vsN = #[] := by rw [← Array.toList_eq_nil_iff]; exact hvs
  subst evs
  have plN := ko2.2.2.2 N (by simp)
  have hN : s2.heap.get? N = some { cls := .type "list", data := .seq #[] nN } := plN.isL q1 q2 q3
  refine call_meetsIn F.slot_dict_setdefault hm2.typeIs F.entry_dict_setdefault (F.args_dict_setdefault_3 _ _ _) (kt_meets_setdefault (intKind c.prog c.w) a hkey hsm (.ref N)) ⟨kvs, hm2, by omega, fun v hv => ?_, fun hnone h' hD hsb => ?_⟩
  · -- the key is there
    obtain ⟨L, hL⟩ : ∃ L, lfind ps key = some L := by
      have := (lfind_val (x := key) hkeys).1
      rw [hv] at this
      exact Option.isSome_iff_exists.mp this.symm
    have els : lset ps key = ps := by unfold lset; rw [hL]; rfl
    obtain ⟨v', bs, b1, b2, b3⟩ := lfind_at hkeys hr2 hL
    rw [hv] at b1; cases b1
    cases b2 with
    | list d1 d2 d3 d4 =>
    rename_i b _ _ _ _
    have eset : ρ.set i (some ⟨.ow, dL (lset ps key)⟩) = ρ := by
      rw [els]
      obtain ⟨hi, e⟩ := List.getElem?_eq_some_iff.mp e1
      rw [← e]; exact List.set_getElem_self hi
    have x3 := Ext.toks x12.wf (s2.toks + 1)
    refine hK b _ mo fp (by rw [eset]; exact S2.ext x3) (Step.ext (x12.trans x3)) ?_
    rw [els]
    exact ⟨a, kvs, as', hva, hfp, hsm, hm2, hkeys, hr2, hv⟩
  · -- a new key
    have hnl : lfind ps key = none := by
      have := (lfind_val (x := key) hkeys).1
      rw [hnone] at this
      exact Option.not_isSome_iff_eq_none.mp (by rw [← this]; simp)
    obtain ⟨c1, c2, c3⟩ := stored_new hkeys hr2 hnl hN
    obtain ⟨nd, hmo⟩ := S2.own i _ e1 rfl
    rw [hfp] at nd
    have frN : s.heap.get? N = none := x1.up.none (ko2.2.2.1 N (by simp))
    have hNa : N ≠ a := fun q => by rw [q, g1] at frN; cases frN
    have fpIn : ∀ j sl, ρ[j]? = some (some sl) → ∀ b ∈ fp j, ∃ o, s.heap.get? b = some o := fun j sl ej b hb => by
      obtain ⟨_, _, _, rj⟩ := S.var j sl ej
      obtain ⟨o, ho, _⟩ := reads_objs rj b hb; exact ⟨o, ho⟩
    have hNas : N ∉ as' := fun q => by
      obtain ⟨o', ho'⟩ := fpIn i _ e1 N (by rw [hfp]; exact List.mem_cons_of_mem _ q)
      rw [frN] at ho'; cases ho'
    have nt : ∀ o, s2.heap.get? a = some o → o.cls ≠ .type "tuple" := fun o' q hc => by
      have := listOrDict_ext S.wf x12 g1 (.inr ⟨g2.1, _, _, g3⟩)
      rw [this] at q; cases q; rw [g2.1] at hc; simp at hc
    have hna : a ∉ as' ++ [N] := fun q => (List.mem_append.mp q).elim (List.nodup_cons.mp nd).1 (fun q => hNa (List.mem_singleton.mp q).symm)
    have c3' := readsAll_but hsb nt hna c3
    obtain ⟨o', es', ep', j1, j2, j3, j4, j5, j6⟩ := id hD
    have rd : Reads h' (val i) (dL (lset ps key)) (a :: (as' ++ [N])) := by
      rw [hva]
      exact .dictL j1 j2.1 j3 hsm (fun prog w => dictL_conv hD prog w) c2 c3'
    have := S2.mut (tk := s2.toks + 1) (as' := a :: (as' ++ [N])) (extra := [N]) FS e1 (by rw [hfp]; exact List.mem_cons_self ..) hsb ⟨o', j1, .inr ⟨j2.1, _, _, j3⟩, j2.2.1, j2.2.2⟩ rd
      (List.nodup_cons.mpr ⟨hna, List.nodup_append.mpr ⟨(List.nodup_cons.mp nd).2, by simp, fun p hp q hq h => by rw [List.mem_singleton.mp hq] at h; exact hNas (h ▸ hp)⟩⟩)
      (fun b hb => by
        rw [hfp]
        rcases List.mem_cons.mp hb with q | q
        · exact .inl (q ▸ List.mem_cons_self ..)
        · exact (List.mem_append.mp q).imp (List.mem_cons_of_mem _) id)
      (fun b hb => by
        rw [List.mem_singleton.mp hb]
        exact ⟨fun q => (by obtain ⟨o, ho, _⟩ := S.moIn N q; rw [frN] at ho; cases ho), S.keep.none frN, plN⟩)
      (fun j sl _ ej b hb q => by rw [List.mem_singleton.mp q] at hb; obtain ⟨o, ho⟩ := fpIn j sl ej N hb; rw [frN] at ho; cases ho)
      (fun q => ko2.1 q)
    refine hK N _ _ _ this.1 ⟨fun b o h1 h2 h3 q => this.2.1 b o h3 (x12.up.kp b o h1 q), fun b o q => let ⟨o', q'⟩ := x12.up.th b o q; this.2.2 b o' q', fun b h => h.imp id (fun q => by rw [List.mem_singleton.mp q]; exact frN)⟩ ?_
    refine ⟨a, stored kvs key (.ref N), as' ++ [N], hva, by rw [upd_self], hsm, hD, c2, c3', ?_⟩
    have : (stored kvs key (.ref N))[kvs.length]? = some (key, .ref N) := by rw [c1]; simp
    exact valueAt_of_get j6 this

/-- x.setdefault(key, []).append(v) -/
theorem s_sdapp {v : Int} (FS : FmS c f) (hat : At f.xs ρ x ⟨.ow, dL ps⟩ i) (hk : Ev c f ρ ek (.int key) k1) (h0 : Ev c f ρ e0 (.list []) .fr) (hsz : ps.length ≤ sizeLine)
    (hL : ∀ L, lfind (lset ps key) key = some L → L.length ≤ sizeLine)
    (hU1 : Upd f.xs ρ x (some ⟨.ow, dL (lset ps key)⟩) ρ1 i) (hv : Ev c f ρ1 e (.int v) k2)
    (hU2 : Upd f.xs ρ1 x (some ⟨.ow, dL (lapp (lset ps key) key v)⟩) ρ2 i) (hQ : Ex c f rest ρ2 Q)
    (hdb : (x == ("__debug__" : Str)) = false := by decide +kernel) (hn : (x == ("__classdict__" : Str)) = false := by decide +kernel)
    (hbase : ∀ env, attributeBase (.Name x xp) "setdefault" env (eval (.Name x xp) env) = eval (.Name x xp) env := by intro _; rfl) (hline : (ap.endLine == cp.line) = true := by rfl)
    (htrees : ∀ env, backTo cp (starEach [ek, e0] env) = [(false, eval ek env), (false, eval e0 env)] := by intro _; rfl)
    (hbase2 : ∀ env, attributeBase (.Call (.Attribute (.Name x xp) "setdefault" ap) [ek, e0] [] cp) "append" env (eval (.Call (.Attribute (.Name x xp) "setdefault" ap) [ek, e0] [] cp) env) = eval (.Call (.Attribute (.Name x xp) "setdefault" ap) [ek, e0] [] cp) env := by intro _; rfl) (hline2 : (ap2.endLine == cp2.line) = true := by rfl)
    (htrees2 : ∀ env, backTo cp2 (starEach [e] env) = [(false, eval e env)] := by intro _; rfl)
    (hsw : ∀ env, swapsWith (.Call (.Attribute (.Call (.Attribute (.Name x xp) "setdefault" ap) [ek, e0] [] cp) "append" ap2) [e] [] cp2) none pos.line env = pure false := by intro _; rfl) :
    Ex c f (.Expr (.Call (.Attribute (.Call (.Attribute (.Name x xp) "setdefault" ap) [ek, e0] [] cp) "append" ap2) [e] [] cp2) pos :: rest) ρ Q := by
  obtain ⟨_, _, rfl⟩ := hU1.get
  obtain ⟨_, hi2, rfl⟩ := hU2.get
  refine ex_cons fun mo val fp s S => ?_
  have hint : interactive f.env = false := by unfold interactive; rw [S.ok.kind]; rfl
  refine wpAny_Expr_any ?_ hint (hsw _)
  refine wpAny_Call_method1_late (hbase2 _) hline2 (htrees2 _) (sd_step FS S hat hk h0 hsz (fun b s' mo' fp' S' st hd => ?_) hdb hn hbase hline htrees)
  have e0 : (ρ.set i (some ⟨.ow, dL (lset ps key)⟩))[i]? = some (some ⟨.ow, dL (lset ps key)⟩) := List.getElem?_set_self (by simpa using hi2)
  obtain ⟨L, hfL⟩ := lfind_set (ps := ps) (x := key)
  have hlen := hL L hfL
  generalize lset ps key = ps1 at *
  obtain ⟨a, kvs, as', hva, hfp, hsm, hm, hkeys, hr, hb⟩ := id hd
  obtain ⟨o, es, ep, g1, g2, g3, g4, g5, g6⟩ := id hm
  obtain ⟨j, hj, hap⟩ := lapp_at (v := v) (by rw [← hkeys]; exact g6) hfL
  have hjl : (ps1.map fun p => PyData.list (p.2.map .int))[j]? = some (.list (L.map .int)) := by rw [List.getElem?_map, hj]; rfl
  obtain ⟨wv, bs, d1, d2, d3⟩ := readsAll_item hr hjl
  have hkj : kvs[j]? = some (key, wv) := by
    rw [List.getElem?_map] at d1
    cases q : kvs[j]? with
    | none => rw [q] at d1; cases d1
    | some kv =>
      rw [q] at d1
      have e2 : kv.2 = wv := Option.some.inj d1
      have k1 : (kvs.map (·.1))[j]? = some kv.1 := by rw [List.getElem?_map, q]; rfl
      have k2 : (ps1.map (·.1))[j]? = some key := by rw [List.getElem?_map, hj]; rfl
      rw [hkeys, k2] at k1
      rw [← e2, Option.some.inj k1]
  have : wv = .ref b := by have := valueAt_of_get g6 hkj; rw [hb] at this; exact (Option.some.inj this).symm
  subst this
  have hbas : b ∈ as' := by
    cases d2 with
    | list z1 z2 z3 z4 => exact d3.subset (List.mem_cons_self ..)
  have hbfp : b ∈ fp' i := by rw [hfp]; exact List.mem_cons_of_mem _ hbas
  have hmb := (S'.own i _ e0 rfl).2 b hbfp
  obtain ⟨ws, m, hlb, hrb⟩ : ∃ ws m, IsL s'.heap b ws m ∧ ∃ cs, ReadsAll s'.heap ws.toList (L.map .int) cs := by
    cases d2 with
    | list z1 z2 z3 z4 => exact ⟨_, _, (S'.moPl b hmb).isL z1 z2 z3, _, z4⟩
  obtain ⟨cs, hrb⟩ := hrb
  refine ⟨"list", "list.append", F.plainAttrs_list, F.slot_list_append, F.type_list_append, ⟨_, hlb, rfl⟩, fun a' q => by cases q; exact ⟨_, hlb, rfl⟩, ?_⟩
  refine P.append_list (hv.bind S' fun v1 s3 as1 x3 S3 r1 ko => ?_)
  cases r1 with | int _ t =>
  have hlb3 : IsL s3.heap b ws m := listOrDict_ext S'.wf x3 hlb (.inl ⟨rfl, _, _, rfl⟩)
  have hla3 : s3.heap.get? a = some o := listOrDict_ext S'.wf x3 g1 (.inr ⟨g2.1, _, _, g3⟩)
  have hwl : ws.size = L.length := by simpa using readsAll_length hrb
  refine ⟨ws, m, by omega, hlb3, ?_⟩
  have hl4 := hlb3.update (fun xs => xs.push (.int v t))
  have hsb : Heap.SameBut b s3.heap (s3.heap.update b (Obj.mapSeq fun xs => xs.push (.int v t))) := sameBut_update ..
  have nd := (S3.own i _ e0 rfl).1
  rw [hfp] at nd
  have hab : a ≠ b := fun q => (List.nodup_cons.mp nd).1 (q ▸ hbas)
  have flatL : ∀ l : List Int, flats (l.map .int) = true := fun l => by
    induction l with
    | nil => rfl
    | cons z l ih => simp [flats, flat, ih]
  have hcs := readsAll_flat hrb (flatL L)
  subst hcs
  have hrb2 := readsAll_but hsb (isL_notTup hlb3) (by simp) (x3.readsAll S'.wf hrb)
  have new : Reads (s3.heap.update b (Obj.mapSeq fun xs => xs.push (.int v t))) (.ref b) (.list ((L ++ [v]).map .int)) [b] :=
    .list hl4 rfl rfl (by rw [Array.toList_push, List.map_append]; exact readsAll_snoc hrb2 (.int _ _))
  have hD : ∀ prog w, (s3.heap.update b (Obj.mapSeq fun xs => xs.push (.int v t))).DictOf (intKind prog w) a kvs := fun prog w =>
    dictL_conv (prog := c.prog) (w := c.w) ⟨o, es, ep, (hsb.2 a hab).trans hla3, g2, g3, g4, g5, g6⟩ prog w
  have rows := readsAll_row (flatL L) hsb.2 (isL_notTup hlb3) new (x3.readsAll S'.wf hr) (List.nodup_cons.mp nd).2 (i := j) d1 hjl
  have key2 : (lapp ps1 key v).map (·.1) = ps1.map (·.1) := by
    unfold lapp
    rw [List.map_map]
    refine List.map_congr_left fun p _ => ?_
    simp only [Function.comp]; split <;> rfl
  have rd : Reads (s3.heap.update b (Obj.mapSeq fun xs => xs.push (.int v t))) (val i) (dL (lapp ps1 key v)) (fp' i) := by
    rw [hva, hfp]
    refine .dictL ((hsb.2 a hab).trans hla3) g2.1 g3 hsm hD (hkeys.trans key2.symm) ?_
    rw [hap, List.map_set]
    exact rows
  have post := mut0 (Q := seqQ c f rest Q) (d' := dL (lapp ps1 key v)) (tk := s3.toks) FS S' x3 e0 hbfp hsb (Pl.of_isL hl4) rd hQ
  exact post.later st
end
end Mine

namespace Mine
open PySem PySem.Spec PySem.Calls PyProof.Rows
/-! for v, x in enumerate(list of ints) -/
theorem ints_get {h : Heap} {vs : Array Value} {ns : List Int} {as : List Addr} (r : ReadsAll h vs.toList (ns.map .int) as) {j : Nat} {x : Value} (hx : vs[j]? = some x) : ∃ n t, ns[j]? = some n ∧ x = .int n t := by
  have hl : vs.size = ns.length := by simpa using readsAll_length r
  have hj : j < ns.length := by rw [← hl]; exact (Array.getElem?_eq_some_iff.mp hx).1
  have hd : (ns.map PyData.int)[j]? = some (.int ns[j]) := by rw [List.getElem?_map, List.getElem?_eq_getElem hj]; rfl
  obtain ⟨v', cs, q1, q2, q3⟩ := readsAll_item r hd
  have : v' = x := by
    have h1 : vs.toList[j]? = some x := by simpa using hx
    rw [q1] at h1; exact Option.some.inj h1
  subst this
  cases q2 with | int _ t => exact ⟨_, t, List.getElem?_eq_getElem hj, rfl⟩
section
variable {c : Cx} {f : Fm} {ρ : Rho} {mo : Addr → Prop} {val : Nat → Value} {fp : Nat → List Addr} {s : Shared} {E : Value → Shared → Prop} {Q : Fl → Rho → Prop} {body : List Stmt} {pos : Pos}
theorem ex_forEn {x y : Str} {xp yp tp rp ep : Pos} {tn : Nat} {e : Expr} {i1 i2 : Nat} {ns : List Int} {k : EK} (C : CxOk c) (B : Bi c "enumerate" (.type "enumerate")) (hx : f.env.kindOf "enumerate" = some .globalImplicit) (FS : FmS c f) (h : Ev c f ρ e (.list (ns.map .int)) k) (hk : k.safe = true)
    (J : Nat → Rho → Prop) (h0 : J 0 ρ)
    (hb : ∀ j n ρ', ns[j]? = some n → J j ρ' → ∃ ρ1 ρ2, Upd f.xs ρ' x (some ⟨.lo, .int (j : Int)⟩) ρ1 i1 ∧ Upd f.xs ρ1 y (some ⟨.lo, .int n⟩) ρ2 i2 ∧ Ex c f body ρ2 (loopQ (J (j + 1)) Q))
    (hend : ∀ ρ', J ns.length ρ' → Q .next ρ')
    (he : ∀ env rest, starEach (e :: rest) env = (false, eval e env) :: starEach rest env := by intros; rfl)
    (hs : ∀ env x, foldedSetIterable (.Call (.Name "enumerate" rp) [e] [] ep) env x = pure x := by intro _ _; rfl) : Ex1 c f (.For (.Tuple [.Name x xp, .Name y yp] tn tp) (.Call (.Name "enumerate" rp) [e] [] ep) body [] pos) ρ Q := fun mo val fp s S => by
  refine wpAny_For ?_ (hs _)
  refine Call_ (builtin_name C B hx S ?_)
  refine PySem.callWith_type (by rw [he]; rfl) ?_
  rw [he]
  refine evalArgs_plain (spliced_cons (h.bind S fun v s1 as x1 S1 r1 ko => spliced_nil ?_))
  cases r1 with | list g1 g2 g3 g4 =>
  rename_i l o vs n bs
  refine call_enumerate_list (l := l) (items := vs) ⟨_, g1, g2, _, g3⟩ fun h' hE hI hsz hkp => ?_
  have hlt := Heap.lt_size g1
  have hsz1 : vs.size = ns.length := by simpa using readsAll_length g4
  have nIt : s1.heap.get? s1.heap.objs.size = none := get_size_none s1.heap
  have nEn : s1.heap.get? (s1.heap.objs.size + 1) = none := by
    cases q : s1.heap.get? (s1.heap.objs.size + 1) with
    | none => rfl
    | some o' => exact absurd (Heap.lt_size q) (Nat.not_lt.mpr (Nat.le_succ _))
  generalize hit : s1.heap.objs.size = it at *
  generalize hen : it + 1 = en at *
  have hlit : l ≠ it := Nat.ne_of_lt hlt
  have hlen : l ≠ en := hen ▸ Nat.ne_of_lt (Nat.lt_succ_of_lt hlt)
  have hie : en ≠ it := hen ▸ Nat.succ_ne_self it
  have T := WalksT.enumerateD (prog := c.prog) (w := c.w) (A := f.A) (Draws.list (prog := c.prog) (w := c.w) (A := f.A.in1) S.ok.room.hand it l hlit vs) en hie (by simp [hie, hlen.symm]) (by simp)
  have hl' : h'.IsList l vs := ⟨_, hkp _ _ g1, g2, _, g3⟩
  have st0 : (∃ old, IsEnum h' en it (0 : Nat) old) ∧ h'.IsListIter it l 0 ∧ h'.IsList l vs := ⟨⟨_, hE⟩, hI, hl'⟩
  refine T.self 0 { s1 with heap := h' } _ _ st0 ?_
  have x2 : Ext c s1 { s1 with heap := h' } := Ext.of S1.wf hkp
  have S2 := S1.ext x2
  have x12 := x1.trans x2
  have hnL : l ≠ f.env.locals := fun q => ko.1 (q ▸ List.mem_cons_self ..)
  have wrN : ∀ b ∈ [en, it], s1.heap.get? b = none := fun b hb => by
    rcases List.mem_cons.mp hb with rfl | hb
    · exact nEn
    · rw [List.mem_singleton.mp hb]; exact nIt
  have wrNs : ∀ b ∈ [en, it], s.heap.get? b = none := fun b hb => x1.up.none (wrN b hb)
  have wrH0 : ∀ b ∈ [en, it], f.h₀.get? b = none := fun b hb => S.keep.none (wrNs b hb)
  have wrHB : ∀ b ∈ [en, it], c.hB.get? b = none := fun b hb => FS.base.none (wrH0 b hb)
  have split : ∀ b ∈ [en, it, l], b ∈ [en, it] ∨ b = l := fun b hb => by
    simp at hb ⊢; rcases hb with q | q | q
    · exact .inl (.inl q)
    · exact .inl (.inr q)
    · exact .inr q
  have nPv : ∀ b ∈ [en, it, l], ¬ Pv f b := fun b hb hp => by
    rcases split b hb with q | rfl
    · obtain ⟨o2, h2, _⟩ := pv_obj S1 hp
      rw [wrN b q] at h2; cases h2
    · exact pv_ld S1 g1 (.inl ⟨g2, _, _, g3⟩) hnL hp
  have nX : ∀ b ∈ [en, it, l], ¬ c.X b := fun b hb hp => by
    rcases split b hb with q | rfl
    · obtain ⟨ps, h2⟩ := S1.wf.tab _ hp
      rw [wrN b q] at h2; cases h2
    · exact not_tab S1.wf g1 (by rw [g2]; nofun) hp
  have nMo : ∀ b ∈ [en, it, l], ¬ mo b := fun b hb hp => by
    rcases split b hb with q | rfl
    · obtain ⟨o2, h2, _⟩ := S1.moIn _ hp
      rw [wrN b q] at h2; cases h2
    · revert hp
      cases k <;> first | (cases hk; done) | skip
      · exact ko.2 b (List.mem_cons_self ..)
      · exact (ko.2 b (List.mem_cons_self ..)).1
      · exact ((KOk.fr_lo S ko).2 b (List.mem_cons_self ..)).1
  have wrX : ∀ b ∈ [en, it], ¬ c.X b := fun b hb => nX b (T.sub b hb)
  have fld : ∀ i hh, ((∃ old, IsEnum hh en it (i : Nat) old) ∧ hh.IsListIter it l i ∧ hh.IsList l vs) → ∀ b ∈ [en, it], ∃ o vs, hh.get? b = some o ∧ o.data = .fields vs := fun i hh st b hb => by
    obtain ⟨⟨old, q1⟩, ⟨o2, q2, _, q3⟩, _⟩ := st
    rcases List.mem_cons.mp hb with rfl | hb
    · exact ⟨_, _, q1, rfl⟩
    · rw [List.mem_singleton.mp hb]; exact ⟨_, _, q2, q3⟩
  have inFp : ∀ i hh, ((∃ old, IsEnum hh en it (i : Nat) old) ∧ hh.IsListIter it l i ∧ hh.IsList l vs) → ∀ b ∈ [en, it, l], ∃ o, hh.get? b = some o := fun i hh st b hb => by
    rcases split b hb with q | rfl
    · obtain ⟨o2, _, g, _⟩ := fld i hh st b q; exact ⟨o2, g⟩
    · obtain ⟨_, _, o2, q2, _⟩ := st; exact ⟨o2, q2⟩
  refine codeAny_forLoop_any (fun n s' => ∃ j ρ' mo' val' fp', j ≤ ns.length ∧ n = ns.length + 1 - j ∧ J j ρ' ∧ St c f ρ' mo' val' fp' s' ∧ Step c f mo s mo' s' ∧ ((∃ old, IsEnum s'.heap en it (j : Nat) old) ∧ s'.heap.IsListIter it l j ∧ s'.heap.IsList l vs) ∧
      (∀ b ∈ [en, it, l], ¬ mo' b)) ?_ (ns.length + 1) ⟨0, ρ, mo, val, fp, Nat.zero_le _, rfl, h0, S2, Step.ext x12, st0, nMo⟩
  rintro n s' ⟨j, ρ', mo', val', fp', hj, rfl, hJ, S', X', hSx, hnm⟩
  by_cases hlt2 : j < ns.length
  · refine T.item j s' _ _ (by omega) hSx fun Ta vals h3 tk hP hTs hTt hMid hk3 => ?_
    obtain ⟨t, x', hPx, rfl⟩ := hP
    obtain ⟨m, t', hm', rfl⟩ := ints_get g4 hPx
    have hap := T.apart j Ta h3 hMid
    refine T.go _ _ _ j Ta { s' with heap := h3, toks := tk } _ _ hMid fun h4 hSx4 hk4 => ?_
    have hk34 : ∀ b o, b ∉ [en, it] → s'.heap.get? b = some o → h4.get? b = some o := fun b o hb q => hk4 b o hb (hk3 b o hb q)
    have S3 := S'.soft (h' := h4) (tk := tk) hk34 (fld j _ hSx) wrH0 wrHB wrX
    have hT4 : IsTup h4 Ta #[.int j t, .int m t'] := let ⟨o, ho, r⟩ := hTt; ⟨o, hk4 Ta o hap ho, r⟩
    obtain ⟨ρ1, ρ2, hU1, hU2, hB⟩ := hb j m ρ' hm' hJ
    obtain ⟨hx1, hi1, rfl⟩ := hU1.get
    obtain ⟨hx2, hi2, rfl⟩ := hU2.get
    refine assign_Tuple_tuple (s := { s' with heap := h4, toks := tk }) S.ok.room.hand hT4 rfl rfl (fun h5 he => ?_)
    have x45 : Ext c { s' with heap := h4, toks := tk } { s' with heap := h5, toks := tk } := Ext.of S3.wf fun b o q => he b o (Nat.ne_of_lt (Heap.lt_size q)) q
    have S45 := S3.ext x45
    show wpAny _ _ (do holding [.int m t'] (assign (.Name x xp) f.env (.int j t)); assignInOrder [assign (.Name y yp) f.env] [.int m t']) _ _ _
    refine wpAny_bind (wpAny_holding (wpAny_assign_Name ?_))
    refine store_step (as := []) (sl := ⟨.lo, .int j⟩) FS S45 hx1 hi1 (.int _ _) nofun (slotOk_of (by nofun) nofun fun _ => nofun) fun s4a S4a hk4a th4a => ?_
    show wpAny _ _ (do holding [] (assign (.Name y yp) f.env (.int m t')); assignInOrder [] []) _ _ _
    refine wpAny_bind (wpAny_holding (wpAny_assign_Name ?_))
    refine store_step (as := []) (sl := ⟨.lo, .int m⟩) FS S4a hx2 hi2 (.int _ _) nofun (slotOk_of (by nofun) nofun fun _ => nofun) fun s4 S4 hk4b th4b => ?_
    refine wpAny_pure ?_
    have hk5 : ∀ b o, ¬ Pv f b → h4.get? b = some o → s4.heap.get? b = some o := fun b o hp q => hk4b b o hp (hk4a b o hp (he b o (Nat.ne_of_lt (Heap.lt_size q)) q))
    have th5 : ∀ b o, h4.get? b = some o → ∃ o', s4.heap.get? b = some o' := fun b o q => by
      obtain ⟨o1, q1⟩ := th4a b o (he b o (Nat.ne_of_lt (Heap.lt_size q)) q)
      exact th4b b o1 q1
    have mo4' : ∀ b, moWith (moWith mo' .lo []) .lo [] b → mo' b := fun b h => moWith_not (by nofun) (moWith_not (by nofun) h)
    have X4 : Step c f mo s (moWith (moWith mo' .lo []) .lo []) s4 := ⟨fun b o h1 h2 h3' e => by
        have e1 := X'.kp b o h1 h2 h3' e
        have e2 := hk34 b o (fun q => by rw [wrNs b q] at e; cases e) e1
        exact hk5 b o h2 e2, fun b o e => by
        obtain ⟨o1, e1⟩ := X'.th b o e
        have e2 := hk34 b o1 (fun q => by rw [wrNs b q] at e; cases e) e1
        exact th5 b o1 e2, fun b h => X'.mo b (mo4' b h)⟩
    have hSx5 := T.frame (j + 1) _ s4.heap hSx4 fun b hb o e => hk5 b o (nPv b hb) e
    refine wpAny_mono (hB _ _ _ s4 S4) (fun fl s5 hp => ?_) fun _ _ z => z.elim
    obtain ⟨fl', ρ5, mo5, val5, fp5, hfl, S5, X5, hq⟩ := hp
    have X05 := X4.trans X5
    cases fl <;> cases fl' <;> first | exact hfl.elim | skip
    all_goals first
      | exact ⟨.next, ρ5, mo5, val5, fp5, trivial, S5, X05, hq⟩
      | exact ⟨.ret _ _, ρ5, mo5, val5, fp5, hfl, S5, X05, hq⟩
      | skip
    all_goals (
      have keep45 : ∀ b o, ¬ c.X b → ¬ Pv f b → ¬ mo' b → s4.heap.get? b = some o → s5.heap.get? b = some o := fun b o h1 h2 h3' e => X5.kp b o h1 h2 (fun q => h3' (mo4' b q)) e
      refine ⟨ns.length + 1 - (j + 1), by omega, j + 1, ρ5, mo5, val5, fp5, by omega, rfl, hq, S5, X05, ?_, ?_⟩
      · exact T.frame _ _ _ hSx5 fun b hb o e => keep45 b o (nX b hb) (nPv b hb) (hnm b hb) e
      · intro b hb h
        rcases X5.mo b h with q | q
        · exact hnm b hb (mo4' b q)
        · obtain ⟨o, e⟩ := inFp (j + 1) _ hSx5 b hb; rw [q] at e; cases e)
  · have hj' : j = ns.length := by omega
    subst hj'
    refine T.done s' _ _ (by rw [hsz1]; exact hSx) fun h3 tk hk3 => ?_
    refine wpAny_execs_nil ?_
    exact ⟨.next, ρ', mo', val', fp', trivial, S'.soft hk3 (fld _ _ hSx) wrH0 wrHB wrX, ⟨fun b o h1 h2 h3' e => hk3 b o (fun q => by rw [wrNs b q] at e; cases e) (X'.kp b o h1 h2 h3' e),
      fun b o e => let ⟨o1, e1⟩ := X'.th b o e; ⟨o1, hk3 b o1 (fun q => by rw [wrNs b q] at e; cases e) e1⟩, X'.mo⟩, hend ρ' hJ⟩
theorem s_forEn {x y : Str} {xp yp tp rp ep : Pos} {tn : Nat} {e : Expr} {i1 i2 : Nat} {ns : List Int} {k : EK} {rest : List Stmt} (C : CxOk c) (B : Bi c "enumerate" (.type "enumerate")) (hx : f.env.kindOf "enumerate" = some .globalImplicit) (FS : FmS c f) (h : Ev c f ρ e (.list (ns.map .int)) k) (hk : k.safe = true)
    (J : Nat → Rho → Prop) (h0 : J 0 ρ)
    (hb : ∀ j n ρ', ns[j]? = some n → J j ρ' → ∃ ρ1 ρ2, Upd f.xs ρ' x (some ⟨.lo, .int (j : Int)⟩) ρ1 i1 ∧ Upd f.xs ρ1 y (some ⟨.lo, .int n⟩) ρ2 i2 ∧ Ex c f body ρ2 (loopQ (J (j + 1)) (seqQ c f rest Q)))
    (hend : ∀ ρ', J ns.length ρ' → Ex c f rest ρ' Q)
    (he : ∀ env rest, starEach (e :: rest) env = (false, eval e env) :: starEach rest env := by intros; rfl)
    (hs : ∀ env x, foldedSetIterable (.Call (.Name "enumerate" rp) [e] [] ep) env x = pure x := by intro _ _; rfl) : Ex c f (.For (.Tuple [.Name x xp, .Name y yp] tn tp) (.Call (.Name "enumerate" rp) [e] [] ep) body [] pos :: rest) ρ Q :=
  ex_cons (ex_forEn C B hx FS h hk J h0 hb hend he hs)
end
end Mine

namespace Mine
open PySem PySem.Spec PySem.Calls PyProof.Rows
/-! ' '.join(map(str, list of ints)) -/
theorem own_map : Manifest.owners.lookup (String.ofList ['p', 'a', 'm'].reverse) = some Manifest.sig_map := by kernel_rfl
theorem slot_map_init : PySem.Slot "map" "__init__" "object.__init__" :=
  .of (owner := "object") (n := "__init__") (by rw [typeLookup_type, builtinLookup_eq_fast]; kernel_rfl) (by decide +kernel) (by decide +kernel) (by decide +kernel)
    (by first | exact .inl (by decide +kernel) | exact .inr (by decide +kernel)) (by rw [isSubtype_type]; kernel_rfl)
theorem slot_map_iter : PySem.Slot "map" "__iter__" "map.__iter__" :=
  .of (owner := "map") (n := "__iter__") (by rw [typeLookup_type, builtinLookup_eq_fast]; kernel_rfl) (by decide +kernel) (by decide +kernel) (by decide +kernel)
    (by first | exact .inl (by decide +kernel) | exact .inr (by decide +kernel)) (by rw [isSubtype_type]; kernel_rfl)
theorem slot_map_next : PySem.Slot "map" "__next__" "map.__next__" :=
  .of (owner := "map") (n := "__next__") (by rw [typeLookup_type, builtinLookup_eq_fast]; kernel_rfl) (by decide +kernel) (by decide +kernel) (by decide +kernel)
    (by first | exact .inl (by decide +kernel) | exact .inr (by decide +kernel)) (by rw [isSubtype_type]; kernel_rfl)
theorem args_map_iter (a : Value) : argsOk "map.__iter__" ⟨[a], []⟩ := by
  unfold argsOk; rw [signature?_of (id := "map.__iter__") (n := ['_', '_', 'r', 'e', 't', 'i', '_', '_']) (o := ['p', 'a', 'm']) (by kernel_rfl) own_map]; kernel_rfl
theorem args_map_next (a : Value) : argsOk "map.__next__" ⟨[a], []⟩ := by
  unfold argsOk; rw [signature?_of (id := "map.__next__") (n := ['_', '_', 't', 'x', 'e', 'n', '_', '_']) (o := ['p', 'a', 'm']) (by kernel_rfl) own_map]; kernel_rfl
theorem entry_map_next : entryFor table "map.__next__" = some Builtin.«map.__next__» := entryFor_of_tree (by kernel_rfl)
theorem entry_map_new : entryFor table "map.__new__" = some Builtin.«map.__new__» := entryFor_of_tree (by kernel_rfl)
theorem entry_map_iter : entryFor table "map.__iter__" = some Builtin.«dict_keyiterator.__iter__» :=
  entryFor_alias (id' := "dict_keyiterator.__iter__") (by kernel_rfl) (by first | rfl | decide +kernel | (unfold String.splitOn; simp +decide [String.splitOnAux])) (by decide +kernel) (by kernel_rfl)
theorem mro_map : mroOf (.type "map") = pure [.type "map", .type "object"] := by rw [mroOf_type]; kernel_rfl
theorem lookup_map_new : typeLookup (.type "map") "__new__" = pure (some (.builtin "map.__new__")) := by rw [typeLookup_type, builtinLookup_eq_fast]; kernel_rfl
theorem called_map : TypeCalled "map" "map.__new__" "object.__init__" :=
  ⟨by decide +kernel, by decide +kernel, ⟨_, _, mro_map⟩, madeBy_type mro_map lookup_map_new (by decide +kernel), by decide +kernel, by rw [isSubtype_type]; kernel_rfl, slot_map_init⟩
theorem typeCall_map_2 (a b : Value) : checkTypeCall "map" ⟨[a, b], []⟩ = pure () := by kernel_rfl
theorem newCall_map_2 (a b : Value) : checkBuiltinCall "map.__new__" ⟨[.type "map", a, b], []⟩ = pure () := by kernel_rfl
theorem sub_map : isSubtype (.type "map") (.type "map") = pure true := by rw [isSubtype_type]; kernel_rfl
theorem map_no_len : typeLookup (.type "map") "__len__" = pure none := by rw [typeLookup_type, builtinLookup_eq_fast]; kernel_rfl
theorem map_no_hint : typeLookup (.type "map") "__length_hint__" = pure none := by rw [typeLookup_type, builtinLookup_eq_fast]; kernel_rfl

abbrev IsMap (h : Heap) (z TI : Addr) : Prop := h.get? z = some { cls := .type "map", data := .fields #[.ref TI, .type "str"] }
abbrev IsOne (h : Heap) (T : Addr) (a : Value) : Prop := h.get? T = some { cls := .type "tuple", data := .seq #[a] }
abbrev mapH1 (h : Heap) (l : Addr) : Heap := h.push { cls := .type "list_iterator", data := .fields #[.ref l, .int 0 0] }
abbrev mapH2 (h : Heap) (l : Addr) : Heap := (mapH1 h l).push { cls := .type "tuple", data := .seq #[.ref h.objs.size] }
abbrev mapH3 (h : Heap) (l : Addr) : Heap := (mapH2 h l).push { cls := .type "map", data := .fields #[.ref (mapH1 h l).objs.size, .type "str"] }
theorem meets_map_new (l : Addr) (xs : Array Value) :
    Meets (Builtin.«map.__new__» ⟨[.type "map", .type "str", .ref l], []⟩) (fun _ R s => s.heap.IsList l xs ∧
      R (.ok (.ret (.ref (mapH2 s.heap l).objs.size))) { s with heap := mapH3 s.heap l }) :=
  .of_wp fun prog w A R s h => by
    obtain ⟨hp, g, d, tk, os⟩ := s; obtain ⟨hl1, h⟩ := h
    have hsub := sub_map
    have hL1 : Heap.IsList (Shared.heap ⟨hp, g, d, tk, os⟩) l xs := hl1
    wp_walk using wpAny_pyIter_list hL1
    exact ⟨_, rfl, h⟩
section
variable {prog : Program} {w : World} {A : Around} {E : Value → Shared → Prop} {s : Shared}
theorem call_map_str {l : Addr} {xs : Array Value} {Q : Value → Shared → Prop} (hl : s.heap.IsList l xs)
    (h : ∀ h', IsMap h' (s.heap.objs.size + 2) (s.heap.objs.size + 1) → IsOne h' (s.heap.objs.size + 1) (.ref s.heap.objs.size) → h'.IsListIter s.heap.objs.size l 0 → h'.objs.size = s.heap.objs.size + 3 →
      (∀ b o, s.heap.get? b = some o → h'.get? b = some o) → Q (.ref (s.heap.objs.size + 2)) { s with heap := h' }) :
    wpAny (model prog w) A (call (.type "map") [.type "str", .ref l]) Q E s := by
  refine callType_new called_map (by decide) (typeCall_map_2 _ _) (newCall_map_2 _ _) (fun obj => F.args_object_init_3 obj _ _) entry_map_new (meets_map_new l xs) ⟨hl, ?_⟩
  have z1 : (mapH1 s.heap l).objs.size = s.heap.objs.size + 1 := Heap.size_push ..
  have z2 : (mapH2 s.heap l).objs.size = s.heap.objs.size + 2 := by rw [Heap.size_push, z1]
  have z3 : (mapH3 s.heap l).objs.size = s.heap.objs.size + 3 := by rw [Heap.size_push, z2]
  have g3 : (mapH3 s.heap l).get? (mapH2 s.heap l).objs.size = some _ := Heap.get?_push_size _ rfl
  have g2 : (mapH3 s.heap l).get? (mapH1 s.heap l).objs.size = some _ := Heap.get?_push_of_some _ (Heap.get?_push_size _ rfl)
  have g1 : (mapH3 s.heap l).get? s.heap.objs.size = some _ := Heap.get?_push_of_some _ (Heap.get?_push_of_some _ (Heap.get?_push_size _ rfl))
  show _ ∧ _
  rw [z1, z2] at g3
  rw [z1] at g2
  rw [z2]
  exact ⟨⟨_, g3, rfl⟩, h _ g3 g2 ⟨_, g1, rfl, rfl⟩ z3 fun b o x => Heap.get?_push_of_some _ (Heap.get?_push_of_some _ (Heap.get?_push_of_some _ x))⟩

theorem map_next_item {z TI it l : Addr} {k : Nat} {xs : Array Value} {n : Int} {t : Tok} {Q : Value → Shared → Prop} (hlit : l ≠ it) (hzi : z ≠ it)
    (hz : IsMap s.heap z TI) (hT : IsOne s.heap TI (.ref it)) (hi : s.heap.IsListIter it l k) (hl : s.heap.IsList l xs) (hx : xs[k]? = some (.int n t)) (hn : n.natAbs.log2 < 1920)
    (hQ : ∀ h' tk t', h'.IsListIter it l (k + 1) → Heap.SameBut it s.heap h' → s.toks ≤ tk → Q (.str (Str.ofString (toString n)) t') { s with heap := h', toks := tk }) :
    wpAny (model prog w) A (Builtin.«map.__next__» ⟨[.ref z], []⟩) (fun fin s' => ∃ v, fin = .done (.ret v) ∧ Q v s') E s := by
  show wpAny _ _ (field (.ref z) 0 >>= _) _ _ _
  refine wpAny_bind (wpAny_field hz rfl (x := .ref TI) rfl ?_)
  refine wpAny_bind (wpAny_seqItems hT rfl ?_)
  refine wpAny_bind ?_
  simp only [← Array.forIn_toList, List.forIn_cons, List.forIn_nil]
  refine wpAny_bind (wpAny_bind (wpAny_holding ?_))
  refine wpAny_nextOf_list_item hi hl hx fun h1 hi1 hs1 => ?_
  refine wpAny_pure (wpAny_pure ?_)
  have hz1 : IsMap h1 z TI := hs1.extBut _ _ hzi hz
  refine wpAny_bind (wpAny_field (s := { s with heap := h1 }) hz1 rfl (x := .type "str") rfl ?_)
  refine wpAny_bind (wpAny_holding (P.str_of_int hn ?_))
  refine wpAny_bind (wpAny_letGo (wpAny_pure ⟨_, rfl, ?_⟩))
  exact hQ h1 _ _ hi1 hs1 (Nat.le_succ _)
theorem map_next_end {z TI it l : Addr} {k : Nat} {xs : Array Value} {Q : Fin → Shared → Prop} (hh : A.handled = none)
    (hz : IsMap s.heap z TI) (hT : IsOne s.heap TI (.ref it)) (hi : s.heap.IsListIter it l k) (hl : s.heap.IsList l xs) (hx : xs[k]? = none)
    (hE : ∀ h' e, Heap.ExtBut it s.heap h' → (∃ o, h'.get? e = some o ∧ o.cls = .type "StopIteration") → E (.ref e) { s with heap := h' }) :
    wpAny (model prog w) A (Builtin.«map.__next__» ⟨[.ref z], []⟩) Q E s := by
  show wpAny _ _ (field (.ref z) 0 >>= _) _ _ _
  refine wpAny_bind (wpAny_field hz rfl (x := .ref TI) rfl ?_)
  refine wpAny_bind (wpAny_seqItems hT rfl ?_)
  refine wpAny_bind ?_
  simp only [← Array.forIn_toList, List.forIn_cons, List.forIn_nil]
  refine wpAny_bind (wpAny_bind (wpAny_holding ?_))
  exact wpAny_nextOf_list_end hh hi hl hx hE

def MapAt (z TI it l : Addr) (xs : Array Value) (i : Nat) (s : Shared) : Prop := IsMap s.heap z TI ∧ IsOne s.heap TI (.ref it) ∧ s.heap.IsListIter it l i ∧ s.heap.IsList l xs
theorem walks_map {z TI it l : Addr} {xs : Array Value} {ns : List Int} (hh : A.handled = none) (hlit : l ≠ it) (hzi : z ≠ it) (hTi : TI ≠ it) (hlen : xs.size = ns.length) (hxs : ∀ (j : Nat) (x : Value), xs[j]? = some x → ∃ (n : Int) (t : Tok), ns[j]? = some n ∧ x = .int n t) (hn : ∀ n ∈ ns, n.natAbs.log2 < 1920) :
    WalksS prog w A z [z, TI, it, l] [it] Eq ns.length (fun i v => ∃ n t, ns[i]? = some n ∧ v = .str (Str.ofString (toString n)) t) (MapAt z TI it l xs) where
  sub := fun b hb => by rw [List.mem_singleton.mp hb]; simp
  grefl := fun _ => rfl
  gtrans := fun _ _ _ h1 h2 => h1.trans h2
  frame := fun i s h' tk st htk hk => ⟨hk z (by simp) _ st.1, hk TI (by simp) _ st.2.1, st.2.2.1.at fun o e => hk it (by simp) o e, st.2.2.2.at fun o e => hk l (by simp) o e⟩
  item := fun i s Q E hi st hQ => by
    obtain ⟨hz, hT, hI, hl⟩ := st
    obtain ⟨x, hx⟩ : ∃ x, xs[i]? = some x := ⟨_, Array.getElem?_eq_getElem (by omega)⟩
    obtain ⟨n, t, hn', rfl⟩ := hxs i x hx
    have hTy : s.TypeIs (.ref z) "map" := ⟨_, hz, rfl⟩
    unfold pyNext
    refine wpAny_bind (wpAny_attempt (wpAny_callSpecial?_slot (name := Str.ofString "__next__") hTy slot_map_next
      (wpAny_call_entry slot_map_next hTy entry_map_next
        (map_next_item hlit hzi hz hT hI hl hx (hn n (List.mem_of_getElem? hn')) fun h' tk t' hI' hs' htk => wpAny_pure ?_) (args_map_next _))))
    exact hQ _ _ ⟨n, t', hn', rfl⟩ ⟨hs'.extBut _ _ hzi hz, hs'.extBut _ _ hTi hT, hI', hl.extBut hs'.extBut hlit⟩ ⟨fun b o hb e => hs'.extBut _ _ (fun q => hb (by simp [q])) e, rfl, rfl, rfl, htk⟩
  done := fun s Q E st hQ => by
    obtain ⟨hz, hT, hI, hl⟩ := st
    have hTy : s.TypeIs (.ref z) "map" := ⟨_, hz, rfl⟩
    unfold pyNext
    refine wpAny_bind (wpAny_attempt (wpAny_callSpecial?_slot (name := Str.ofString "__next__") hTy slot_map_next
      (wpAny_call_entry slot_map_next hTy entry_map_next (map_next_end hh hz hT hI hl (by rw [← hlen]; simp) fun h' e hk he => ?_) (args_map_next _))))
    obtain ⟨o, ho, hc⟩ := he
    refine wpAny_bind (wpAny_isInstance (T := "StopIteration") (b := true) ⟨o, ho, hc⟩ isSubtype_stop ?_)
    exact wpAny_pure (hQ _ ⟨fun b o hb e => hk _ _ (fun q => hb (by simp [q])) e, rfl, rfl, rfl, Nat.le_refl _⟩)
  self := fun i s Q E st hQ => by
    have hTy : s.TypeIs (.ref z) "map" := ⟨_, st.1, rfl⟩
    refine wpAny_pyIter_slot hTy slot_map_iter (wpAny_call_entry slot_map_iter hTy entry_map_iter ?_ (args_map_iter _))
    show wpAny _ _ (ret (.ref z)) _ _ s
    exact wpAny_pure ⟨_, rfl, "map", _, hTy, slot_map_next.lookup, hQ⟩
end
section
variable {prog : Program} {w : World} {A : Around} {E : Value → Shared → Prop} {s : Shared} {I : Addr} {fp wr : List Addr} {n : Nat} {P : Nat → Value → Prop} {St : Nat → Shared → Prop}
/-- a map object is drawn empty into a list -/
theorem collect_map {Q : List Value → Shared → Prop} (W : WalksS prog w A.in1 I fp wr Eq n P St) (hT : ∀ i s, St i s → s.TypeIs (.ref I) "map") (hst : St 0 s) (hfp : ∀ b ∈ fp, b < s.heap.objs.size) (hI : I ∈ fp)
    (hQ : ∀ s' acc, Moved wr Eq s s' → ItemsOf P acc n → Q acc.toList s') (hn : n ≤ sizeLine) : wpAny (model prog w) A (collect (.ref I)) Q E s := by
  generalize hS : s.heap.objs.size = S
  have nSf : S ∉ fp := fun hm => Nat.lt_irrefl _ (hS ▸ hfp _ hm)
  have nSI : S ≠ I := fun e => nSf (e ▸ hI)
  unfold collect
  refine wpAny_bind (wpAny_runValue (codeAny_builtin F.entry_proto_collect ?_))
  rw [Around.under_plainId F.plain_proto_collect _]
  show wpAny _ A.in1 (newList [] >>= fun l => again (.builtin "list.__iadd__" ⟨[l, .ref I], []⟩)) _ _ s
  refine wpAny_bind (wpAny_newObj_type ?_)
  refine wpAny_pure ⟨plainId_quiet F.plain_list_iadd _, codeAny_builtin F.entry_list_iadd ?_⟩
  rw [Around.under_plainId F.plain_list_iadd _]
  generalize hh1 : s.heap.push { cls := .type "list", data := .seq ([] : List Value).toArray } = h1
  have kp1 : ∀ b o, s.heap.get? b = some o → h1.get? b = some o := fun b o e => by rw [← hh1]; exact Heap.get?_push_of_some _ e
  have hS1 : h1.get? S = some { cls := .type "list", data := .seq ([] : List Value).toArray } := by rw [← hh1, ← hS]; exact Heap.get?_push_size _ rfl
  have st1 := W.frame 0 s h1 s.toks hst (Nat.le_refl _) fun b _ o e => kp1 b o e
  rw [hS]
  show wpAny _ A.in1 (Builtin.List.listExtendWith (.ref S) (.ref I) (.ref S)) _ _ _
  unfold Builtin.List.listExtendWith
  refine wpAny_bind (wpAny_typeOf (hT 0 _ st1) ?_)
  have q1 : Builtin.List.listSameRef (.ref S) (.ref I) = false := by simp [Builtin.List.listSameRef, nSI]
  have q2 : (Value.type "map" == Value.type "list") = false := by decide
  have q3 : (Value.type "map" == Value.type "tuple") = false := by decide
  simp only [q1, q2, q3, Bool.or_false, Bool.false_eq_true, if_false]
  refine wpAny_bind (W.self 0 _ _ _ st1 ?_)
  refine wpAny_bind (wpAny_holding ?_)
  unfold Builtin.List.listLengthHint
  refine wpAny_bind (wpAny_specialOf (hT 0 _ st1) map_no_len ?_)
  show wpAny _ A.in1 (specialOf (Value.ref I) (Str.ofString "__length_hint__") >>= _) _ _ _
  refine wpAny_bind (wpAny_specialOf (hT 0 _ st1) map_no_hint ?_)
  refine wpAny_pure ?_
  show wpAny _ A.in1 (rule "list.extend.makes-room" >>= fun _ => Builtin.List.listTouch (.ref S) >>= fun _ =>
    again (.builtin "list.extend.loop" ⟨[.ref S, .ref I, .ref S], []⟩)) _ _ _
  refine wpAny_bind (wpAny_rule ?_)
  refine wpAny_bind ?_
  show wpAny _ A.in1 (updateSeq S (·.push .none) >>= fun _ => updateSeq S (·.pop)) _ _ _
  refine wpAny_bind (wpAny_updateSeq hS1 rfl ?_)
  have hS2 := Heap.get?_update_self (Obj.mapSeq (·.push Value.none)) hS1 rfl
  refine wpAny_updateSeq hS2 rfl ?_
  have hS3 := Heap.get?_update_self (Obj.mapSeq (·.pop)) hS2 rfl
  generalize hh3 : (h1.update S (Obj.mapSeq (·.push Value.none))).update S (Obj.mapSeq (·.pop)) = h3 at *
  have oth : ∀ b o, b ≠ S → h1.get? b = some o → h3.get? b = some o := fun b o hb e => by rw [← hh3]; exact (Heap.get?_update_other _ _ (Ne.symm hb)).trans ((Heap.get?_update_other _ _ (Ne.symm hb)).trans e)
  have st3 := W.frame 0 ({ s with heap := h1 } : Shared) h3 s.toks st1 (Nat.le_refl _) fun b hb o e => oth b o (fun h => nSf (h ▸ hb)) e
  refine wpAny_pure ⟨plainId_quiet F.plain_extend_loop _, codeAny_extend_loopS W hn S nSf _ n 0 _ _ _ rfl (Nat.zero_le _) st3 hS3 (ItemsOf.nil P) fun s' acc' c' hm hS' hacc => ?_⟩
  show wpAny _ A (load S >>= _) _ _ s'
  refine wpAny_bind (wpAny_load hS' ?_)
  refine wpAny_pure (hQ s' acc' ⟨fun b o hb e => ?_, hm.gens, hm.drawn, hm.os, hm.toks⟩ hacc)
  have hbS : b ≠ S := fun q => Nat.lt_irrefl S (by have := Heap.lt_size e; rw [hS, q] at this; exact this)
  exact hm.heap b o (fun q => (List.mem_cons.mp q).elim hbS hb) (oth b o hbS (kp1 b o e))
theorem joinTail_made (x : Str) : ∀ l : List (Str × Tok), Builtin.Str.tooLong (((l.map (·.1)).toArray).foldl (· + ·.length + x.length) 0) = false → Gives (joinTail x (strValues l)) (joinMade x l)
  | [], h => gives_joinTail x [] h
  | [p], h => gives_joinTail x [p] h
  | p :: q :: r, h => gives_joinTail x (p :: q :: r) h
theorem join_map {x : Str} {t : Tok} {Q : Value → Shared → Prop} (W : WalksS prog w A.in1.in1 I fp wr Eq n P St) (hT : ∀ i s, St i s → s.TypeIs (.ref I) "map") (hst : St 0 s) (hfp : ∀ b ∈ fp, b < s.heap.objs.size) (hI : I ∈ fp)
    (hstr : ∀ i v, P i v → ∃ y u, v = Value.str y u)
    (hq : ∀ s' (l : List (Str × Tok)), Moved wr Eq s s' → ItemsOf P (strValues l).toArray n → JoinOk x (l.map (·.1)) = true ∧ ∀ t' k, Q (.str (Txt.join x (l.map (·.1))) t') { s' with toks := k })
    (hsz : n ≤ sizeLine) :
    wpAny (model prog w) A (call (.builtin "str.join") [.str x t, .ref I]) Q E s := by
  refine wpAny_call (codeAny_call_builtin F.slot_str_join.plain F.entry_str_join (F.slot_str_join.check _ _ _ _ _ _ _ _ (typeIs_str _ _ _) (F.args_str_join_2 _ _) ?_))
  rw [join_tree_other]
  refine wpAny_bind (wpAny_typeOf (hT 0 s hst) ?_)
  show wpAny _ A.in1 ((pyIter (.ref I)).tryCatch _ >>= fun it => collect it >>= fun items => joinTail x items) _ _ s
  refine wpAny_bind (wpAny_tryCatch (W.of_in1.self 0 s _ _ hst ?_))
  refine wpAny_bind (collect_map W hT hst hfp hI (fun s' acc hm hacc => ?_) hsz)
  obtain ⟨l, hl⟩ := exists_strValues acc.toList fun v hv => by
    obtain ⟨j, hj, rfl⟩ := Array.mem_iff_getElem.mp (Array.mem_toList_iff.mp hv)
    exact hstr j _ (hacc.2 j _ (Array.getElem?_eq_getElem hj))
  rw [← hl]
  have hacc' : ItemsOf P (strValues l).toArray n := by rw [hl]; simpa using hacc
  obtain ⟨hok, hpost⟩ := hq s' l hm hacc'
  have hok' : Builtin.Str.tooLong (((l.map (·.1)).toArray).foldl (· + ·.length + x.length) 0) = false := by unfold JoinOk at hok; simpa using hok
  have g : Gives (joinTail x (strValues l)) (joinMade x l) := joinTail_made x l hok'
  exact g prog w A (wants Q E) s' (post_join l ⟨joinFit_length hok', hpost⟩)
end
end Mine

set_option maxRecDepth 100000
namespace Mine
open PySem PySem.Spec PySem.Calls PyProof.Rows
theorem items_strs {l : List (Str × Tok)} {ns : List Int} (h : ItemsOf (fun i v => ∃ n t, ns[i]? = some n ∧ v = .str (Str.ofString (toString n)) t) (strValues l).toArray ns.length) : l.map (·.1) = ns.map fun (n : Int) => Str.ofString (toString n) := by
  obtain ⟨h1, h2⟩ := h
  have hl : l.length = ns.length := by simpa [strValues] using h1
  refine List.ext_getElem? fun j => ?_
  rw [List.getElem?_map, List.getElem?_map]
  by_cases hj : j < l.length
  · have e1 : l[j]? = some l[j] := List.getElem?_eq_getElem hj
    have e2 : (strValues l).toArray[j]? = some (.str l[j].1 l[j].2) := by simp [strValues, e1]
    obtain ⟨n, t, q1, q2⟩ := h2 j _ e2
    injection q2 with q2 _
    rw [e1, q1]
    exact congrArg some q2
  · rw [List.getElem?_eq_none (by omega), List.getElem?_eq_none (by omega)]; rfl
section
variable {c : Cx} {f : Fm} {ρ ρ' : Rho} {rest : List Stmt} {Q : Fl → Rho → Prop} {e : Expr} {d : PyData} {k k1 : EK} {pos xp sp ap mp np cp cp2 : Pos} {x : Str} {i nn : Nat} {sk : K} {ns : List Int}
/-- sep.join(map(str, e)) -/
theorem ev_joinMap {sep : Str} (C : CxOk c) (Bmap : Bi c "map" (.type "map")) (Bstr : Bi c "str" (.type "str")) (hxm : f.env.kindOf "map" = some .globalImplicit) (hxs : f.env.kindOf "str" = some .globalImplicit)
    (h : Ev c f ρ e (.list (ns.map .int)) k) (hn : ∀ n ∈ ns, n.natAbs.log2 < 1920) (hok : JoinOk sep (ns.map fun (n : Int) => Str.ofString (toString n)) = true) (hsz : ns.length ≤ sizeLine)
    (he : ∀ env rest, starEach (e :: rest) env = (false, eval e env) :: starEach rest env := by intros; rfl)
    (hbase : ∀ env, attributeBase (.Constant (.str sep) nn sp) "join" env (eval (.Constant (.str sep) nn sp) env) = eval (.Constant (.str sep) nn sp) env := by intro _; rfl) (hline : (ap.endLine == cp2.line) = true := by rfl)
    (htrees : ∀ env, backTo cp2 (starEach [.Call (.Name "map" mp) [.Name "str" np, e] [] cp] env) = [(false, eval (.Call (.Name "map" mp) [.Name "str" np, e] [] cp) env)] := by intro _; rfl) :
    Ev c f ρ (.Call (.Attribute (.Constant (.str sep) nn sp) "join" ap) [.Call (.Name "map" mp) [.Name "str" np, e] [] cp] [] cp2) (.str (Str.join sep (ns.map fun (n : Int) => Str.ofString (toString n)))) .fr := by
  intro mo val fp s E S
  refine wpAny_Call_method1_late (hbase _) hline (htrees _) (ev_str.bind S fun v0 s0 as0 x0 S0 r0 _ => ?_)
  cases r0 with | str _ t =>
  refine ⟨"str", "str.join", F.plainAttrs_str, F.slot_str_join, F.type_str_join, typeIs_str _ _ _, nofun, ?_⟩
  refine Calls.callWith_builtin rfl (evalArgs_plain (spliced_cons ?_))
  refine Call_ (builtin_name C Bmap hxm S0 ?_)
  have hst : ∀ env : Env, starEach [.Name "str" np, e] env = [(false, eval (.Name "str" np) env), (false, eval e env)] := fun env => by
    show (false, eval (.Name "str" np) env) :: starEach [e] env = _
    rw [he]; rfl
  refine PySem.callWith_type (by rw [hst]; rfl) ?_
  rw [hst]
  refine evalArgs_plain (spliced_cons (builtin_name C Bstr hxs S0 (spliced_cons (h.bind S0 fun v s1 as x1 S1 r1 ko => spliced_nil ?_))))
  cases r1 with | list g1 g2 g3 g4 =>
  rename_i l o vs n bs
  refine call_map_str (l := l) (xs := vs) ⟨_, g1, g2, _, g3⟩ fun h' hz hT hI hsz' hkp => ?_
  refine spliced_nil ?_
  have hlt := Heap.lt_size g1
  have hl' : h'.IsList l vs := ⟨_, hkp _ _ g1, g2, _, g3⟩
  have hlen : vs.size = ns.length := by simpa using readsAll_length g4
  refine join_map (s := { s1 with heap := h' }) (walks_map (prog := c.prog) (w := c.w) (A := f.A.in1.in1) (z := s1.heap.objs.size + 2) (TI := s1.heap.objs.size + 1) (it := s1.heap.objs.size) (l := l) (xs := vs) S.ok.room.hand (Nat.ne_of_lt hlt) (Nat.ne_of_gt (Nat.lt_succ_of_lt (Nat.lt_succ_self _))) (Nat.succ_ne_self _) hlen (fun j x hx => ints_get g4 hx) hn)
    (fun i s st => ⟨_, st.1, rfl⟩) ⟨hz, hT, hI, hl'⟩ (fun b hb => ?_) (by simp) (fun i v hP => ?_) (fun s' L hm hit => ?_) hsz
  · show b < h'.objs.size
    rw [hsz']
    rcases List.mem_cons.mp hb with rfl | hb
    · exact Nat.lt_succ_self _
    rcases List.mem_cons.mp hb with rfl | hb
    · exact Nat.lt_succ_of_lt (Nat.lt_succ_self _)
    rcases List.mem_cons.mp hb with rfl | hb
    · exact Nat.lt_succ_of_lt (Nat.lt_succ_of_lt (Nat.lt_succ_self _))
    · rw [List.mem_singleton.mp hb]; exact Nat.lt_succ_of_lt (Nat.lt_succ_of_lt (Nat.lt_succ_of_lt hlt))
  · obtain ⟨n, t, _, rfl⟩ := hP; exact ⟨_, _, rfl⟩
  · have e1 := items_strs hit
    rw [e1]
    refine ⟨hok, fun t' kk => ?_⟩
    have x2 : Ext c s1 { s' with toks := kk } := Ext.of S1.wf (fun b o q => hm.heap b o (fun q' => by rw [List.mem_singleton.mp q', get_size_none] at q; cases q) (hkp b o q)) hm.gens.symm hm.os
    refine ⟨(x0.trans x1).trans x2, [], ?_, frNil⟩
    show Reads _ (.str (Builtin.Str.glued sep _) t') _ _
    rw [StrLaws.glued_eq_join]
    exact .str _ _
/-- x.index(e), the list owned -/
theorem ev_indexO {v : Int} {j : Nat} (hat : At f.xs ρ x ⟨.ow, .list (ns.map .int)⟩ i) (h : Ev c f ρ e (.int v) k) (hj : ns[j]? = some v) (hf : ∀ m, m < j → ns[m]? ≠ some v) (hsz : ns.length ≤ 1000)
    (hdb : (x == ("__debug__" : Str)) = false := by decide +kernel) (hn : (x == ("__classdict__" : Str)) = false := by decide +kernel)
    (hbase : ∀ env, attributeBase (.Name x xp) "index" env (eval (.Name x xp) env) = eval (.Name x xp) env := by intro _; rfl) (hline : (ap.endLine == cp.line) = true := by rfl)
    (htrees : ∀ env, backTo cp (starEach [e] env) = [(false, eval e env)] := by intro _; rfl) :
    Ev c f ρ (.Call (.Attribute (.Name x xp) "index" ap) [e] [] cp) (.int (j : Int)) .fr := by
  intro mo val fp s E S
  refine wpAny_Call_method1_late (hbase _) hline (htrees _) (name_step S hat (fun _ => ?_) hdb hn)
  obtain ⟨a, vs, n, as, hv, hfp, hl, hr, hma⟩ := owned_list S hat.slot
  rw [hv]
  refine ⟨"list", "list.index", F.plainAttrs_list, F.slot_list_index, F.type_list_index, ⟨_, hl, rfl⟩, fun a' q => by cases q; exact ⟨_, hl, rfl⟩, ?_⟩
  refine P.index_list (h.bind S fun v1 s1 as1 x1 S1 r1 ko => ?_)
  cases r1 with | int _ t =>
  have hl1 : IsL s1.heap a vs n := listOrDict_ext S.wf x1 hl (.inl ⟨rfl, _, _, rfl⟩)
  have hlen : vs.size = ns.length := by simpa using readsAll_length hr
  have hjl : j < ns.length := (List.getElem?_eq_some_iff.mp hj).1
  have at' : ∀ m (hm : m < vs.size), ∃ t', vs[m] = .int (ns.getD m 0) t' := fun m hm => by
    obtain ⟨n', t', q1, q2⟩ := ints_get hr (Array.getElem?_eq_getElem hm)
    refine ⟨t', ?_⟩
    rw [q2, List.getD_eq_getElem?_getD, q1]; rfl
  have hgj : ns.getD j 0 = v := by rw [List.getD_eq_getElem?_getD, hj]; rfl
  refine ⟨vs, n, fun y => match y with | .int m _ => m == v | _ => false, j, by omega, hl1, fun y hy => ?_, by omega, ?_, fun m hm hmj => ?_, ?_⟩
  · obtain ⟨m, hm, rfl⟩ := Array.mem_iff_getElem.mp hy
    obtain ⟨t', e⟩ := at' m hm
    rw [e]
    exact MeetsSeq.EqGives.int _ _ _ _
  · obtain ⟨t', e⟩ := at' j (by omega)
    rw [e]; show (ns.getD j 0 == v) = true; rw [hgj]; simp
  · obtain ⟨t', e⟩ := at' m hm
    rw [e]; show (ns.getD m 0 == v) = false
    have := hf m hmj
    have hm' : m < ns.length := by omega
    rw [List.getElem?_eq_getElem hm'] at this
    rw [List.getD_eq_getElem?_getD, List.getElem?_eq_getElem hm']
    exact beq_eq_false_iff_ne.mpr fun q => this (congrArg some q)
  · exact ⟨x1.trans (Ext.toks x1.wf _), [], .int _ _, frNil⟩
theorem s_asgC (FS : FmS c f) (h : Ev c f ρ e d k) (hk : Fills k d sk) (hU : Upd f.xs ρ x (some ⟨sk, d⟩) ρ' i) (hQ : Ex c f rest ρ' Q) (hs : swapsWith e (some (.Name x xp)) pos.line f.env = pure false := by with_unfolding_all rfl) :
    Ex c f (.Assign [.Name x xp] e pos :: rest) ρ Q := by
  obtain ⟨hx, hi, rfl⟩ := hU.get
  refine ex_cons fun mo val fp s S => ?_
  refine wpAny_Assign_Name (h.bind S fun v s1 as x1 S1 r1 ko => ?_) hs
  obtain ⟨ok, fresh⟩ := hk.ok S x1 r1 ko (i := i)
  refine store_step (sl := ⟨sk, d⟩) FS S1 hx hi r1 ko.1 ok fun s2 S2 hk2 th2 => ?_
  refine ⟨.next, _, _, _, _, trivial, S2, ⟨fun b o h1 h2 h3 e => hk2 b o h2 (x1.up.kp b o h1 e), fun b o e => let ⟨o', e'⟩ := x1.up.th b o e; th2 b o' e', fun b h => ?_⟩, hQ⟩
  rcases h with h | ⟨h, hb⟩
  · exact .inl h
  · exact .inr (fresh h b hb)
end
/-! strings -/
theorem strOk_app {a b : Str} (ha : PyData.strOk a = true) (hb : PyData.strOk b = true) : PyData.strOk (a ++ b) = true := by
  rw [PyData.strOk] at *
  rw [Str.cps_append, Array.all_append, ha, hb]; rfl
theorem Sm.str {n : Nat} {s : Str} (h : PyData.strOk s = true) : Sm n (.str s) := ⟨by rw [PyData.canLay0]; exact h, Nat.zero_le _⟩
theorem sI_len (v : Nat) (h : v < 100) : 0 < (sI (v : Int)).length ∧ (sI (v : Int)).length ≤ 2 := by
  rw [sI, text_nat]
  show 0 < (dg v).toArray.size ∧ (dg v).toArray.size ≤ 2
  by_cases q : v < 10
  · rw [dg_small q]; simp
  · rw [dg_step (by omega), dg_small (by omega)]; simp
theorem sI_pos (v : Nat) : 0 < (sI (v : Int)).length := by
  rw [sI, text_nat]
  show 0 < (dg v).toArray.size
  by_cases q : v < 10
  · rw [dg_small q]; simp
  · rw [dg_step (by omega)]; simp
theorem lnI_ok (ns : List Int) (x : Int) : ∀ i, i ≤ 100 → PyData.strOk (lnI ns x i) = true ∧ (lnI ns x i).length ≤ 3 * i
  | 0, _ => ⟨strOk_ofString _, by show (Str.ofString "").length ≤ 0; rw [ofS_nil]; exact Nat.le_refl _⟩
  | i + 1, h => by
    obtain ⟨a, b⟩ := lnI_ok ns x i (by omega)
    have l1 : spc.length = 1 := by decide +kernel
    have := (sI_len i (by omega)).2
    show PyData.strOk (if ns.getD i 0 = x then (if lnI ns x i ≠ Str.ofString "" then lnI ns x i ++ spc else lnI ns x i) ++ sI (i : Int) else lnI ns x i) = true ∧ (if ns.getD i 0 = x then (if lnI ns x i ≠ Str.ofString "" then lnI ns x i ++ spc else lnI ns x i) ++ sI (i : Int) else lnI ns x i).length ≤ 3 * (i + 1)
    split
    · split
      · exact ⟨strOk_app (strOk_app a (strOk_ofString _)) (strOk_ofString _), by rw [Str.length_append, Str.length_append, l1]; omega⟩
      · exact ⟨strOk_app a (strOk_ofString _), by rw [Str.length_append]; omega⟩
    · exact ⟨a, by omega⟩
theorem joinOk_pos {ns : List Int} {x : Int} {i : Nat} (hi : i ≤ 12) : JoinOk spc ((posI ns x i).map fun (n : Int) => Str.ofString (toString n)) = true := by
  obtain ⟨h1, h2⟩ := posI_len ns x i
  have l1 : spc.length = 1 := by decide +kernel
  have key : ∀ (L : List Int) (a : Nat), (∀ v ∈ L, 0 ≤ v ∧ v < 100) → (L.map fun (n : Int) => Str.ofString (toString n)).foldl (fun (m : Nat) (t : Str) => m + t.length + spc.length) a ≤ a + 3 * L.length := by
    intro L
    induction L with
    | nil => intro a _; simp
    | cons v L ih =>
      intro a hv
      rw [List.map_cons, List.foldl_cons]
      refine Nat.le_trans (ih _ fun w hw => hv w (List.mem_cons_of_mem _ hw)) ?_
      obtain ⟨q1, q2⟩ := hv v (List.mem_cons_self ..)
      obtain ⟨m, rfl⟩ : ∃ m : Nat, v = m := ⟨v.toNat, by omega⟩
      have : (Str.ofString (toString (m : Int))).length ≤ 2 := (sI_len m (by omega)).2
      rw [l1, List.length_cons]; omega
  have := key (posI ns x i) 0 fun v hv => by have := h2 v hv; omega
  unfold JoinOk Builtin.Str.tooLong
  rw [List.foldl_toArray]
  simp only [gt_iff_lt, Bool.not_eq_eq_eq_not, Bool.not_true, decide_eq_false_iff_not, Nat.not_lt]
  refine Nat.le_trans this ?_
  simp [sizeLine]; omega
theorem lset_len {ns : List Int} {j : Nat} {x : Int} {L : List Int} (h : lfind (lset (grp ns j) x) x = some L) : L.length ≤ j := by
  have e := grp_find ns x j
  have hp := (posI_len ns x j).1
  unfold lset at h
  cases q : lfind (grp ns j) x with
  | some M =>
    rw [q, if_pos (show (some M).isSome = true from rfl), q] at h
    cases h
    rw [q] at e
    split at e
    · cases e
    · cases e; exact hp
  | none =>
    rw [q, if_neg (by simp), lfind_app, q, if_neg (by simp), lfind_cons, if_pos rfl] at h
    cases h; exact Nat.zero_le _
theorem grp_len (ns : List Int) : ∀ j, (grp ns j).length ≤ j
  | 0 => Nat.le_refl _
  | j + 1 => by
    have ih := grp_len ns j
    show (lapp (lset (grp ns j) (ns.getD j 0)) (ns.getD j 0) (j : Int)).length ≤ j + 1
    unfold lapp lset
    rw [List.length_map]
    split
    · omega
    · simp; omega
end Mine

set_option maxRecDepth 100000
namespace Mine
open PySem PySem.Spec PySem.Calls PyProof.Rows

local macro_rules | `(tactic| walk_at "m:at") => `(tactic| (with_reducible repeat' (first | exact At.here | apply At.there)))
local macro_rules | `(tactic| walk_at "m:enter") => `(tactic| (intro f hsc hxs hlv FS; obtain ⟨⟨scope, locals, globals, cells, qual, func, code, frame, builtins⟩, A, h₀, xs, lv⟩ := f; (simp only at hsc hxs hlv); subst hsc hxs hlv))
local macro_rules | `(tactic| walk_at "m:up") => `(tactic| (with_reducible repeat' (first | exact Upd.here | apply Upd.there | exact Nm.here | apply Nm.there)))

theorem flat_ints (l : List Int) : ∀ d ∈ l.map PyData.int, flat d = true := fun d hd => by obtain ⟨a, _, rfl⟩ := List.mem_map.mp hd; rfl
theorem any_ints (l : List Int) (x : Int) : ((l.map PyData.int).any fun y => PyData.eqv y (.int x)) = decide (x ∈ l) := by
  rw [List.any_map]
  induction l with
  | nil => rfl
  | cons a l ih =>
    rw [List.any_cons, ih]
    have : (Function.comp (fun y => PyData.eqv y (.int x)) PyData.int) a = decide (a = x) := by
      show PyData.eqv (.int a) (.int x) = _
      rw [PyData.eqv]; rfl
    rw [this]
    by_cases q : a = x
    · subst q; simp
    · have q' : ¬ x = a := fun h => q h.symm
      simp [q, q']
theorem str_eqv {a b : Str} (h : PyData.eqv (.str a) (.str b) = true) : a = b := by
  rw [PyData.eqv] at h; exact eq_of_beq h
theorem can_ints (l : List Int) : PyData.canLayAll0 (l.map .int) = true := by
  induction l with
  | nil => rfl
  | cons a l ih => rw [List.map_cons, PyData.canLayAll0, ih]; rfl

def pcs02 : FnD := fnAt PySem.Challenge.pw_k21_0002 1
def pcsD (ns : List Int) : List Str := (srtI ((grp ns ns.length).map (·.1))).map (fun x => jnI ((lfind (grp ns ns.length) x).getD []))
theorem pcs02_fn {c : Cx} (C : CxOk c) (Ben : Bi c "enumerate" (.type "enumerate")) (Bsorted : Bi c "sorted" (.builtin "sorted")) (Bmap : Bi c "map" (.type "map")) (Bstr : Bi c "str" (.type "str")) {ns : List Int} (hn : ns.length ≤ 12) :
    Fn c 3 pcs02 [.list (ns.map .int)] (.list ((pcsD ns).map .str)) true := by
  refine fn_go ["names"] ["groups", "v", "name"] ["names", "groups", "v", "name"] C ?_ rfl (by decide +kernel) (by decide +kernel) rfl rfl rfl [some ⟨.sh, .list (ns.map .int)⟩, none, none, none] ?_
  · intro pm cd doc vals hv
    match vals, hv with | [a], _ => rfl
  walk_at "m:enter"
  rename_i FS
  have H0 := HasCells.ofs (ys := ["groups"]) FS pcs02.scope rfl ["names", "groups", "v", "name"] rfl (by decide +kernel)
  refine s_asgC (sk := .ow) FS (ev_dict0L C) .fr (by walk_at "m:up") ?_
  refine s_forEn (i1 := 2) (i2 := 3) C Ben rfl FS (ev_name_sh (by walk_at "m:at")) rfl (fun j ρ => ∃ o1 o2, ρ = [some ⟨.sh, .list (ns.map .int)⟩, some ⟨.ow, dL (grp ns j)⟩, o1, o2]) ⟨none, none, rfl⟩ ?_ ?_
  · rintro j n ρ' hj ⟨o1, o2, rfl⟩
    have hjl : j < ns.length := (List.getElem?_eq_some_iff.mp hj).1
    have hg : ns.getD j 0 = n := by rw [List.getD_eq_getElem?_getD, hj]; rfl
    refine ⟨_, _, by walk_at "m:up", by walk_at "m:up", ?_⟩
    have hgl := grp_len ns j
    refine s_sdapp (ps := grp ns j) (key := n) (v := (j : Int)) FS (by walk_at "m:at") (ev_name_w (by walk_at "m:at")) (ev_list (k := .fr) evl_nil) (by simp [sizeLine]; omega) (fun L hL => by have := lset_len hL; simp [sizeLine]; omega) (by walk_at "m:up") (ev_name_w (by walk_at "m:at")) (by walk_at "m:up") (s_end ?_)
    exact ⟨_, _, by rw [show grp ns (j + 1) = lapp (lset (grp ns j) (ns.getD j 0)) (ns.getD j 0) (j : Int) from rfl, hg]⟩
  · rintro ρ' ⟨o1, o2, rfl⟩
    have hgl := grp_len ns ns.length
    have hsl : (srtI ((grp ns ns.length).map (·.1))).length ≤ 12 := by rw [(srtI_perm _).length_eq, List.length_map]; omega
    refine ex_one (ex_return (u := true) (Ev.cast (ev_compX (xs := srtI ((grp ns ns.length).map (·.1))) (enc := PyData.int) (p := fun _ => true) (g := fun x => PyData.str (jnI ((lfind (grp ns ns.length) x).getD []))) .lo H0 [1] ["groups"] [some ⟨.ow, dL (grp ns ns.length)⟩] []
      (it_list (ev_vcall1 (.inl ⟨_, rfl⟩) C Bsorted rfl (ev_name_w (by walk_at "m:at")) (vc_sortedD (by omega)))) (.flat (flat_ints _) (by decide)) (by simp [sizeLine]; omega) (fun C1 H1 el hel => ifs_nil) (fun C1 H1 x hx _ => ?_)) ?_) (.inl rfl) ⟨rfl, fun _ => rfl⟩)
    · have hx' : x ∈ ns := by
        have := (srtI_perm _).mem_iff.mp hx
        rw [grp_keys ns _ (Nat.le_refl _), List.take_length] at this
        exact mem_ddp.mp this
      have hf : lfind (grp ns ns.length) x = some (posI ns x ns.length) := by rw [grp_find, if_neg (posI_some (Nat.le_refl _) (by rw [List.take_length]; exact hx'))]
      rw [hf]
      obtain ⟨p1, p2⟩ := posI_len ns x ns.length
      refine ev_joinMap C Bmap Bstr rfl rfl (ev_dgetL (ev_name_w (by walk_at "m:at")) (ev_name_w (by walk_at "m:at")) hf) (fun v hv => ?_) (joinOk_pos hn) (by simp [sizeLine]; omega)
      have := p2 v hv
      have hlt : v.natAbs < 2 ^ 4 := by omega
      have : v.natAbs.log2 < 4 := by
        rcases Nat.eq_zero_or_pos v.natAbs with q | q
        · rw [q]; decide
        · exact (Nat.log2_lt (by omega)).mpr hlt
      omega
    · rw [filter_tt, pcsD, List.map_map]; rfl

def nms02 : FnD := fnAt PySem.Challenge.pw_k21_0002 3
def kindD (ns : List Int) : Int := if 0 < ns.length then ns.getD 0 0 % 3 else 0
def cells02 (ns : List Int) : List Int := (ns.drop 1).take 12
def small02 (ns : List Int) : List Int := (cells02 ns).map fun c => c % 5 - 2
def names02 (ns : List Int) : List Int := if kindD ns = 0 then cells02 ns else if kindD ns = 1 then small02 ns else (small02 ns).map fun s => ((small02 ns).idxOf s : Int)
theorem names02_len (ns : List Int) : (names02 ns).length ≤ 12 := by
  unfold names02 small02 cells02
  split
  · simp; omega
  · split <;> simp <;> omega
theorem nms02_fn {c : Cx} (C : CxOk c) (Blen : Bi c "len" (.builtin "len")) {ns : List Int} (hn : ns.length ≤ 63) :
    Fn c 2 nms02 [.list (ns.map .int)] (.list ((names02 ns).map .int)) true := by
  refine fn_go ["script"] ["kind", "cells", "small"] ["script", "kind", "cells", "small"] C ?_ rfl (by decide +kernel) (by decide +kernel) rfl rfl rfl [some ⟨.sh, .list (ns.map .int)⟩, none, none, none] ?_
  · intro pm cd doc vals hv
    match vals, hv with | [a], _ => rfl
  walk_at "m:enter"
  rename_i FS
  have H0 := HasCells.ofs (ys := ["small"]) FS nms02.scope rfl ["script", "kind", "cells", "small"] rfl (by decide +kernel)
  have hcl : (cells02 ns).length ≤ 12 := by unfold cells02; simp; omega
  have hsl : (small02 ns).length ≤ 12 := by unfold small02; simpa using hcl
  refine s_asg (sk := .lo) FS ev_int (.flat rfl) (by walk_at "m:up") ?_
  refine s_whenc (fun ρ => ρ = [some ⟨.sh, .list (ns.map .int)⟩, some ⟨.lo, .int (kindD ns)⟩, none, none]) (tst_cmp (ev_vcall1 (.inl ⟨_, rfl⟩) C Blen rfl (ev_name_w (by walk_at "m:at")) (vc_len (by simp; omega))) ev_int cmp_gt) (fun h => ?_) (fun h => ?_) ?_
  · have h0 : 0 < ns.length := by simpa using h
    refine s_asg (sk := .lo) FS (ev_mod (ev_item (i := 0) (d := .int (ns.getD 0 0)) (ev_name_w (by walk_at "m:at")) ev_int (by decide) (by decide) ?_) ev_int (by decide)) (.flat rfl) (by walk_at "m:up") (s_end ?_)
    · show (ns.map PyData.int)[0]? = _
      rw [List.getElem?_map, List.getElem?_eq_getElem h0, List.getD_eq_getElem?_getD, List.getElem?_eq_getElem h0]; rfl
    · show _ = _
      rw [kindD, if_pos h0]
  · have h0 : ¬ 0 < ns.length := by simpa using h
    show _ = _
    rw [kindD, if_neg h0]
  rintro ρ' rfl
  refine s_asg (sk := .ow) FS (ev_slice (ys := (cells02 ns).map .int) (ev_name_w (by walk_at "m:at")) (.some ev_int) (.some ev_int) (flats_map (fun _ => rfl) _) (by simp [sizeLine]; omega) ?_) .fr (by walk_at "m:up") ?_
  · rw [pick_map, cells02]
    congr 1
    show (ns.drop (clipAt ns.length ((1 : Nat) : Int))).take (clipAt ns.length ((13 : Nat) : Int) - clipAt ns.length ((1 : Nat) : Int)) = _
    rw [clipAt_nat, clipAt_nat]
    rcases Nat.le_total 1 ns.length with q | q
    · rw [Nat.min_eq_left q]
      rcases Nat.le_total 13 ns.length with r | r
      · rw [Nat.min_eq_left r]
      · rw [Nat.min_eq_right r, List.take_of_length_le (by simp), List.take_of_length_le (by simp; omega)]
    · rw [List.drop_of_length_le (by omega), List.drop_of_length_le (by omega)]; simp
  refine s_when (tst_cmp (ev_name_w (by walk_at "m:at")) ev_int cmp_eq) (fun h => ?_) (fun h => ?_)
  · have hk : kindD ns = 0 := by simpa using h
    exact s_retO (by walk_at "m:at") ⟨by rw [names02, if_pos hk], fun _ => rfl⟩
  have hk0 : ¬ kindD ns = 0 := by simpa using h
  refine s_asgC (sk := .ow) FS (Ev.cast (d' := .list ((small02 ns).map .int)) (ev_compX (xs := cells02 ns) (enc := PyData.int) (p := fun _ => true) (g := fun c => PyData.int (c % 5 - 2)) .lo H0 [] [] [] []
    (it_list (ev_name_w (by walk_at "m:at"))) (.flat (flat_ints _) (by decide)) (by simp [sizeLine]; omega) (fun C1 H1 el hel => ifs_nil) (fun C1 H1 x hx _ => ev_sub (ev_mod (ev_name_w (by walk_at "m:at")) ev_int (by decide)) ev_int)) (by rw [filter_tt, small02, List.map_map]; rfl)) .fr (by walk_at "m:up") ?_
  refine s_when (tst_cmp (ev_name_w (by walk_at "m:at")) ev_int cmp_eq) (fun h => ?_) (fun h => ?_)
  · have hk : kindD ns = 1 := by simpa using h
    exact s_retO (by walk_at "m:at") ⟨by rw [names02, if_neg hk0, if_pos hk], fun _ => rfl⟩
  have hk1 : ¬ kindD ns = 1 := by simpa using h
  refine ex_one (ex_return (u := true) (Ev.cast (ev_compX (xs := small02 ns) (enc := PyData.int) (p := fun _ => true) (g := fun s => PyData.int ((small02 ns).idxOf s : Int)) .lo H0 [3] ["small"] [some ⟨.ow, .list ((small02 ns).map .int)⟩] []
    (it_list (ev_name_w (by walk_at "m:at"))) (.flat (flat_ints _) (by decide)) (by simp [sizeLine]; omega) (fun C1 H1 el hel => ifs_nil) (fun C1 H1 x hx _ => ?_)) ?_) (.inl rfl) ⟨rfl, fun _ => rfl⟩)
  · have hlt : (small02 ns).idxOf x < (small02 ns).length := List.idxOf_lt_length_of_mem hx
    refine ev_indexO (v := x) (by walk_at "m:at") (ev_name_w (by walk_at "m:at")) ?_ (fun m hm => ?_) (by omega)
    · rw [List.getElem?_eq_getElem hlt, List.getElem_idxOf hlt]
    · intro q
      have hm' : m < (small02 ns).length := by omega
      rw [List.getElem?_eq_getElem hm'] at q
      have := List.not_of_lt_findIdx (p := (· == x)) (xs := small02 ns) (i := m) hm
      rw [Option.some.inj q] at this
      simp at this
  · rw [filter_tt, names02, if_neg hk0, if_neg hk1, List.map_map]; rfl

def lns02 : FnD := fnAt PySem.Challenge.pw_k21_0002 4
def lnsD (ns : List Int) (l : List Int) : List PyData := l.map fun x => PyData.str (lnI ns x ns.length)
theorem lns02_fn {c : Cx} (C : CxOk c) (Blen : Bi c "len" (.builtin "len")) (Brange : Bi c "range" (.type "range")) (Bsorted : Bi c "sorted" (.builtin "sorted")) (Bstr : Bi c "str" (.type "str")) {ns : List Int} (hn : ns.length ≤ 12) :
    Fn c 2 lns02 [.list (ns.map .int)] (.list (lnsD ns (ddp (srtI ns)))) true := by
  refine fn_go ["names"] ["lines", "done", "name", "line", "v"] ["names", "lines", "done", "name", "line", "v"] C ?_ rfl (by decide +kernel) (by decide +kernel) rfl rfl rfl [some ⟨.sh, .list (ns.map .int)⟩, none, none, none, none, none] ?_
  · intro pm cd doc vals hv
    match vals, hv with | [a], _ => rfl
  walk_at "m:enter"
  rename_i FS
  refine s_asg (sk := .ow) FS (ev_list (k := .fr) evl_nil) .fr (by walk_at "m:up") ?_
  refine s_asg (sk := .ow) FS (ev_list (k := .fr) evl_nil) .fr (by walk_at "m:up") ?_
  have hsl : (srtI ns).length = ns.length := (srtI_perm ns).length_eq
  refine s_forT (enc := PyData.int) (sk := .lo) (ls := srtI ns) FS (by walk_at "m:up") (it_list (ev_vcall1 (.inl ⟨_, rfl⟩) C Bsorted rfl (ev_name_w (by walk_at "m:at")) (vc_sortedI (by omega)))) .fr
    (fun j ρ => ∃ o1 o2 o3, ρ = [some ⟨.sh, .list (ns.map .int)⟩, some ⟨.ow, .list (lnsD ns (ddp ((srtI ns).take j)))⟩, some ⟨.ow, .list ((ddp ((srtI ns).take j)).map .int)⟩, o1, o2, o3]) ⟨none, none, none, rfl⟩ ?_ ?_
  · rintro j x ρ' hj ⟨o1, o2, o3, rfl⟩
    have hjl : j < (srtI ns).length := (List.getElem?_eq_some_iff.mp hj).1
    have hg : (srtI ns).getD j 0 = x := by rw [List.getD_eq_getElem?_getD, hj]; rfl
    have hd12 : (ddp ((srtI ns).take j)).length ≤ 12 := by have := ddp_len ((srtI ns).take j); rw [List.length_take] at this; omega
    have etk : ddp ((srtI ns).take (j + 1)) = dds (ddp ((srtI ns).take j)) x := by rw [take_snoc hjl, hg, ddp_snoc]
    refine ⟨_, by walk_at "m:up", ?_⟩
    refine s_when (tst_cmp (ev_name_w (by walk_at "m:at")) (ev_name_w (by walk_at "m:at")) (cmp_notin (Sm.shaped (n := 0) Sm.int) (can_ints _))) (fun h => ?_) (fun h => ?_)
    · rw [any_ints] at h
      have hnm : x ∉ ddp ((srtI ns).take j) := by simpa using h
      rw [etk] at *
      have ed : dds (ddp ((srtI ns).take j)) x = ddp ((srtI ns).take j) ++ [x] := by unfold dds; rw [if_neg hnm]
      refine s_append FS (by walk_at "m:at") (ev_name_w (by walk_at "m:at")) (.inr rfl) (by simp [sizeLine]; omega) (by walk_at "m:up") ?_
      refine s_asg (sk := .lo) FS ev_str (.flat rfl) (by walk_at "m:up") ?_
      refine s_forR FS (by walk_at "m:up") (it_range1 C Brange rfl (ev_vcall1 (.inl ⟨_, rfl⟩) C Blen rfl (ev_name_w (by walk_at "m:at")) (vc_len (by simp; omega))) (by first | (simp; done) | (simp; omega)) (by first | (simp; done) | (simp; omega)))
        (fun m ρ => ∃ o3, ρ = [some ⟨.sh, .list (ns.map .int)⟩, some ⟨.ow, .list (lnsD ns (ddp ((srtI ns).take j)))⟩, some ⟨.ow, .list ((ddp ((srtI ns).take j)).map .int ++ [.int x])⟩, some ⟨.lo, .int x⟩, some ⟨.lo, .str (lnI ns x m)⟩, o3]) ⟨o3, rfl⟩ ?_ ?_
      · rintro m ρ' hm ⟨o4, rfl⟩
        have hm : m < ns.length := by simpa using hm
        have em : (0 + (m : Int)) = (m : Int) := by omega
        refine ⟨_, by walk_at "m:up", ?_⟩
        rw [em]
        obtain ⟨ok1, ok2⟩ := lnI_ok ns x m (by omega)
        have l1 : spc.length = 1 := by decide +kernel
        have l2 := (sI_len m (by omega)).2
        refine s_when (tst_cmp (ev_item (i := (m : Int)) (d := .int (ns.getD m 0)) (ev_name_w (by walk_at "m:at")) (ev_name_w (by walk_at "m:at")) (by omega) (by omega) ?_) (ev_name_w (by walk_at "m:at")) cmp_eq) (fun h => ?_) (fun h => ?_)
        · show (ns.map PyData.int)[m]? = _
          rw [List.getElem?_map, List.getElem?_eq_getElem hm, List.getD_eq_getElem?_getD, List.getElem?_eq_getElem hm]; rfl
        · have hx : ns.getD m 0 = x := by simpa using h
          refine s_whenc (fun ρ => ρ = [some ⟨.sh, .list (ns.map .int)⟩, some ⟨.ow, .list (lnsD ns (ddp ((srtI ns).take j)))⟩, some ⟨.ow, .list ((ddp ((srtI ns).take j)).map .int ++ [.int x])⟩, some ⟨.lo, .int x⟩, some ⟨.lo, .str (if lnI ns x m ≠ Str.ofString "" then lnI ns x m ++ spc else lnI ns x m)⟩, some ⟨.lo, .int (m : Int)⟩])
            (tst_cmp (ev_name_w (by walk_at "m:at")) ev_str (cmp_nev (Sm.shaped (n := 0) (Sm.str ok1)) (Sm.shaped (n := 0) (Sm.str (strOk_ofString _))))) (fun h => ?_) (fun h => ?_) ?_
          · have hne : lnI ns x m ≠ Str.ofString "" := fun q => by rw [q, Sm.eqv (n := 0) (Sm.str (strOk_ofString _))] at h; cases h
            refine s_asg (sk := .lo) FS (ev_adds (ev_name_w (by walk_at "m:at")) ev_str (by rw [l1]; simp [sizeLine]; omega)) (.flat rfl) (by walk_at "m:up") (s_end ?_)
            show _ = _
            rw [if_pos hne]
          · have hne : ¬ lnI ns x m ≠ Str.ofString "" := fun q => q (str_eqv (by simpa using h))
            show _ = _
            rw [if_neg hne]
          rintro ρ' rfl
          refine s_asg (sk := .lo) FS (ev_adds (ev_name_w (by walk_at "m:at")) (ev_vcall1 (.inr ⟨_, rfl⟩) C Bstr rfl (ev_name_w (by walk_at "m:at")) (vc_stri ?_)) ?_) (.flat rfl) (by walk_at "m:up") (s_end (s_end ?_))
          · have hlt : ((m : Int)).natAbs < 2 ^ 4 := by omega
            have : ((m : Int)).natAbs.log2 < 4 := by
              rcases Nat.eq_zero_or_pos ((m : Int)).natAbs with q | q
              · rw [q]; decide
              · exact (Nat.log2_lt (by omega)).mpr hlt
            omega
          · have : (if lnI ns x m ≠ Str.ofString "" then lnI ns x m ++ spc else lnI ns x m).length ≤ 3 * m + 1 := by
              split
              · rw [Str.length_append, l1]; omega
              · omega
            show _ + (sI (m : Int)).length ≤ _
            simp only [sizeLine]; omega
          · exact ⟨_, by rw [show lnI ns x (m + 1) = (if ns.getD m 0 = x then (if lnI ns x m ≠ Str.ofString "" then lnI ns x m ++ spc else lnI ns x m) ++ sI (m : Int) else lnI ns x m) from rfl, if_pos hx]⟩
        · have hx : ¬ ns.getD m 0 = x := by simpa using h
          exact s_end ⟨_, by rw [show lnI ns x (m + 1) = (if ns.getD m 0 = x then (if lnI ns x m ≠ Str.ofString "" then lnI ns x m ++ spc else lnI ns x m) ++ sI (m : Int) else lnI ns x m) from rfl, if_neg hx]⟩
      · rintro ρ' ⟨o4, rfl⟩
        have elen : ((ns.map PyData.int).length : Int).toNat = ns.length := by simp
        rw [elen]
        refine s_append FS (by walk_at "m:at") (ev_name_w (by walk_at "m:at")) (.inr rfl) (by unfold lnsD; simp [sizeLine]; omega) (by walk_at "m:up") (s_end (s_end ?_))
        exact ⟨_, _, _, by rw [ed]; unfold lnsD; rw [List.map_append, List.map_append]; rfl⟩
    · rw [any_ints] at h
      have hm : x ∈ ddp ((srtI ns).take j) := by simpa using h
      exact s_end ⟨_, _, _, by rw [etk]; unfold dds; rw [if_pos hm]⟩
  · rintro ρ' ⟨o1, o2, o3, rfl⟩
    refine s_retO (by walk_at "m:at") ⟨by rw [List.take_length], fun _ => rfl⟩

def law02 : FnD := fnAt PySem.Challenge.pw_k21_0002 5
theorem law02_fn {c : Cx} (C : CxOk c) (Blen : Bi c "len" (.builtin "len")) (Brange : Bi c "range" (.type "range")) (Bsorted : Bi c "sorted" (.builtin "sorted")) (Bstr : Bi c "str" (.type "str")) (Ben : Bi c "enumerate" (.type "enumerate")) (Bmap : Bi c "map" (.type "map")) (Blist : Bi c "list" (.type "list")) (Btype : Bi c "type" (.type "type"))
    (stP : Stands c pcs02) (stN : Stands c nms02) (stL : Stands c lns02) {ns : List Int} (hn : ns.length ≤ 63) :
    Fn c 5 law02 [.list (ns.map .int)] (.bool true) true := by
  refine fn_go ["script"] ["names", "kept", "got"] ["script", "names", "kept", "got"] C ?_ rfl (by decide +kernel) (by decide +kernel) rfl rfl rfl [some ⟨.sh, .list (ns.map .int)⟩, none, none, none] ?_
  · intro pm cd doc vals hv
    match vals, hv with | [a], _ => rfl
  walk_at "m:enter"
  rename_i FS
  have hl := names02_len ns
  refine s_asg (sk := .lo) FS (ev_call C stN rfl (evl_w (ev_name_w (by walk_at "m:at")) evl_nilU) (nms02_fn C Blen hn) (Nat.le_of_ble_eq_true rfl)) .frlo (by walk_at "m:up") ?_
  generalize names02 ns = ms at *
  refine s_asg (sk := .lo) FS (ev_vcall1 (.inr ⟨_, rfl⟩) C Blist rfl (ev_name_w (by walk_at "m:at")) (vc_list (flats_map (fun _ => rfl) _) (by simp [sizeLine]; omega))) .frlo (by walk_at "m:up") ?_
  have epl : (pcsD ms).map PyData.str = lnsD ms (ddp (srtI ms)) := by
    rw [pcsD, pieces_eq sI_pos]
    unfold lnsD
    rw [List.map_map]; rfl
  have smL : Sm 1 (.list (lnsD ms (ddp (srtI ms)))) := Sm.list fun d hd => by
    obtain ⟨x, _, rfl⟩ := List.mem_map.mp hd
    exact Sm.str (lnI_ok ms x ms.length (by omega)).1
  refine s_asg (sk := .lo) FS (Ev.cast (d' := .list (lnsD ms (ddp (srtI ms)))) (ev_call C stP rfl (evl_w (ev_name_w (by walk_at "m:at")) evl_nilU) (pcs02_fn C Ben Bsorted Bmap Bstr hl) (Nat.le_of_ble_eq_true rfl)) (by rw [epl])) .frlo (by walk_at "m:up") ?_
  refine s_when (tst_type_isnot C Btype Blist rfl rfl (ev_name_w (by walk_at "m:at"))) (fun h => absurd h (by simp [typeNm])) (fun _ => ?_)
  refine s_when (tst_cmp (ev_name_w (by walk_at "m:at")) (ev_call C stL rfl (evl_w (ev_name_w (by walk_at "m:at")) evl_nilU) (lns02_fn C Blen Brange Bsorted Bstr hl) (Nat.le_of_ble_eq_true rfl)) (cmp_nev (Sm.shaped smL) (Sm.shaped smL))) (fun h => ?_) (fun _ => ?_)
  · rw [Sm.eqv smL] at h; cases h
  refine s_when (tst_cmp (ev_name_w (by walk_at "m:at")) (ev_name_w (by walk_at "m:at")) (cmp_nev (Sm.shaped (n := 1) Sm.il) (Sm.shaped (n := 1) Sm.il))) (fun h => ?_) (fun _ => ?_)
  · rw [Sm.eqv (n := 1) Sm.il] at h; cases h
  exact s_ret (u := true) ev_bool ⟨rfl, fun _ => rfl⟩ (.inl rfl)
end Mine

open PySem PySem.W PySem.Spec PyProof.Rows
set_option maxRecDepth 100000 in
set_option maxHeartbeats 8000000 in
open_top Mine.hd02 for PySem.Challenge.rw_k21_0002
set_option maxRecDepth 100000 in
set_option maxHeartbeats 8000000 in
theorem PySem.Challenge.cw_k21_0002_holds : PySem.Challenge.rw_k21_0002.Holds := by
  refine Mine.hd02 ?_
  intro w s₀ s₁ mg mb G Y fa o pm cd doc dV kV ho hd hcd hD hmg hg args vals as hpre hlay hrd hwl hlo
  clear Y hD
  refine Ground.open G ?_
  intro T B D TE TW
  clear B D TE TW
  wrow_args hpre hlay hrd hwl hlo
  rename_i ns _ _ _ _ _ as' _ a vs _ _ _ _ r0 _ _ hlen _
  have hl : ns.length ≤ 63 := by omega
  refine Mine.law_end hg hmg (Mine.stands_ix T 3 rfl ⟨rfl, rfl, rfl, rfl⟩) (Mine.law02_fn (Mine.cxOk_of T) (Mine.bi_of T rfl (by decide) (by decide +kernel)) (Mine.bi_of T rfl (by decide) (by decide +kernel)) (Mine.bi_of T rfl (by decide) (by decide +kernel)) (Mine.bi_of T rfl (by decide) (by decide +kernel)) (Mine.bi_of T rfl (by decide) (by decide +kernel)) (Mine.bi_of T rfl (by decide) (by decide +kernel)) (Mine.bi_of T rfl (by decide) (by decide +kernel)) (Mine.bi_of T rfl (by decide) (by decide +kernel)) (Mine.stands_ix T 0 rfl ⟨rfl, rfl, rfl, rfl⟩) (Mine.stands_ix T 1 rfl ⟨rfl, rfl, rfl, rfl⟩) (Mine.stands_ix T 2 rfl ⟨rfl, rfl, rfl, rfl⟩) hl) (by decide) (.cons (Mine.reads_il r0) .nil) ?_ ?_
  · intro c; rfl
  · wrow_post

