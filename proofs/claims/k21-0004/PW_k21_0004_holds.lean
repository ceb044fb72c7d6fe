import PyProof.Rows.All
import Wide.All
import OpenK.AllK
import Wide.FinOn
import PySem.Challenge.RW_k21_0004
set_option Elab.async false
set_option linter.unusedVariables false
namespace Mine
open PySem PySem.Spec PySem.Calls PyProof.Rows

/-- the goal, kept small while much is taken apart -/
theorem cps {P : Prop} (h : ∀ G : Prop, (P → G) → G) : P := h P id
/-! the context of a law's run -/
structure Cx where
  prog : Program
  w : World
  hB : Heap
  X : Addr → Prop
  mg : Str → Option Value
  mb : Str → Option Value
  os : OsState

noncomputable abbrev Cx.M (c : Cx) : Model := model c.prog c.w

structure Up (X : Addr → Prop) (h h' : Heap) : Prop where
  kp : ∀ b o, ¬ X b → h.get? b = some o → h'.get? b = some o
  th : ∀ b o, h.get? b = some o → ∃ o', h'.get? b = some o'

theorem Up.refl (X : Addr → Prop) (h : Heap) : Up X h h := ⟨fun _ _ _ e => e, fun _ o e => ⟨o, e⟩⟩
theorem Up.of {X : Addr → Prop} {h h' : Heap} (k : ∀ b o, h.get? b = some o → h'.get? b = some o) : Up X h h' :=
  ⟨fun b o _ e => k b o e, fun b o e => ⟨o, k b o e⟩⟩
theorem Up.trans {X : Addr → Prop} {h h' h'' : Heap} (a : Up X h h') (b : Up X h' h'') : Up X h h'' :=
  ⟨fun x o n e => b.kp x o n (a.kp x o n e), fun x o e => let ⟨_, e'⟩ := a.th x o e; b.th x _ e'⟩
theorem Up.none {X : Addr → Prop} {h h' : Heap} (u : Up X h h') {a : Addr} (e : h'.get? a = none) : h.get? a = none := by
  cases q : h.get? a with
  | none => rfl
  | some o => obtain ⟨o', e'⟩ := u.th a o q; rw [e] at e'; cases e'

structure Wf (c : Cx) (s : Shared) : Prop where
  base : ∀ b o, ¬ c.X b → c.hB.get? b = some o → s.heap.get? b = some o
  tab : ∀ b, c.X b → ∃ ps : { a : Array Value // TriplesOk a.toList }, s.heap.get? b = some { cls := .none, data := .fields ps.1 }
  old : OldK c.hB s.heap
  gens : AllBare s.gens
  os : s.os = c.os

structure Ext (c : Cx) (s s' : Shared) : Prop where
  up : Up c.X s.heap s'.heap
  wf : Wf c s'

theorem Ext.refl {c : Cx} {s : Shared} (W : Wf c s) : Ext c s s := ⟨Up.refl _ _, W⟩
theorem Ext.trans {c : Cx} {s s' s'' : Shared} (a : Ext c s s') (b : Ext c s' s'') : Ext c s s'' := ⟨a.up.trans b.up, b.wf⟩
theorem Wf.keeps {c : Cx} {s s' : Shared} (W : Wf c s) (hk : ∀ b o, s.heap.get? b = some o → s'.heap.get? b = some o) (hg : s'.gens = s.gens) (ho : s'.os = s.os) : Wf c s' where
  base := fun b o n e => hk b o (W.base b o n e)
  tab := fun b x => let ⟨ps, e⟩ := W.tab b x; ⟨ps, hk _ _ e⟩
  old := W.old.step_keeps hk
  gens := hg ▸ W.gens
  os := ho.trans W.os
theorem Ext.of {c : Cx} {s s' : Shared} (W : Wf c s) (hk : ∀ b o, s.heap.get? b = some o → s'.heap.get? b = some o) (hg : s'.gens = s.gens := by rfl) (ho : s'.os = s.os := by rfl) : Ext c s s' :=
  ⟨Up.of hk, W.keeps hk hg ho⟩
theorem Ext.toks {c : Cx} {s : Shared} (W : Wf c s) (tk : Nat) : Ext c s { s with toks := tk } := Ext.of W fun _ _ e => e
theorem Ext.push {c : Cx} {s : Shared} (W : Wf c s) (o : Obj) (tk : Nat) : Ext c s { s with heap := s.heap.push o, toks := tk } :=
  Ext.of W fun _ _ e => Heap.get?_push_of_some o e

/-! a change at one address that the base does not know -/
theorem oldK_same {h₀ h h' : Heap} (K : OldK h₀ h) {a : Addr} (ha : h₀.get? a = none) (hs : ∀ b, b ≠ a → h'.get? b = h.get? b) : OldK h₀ h' := by
  have ne : ∀ b o, h₀.get? b = some o → b ≠ a := fun b o e q => by rw [q, ha] at e; cases e
  refine ⟨fun b o e => ?_, fun b o e => let ⟨o', ho'⟩ := K.there b o e; ⟨o', (hs b (ne b o e)).trans ho'⟩⟩
  rcases K.old b o e with x | ⟨t, hc, vs, more, hv, x⟩ | ⟨rfl, hc, ⟨o', es, n, ho', r⟩, z⟩
  · exact .inl ((hs b (ne b o e)).trans x)
  · exact .inr (.inl ⟨t, hc, vs, more, hv, (hs b (ne b o e)).trans x⟩)
  · exact .inr (.inr ⟨rfl, hc, ⟨o', es, n, (hs _ (ne _ o e)).trans ho', r⟩, fun key => by rw [OldK.staticOf_congr (hs _ (ne _ o e)) key]; exact z key⟩)

theorem Wf.sameBut {c : Cx} {s : Shared} {h' : Heap} {a : Addr} {tk : Nat} (W : Wf c s) (hs : Heap.SameBut a s.heap h') (ha : c.hB.get? a = none) (hX : ¬ c.X a) : Wf c { s with heap := h', toks := tk } where
  base := fun b o n e => (hs.2 b (fun q => by rw [q, ha] at e; cases e)).trans (W.base b o n e)
  tab := fun b x => let ⟨ps, e⟩ := W.tab b x; ⟨ps, (hs.2 b (fun q => hX (q ▸ x))).trans e⟩
  old := oldK_same W.old ha hs.2
  gens := W.gens
  os := W.os

/-! data in the heap, as the library's Reads, but a dict (of tuples of ints to ints) with its hashes -/
mutual
inductive Reads (h : Heap) : Value → PyData → List Addr → Prop
  | none : Reads h .none .none []
  | bool (b) : Reads h (.bool b) (.bool b) []
  | int (i t) : Reads h (.int i t) (.int i) []
  | str (x t) : Reads h (.str x t) (.str x) []
  | list {a o vs n xs as} : h.get? a = some o → o.cls = .type "list" → o.data = .seq vs n → ReadsAll h vs.toList xs as → Reads h (.ref a) (.list xs) (a :: as)
  | tuple {a o vs n xs as} : h.get? a = some o → o.cls = .type "tuple" → o.data = .seq vs n → ReadsAll h vs.toList xs as → Reads h (.ref a) (.tuple xs) as
  | dict {a : Addr} {o es n} {xs : List (List Int × Addr × Value)} {ps : List (List Int × Int)} : h.get? a = some o → o.cls = .type "dict" → o.data = .dict es n → (a == sysModules) = false → (∀ prog w, h.DictOfH (tupleKind (intKind prog w)) a xs) → xs.map (·.1) = ps.map (·.1) →
      (∀ (j : Nat) x p, xs[j]? = some x → ps[j]? = some p → ∃ t, x.2.2 = .int p.2 t) → Reads h (.ref a) (.dict (ps.map fun p => (.tuple (p.1.map .int), .int p.2))) [a]
inductive ReadsAll (h : Heap) : List Value → List PyData → List Addr → Prop
  | nil : ReadsAll h [] [] []
  | cons {v vs d ds as bs} : Reads h v d as → ReadsAll h vs ds bs → ReadsAll h (v :: vs) (d :: ds) (as ++ bs)
end
theorem ra_ind {h : Heap} {M : List Value → List PyData → List Addr → Prop} (nil : M [] [] []) (cons : ∀ {v vs d ds as bs}, Reads h v d as → ReadsAll h vs ds bs → M vs ds bs → M (v :: vs) (d :: ds) (as ++ bs)) {vs : List Value} {ds : List PyData} {as : List Addr} (r : ReadsAll h vs ds as) : M vs ds as :=
  ReadsAll.rec (motive_1 := fun _ _ _ _ => True) (motive_2 := fun vs ds as _ => M vs ds as) trivial (fun _ => trivial) (fun _ _ => trivial) (fun _ _ => trivial) (fun _ _ _ _ _ => trivial) (fun _ _ _ _ _ => trivial) (fun _ _ _ _ _ _ _ => trivial) nil (fun r1 r2 _ ih => cons r1 r2 ih) r
theorem Reads.lib {h : Heap} {v : Value} {d : PyData} {as : List Addr} (r : Reads h v d as) : d.canLay0 = true → PySem.Reads h v d as :=
  Reads.rec (motive_1 := fun v d as _ => d.canLay0 = true → PySem.Reads h v d as) (motive_2 := fun vs ds as _ => PyData.canLayAll0 ds = true → PySem.ReadsAll h vs ds as) (fun _ => .none) (fun _ _ => .bool _) (fun _ _ _ => .int _ _) (fun _ _ _ => .str _ _)
    (fun h1 h2 h3 _ ih hc => .list h1 h2 h3 (ih (by rw [PyData.canLay0] at hc; exact hc))) (fun h1 h2 h3 _ ih hc => .tuple h1 h2 h3 (ih (by rw [PyData.canLay0] at hc; exact hc))) (fun _ _ _ _ _ _ _ hc => by rw [PyData.canLay0] at hc; cases hc)
    (fun _ => .nil) (fun _ _ ih1 ih2 hc => by rw [PyData.canLayAll0, Bool.and_eq_true] at hc; exact .cons (ih1 hc.1) (ih2 hc.2)) r
theorem reads_ints {h : Heap} {ns : List Int} : ∀ {vs : List Value} {as : List Addr}, PySem.ReadsAll h vs (ns.map .int) as → ReadsAll h vs (ns.map .int) as := by
  induction ns with
  | nil => intro vs as r; cases r; exact .nil
  | cons n ns ih => intro vs as r; cases r with | cons r1 r2 => cases r1; exact .cons (.int _ _) (ih r2)
theorem reads_il {h : Heap} {v : Value} {ns : List Int} {as : List Addr} (r : PySem.Reads h v (.list (ns.map .int)) as) : Reads h v (.list (ns.map .int)) as := by
  cases r with | list h1 h2 h3 h4 => exact .list h1 h2 h3 (reads_ints h4)
/-! the relation Reads under changes -/
noncomputable def Plainish (o : Obj) : Prop := (o.cls = .type "tuple" ∨ o.cls = .type "list" ∨ o.cls = .type "dict")
noncomputable abbrev KpL (h h' : Heap) (as : List Addr) : Prop := ∀ a ∈ as, ∀ o, h.get? a = some o → Plainish o → h'.get? a = some o
noncomputable abbrev KpT (h h' : Heap) : Prop := ∀ a o, h.get? a = some o → o.cls = .type "tuple" → (∃ vs n, o.data = .seq vs n) → h'.get? a = some o
theorem dictOf_upon {h h' : Heap} {a : Addr} {xs : List (List Int × Addr × Value)} (hl : KpL h h' [a]) (ht : KpT h h') {prog : Program} {w : World} (x : h.DictOfH (tupleKind (intKind prog w)) a xs) : h'.DictOfH (tupleKind (intKind prog w)) a xs := by
  obtain ⟨o, es, ep, g1, g2, g3, g4, g5, g6⟩ := x
  refine ⟨o, es, ep, hl _ (List.mem_cons_self ..) _ g1 (.inr (.inr g2.1)), g2, g3, g4, fun x hx => ?_, g6⟩
  obtain ⟨o', items, n, k1, k2, k3, k4⟩ := g5 x hx
  exact ⟨o', items, n, ht _ _ k1 k2 ⟨_, _, k3⟩, k2, k3, k4⟩
theorem reads_upon {h h' : Heap} {v : Value} {d : PyData} {as : List Addr} (r : Reads h v d as) (hl : KpL h h' as) (ht : KpT h h') : Reads h' v d as :=
  Reads.rec (motive_1 := fun v d as _ => KpL h h' as → Reads h' v d as) (motive_2 := fun vs ds as _ => KpL h h' as → ReadsAll h' vs ds as) (fun _ => .none) (fun _ _ => .bool _) (fun _ _ _ => .int _ _) (fun _ _ _ => .str _ _)
    (fun h1 h2 h3 _ ih hl => .list (hl _ (List.mem_cons_self ..) _ h1 (.inr (.inl h2))) h2 h3 (ih fun a ha => hl a (List.mem_cons_of_mem _ ha))) (fun h1 h2 h3 _ ih hl => .tuple (ht _ _ h1 h2 ⟨_, _, h3⟩) h2 h3 (ih hl))
    (fun k1 k2 k3 h0 h1 h2 h3 hl => .dict (hl _ (List.mem_cons_self ..) _ k1 (.inr (.inr k2))) k2 k3 h0 (fun prog w => dictOf_upon hl ht (h1 prog w)) h2 h3)
    (fun _ => .nil) (fun _ _ ih1 ih2 hl => .cons (ih1 fun a ha => hl a (List.mem_append_left _ ha)) (ih2 fun a ha => hl a (List.mem_append_right _ ha))) r hl
theorem readsAll_upon {h h' : Heap} {vs : List Value} {ds : List PyData} {as : List Addr} (r : ReadsAll h vs ds as) (hl : KpL h h' as) (ht : KpT h h') : ReadsAll h' vs ds as :=
  ra_ind (M := fun vs ds as => KpL h h' as → ReadsAll h' vs ds as) (fun _ => .nil) (fun r1 _ ih hl => .cons (reads_upon r1 (fun a ha => hl a (List.mem_append_left _ ha)) ht) (ih fun a ha => hl a (List.mem_append_right _ ha))) r hl
theorem not_tab {c : Cx} {s : Shared} (W : Wf c s) {a : Addr} {o : Obj} (e : s.heap.get? a = some o) (hc : o.cls ≠ .none) : ¬ c.X a := fun x => by
  obtain ⟨ps, q⟩ := W.tab a x
  rw [q] at e; cases e; exact hc rfl
theorem plainish_cls {o : Obj} (p : Plainish o) : o.cls ≠ .none := by
  rcases p with q | q | q <;> rw [q] <;> nofun
theorem Ext.kpl {c : Cx} {s s' : Shared} (W : Wf c s) (x : Ext c s s') (as : List Addr) : KpL s.heap s'.heap as := fun a _ o e p => x.up.kp a o (not_tab W e (plainish_cls p)) e
theorem Ext.kpt {c : Cx} {s s' : Shared} (W : Wf c s) (x : Ext c s s') : KpT s.heap s'.heap := fun a o e p _ => x.up.kp a o (not_tab W e (by rw [p]; nofun)) e
theorem Ext.reads {c : Cx} {s s' : Shared} {v : Value} {d : PyData} {as : List Addr} (W : Wf c s) (x : Ext c s s') (r : Reads s.heap v d as) : Reads s'.heap v d as := reads_upon r (x.kpl W as) (x.kpt W)
theorem Ext.readsAll {c : Cx} {s s' : Shared} {vs : List Value} {ds : List PyData} {as : List Addr} (W : Wf c s) (x : Ext c s s') (r : ReadsAll s.heap vs ds as) : ReadsAll s'.heap vs ds as := readsAll_upon r (x.kpl W as) (x.kpt W)

/-! every object of a footprint is a list or a dict -/
noncomputable def ListOrDict (o : Obj) : Prop := (o.cls = .type "list" ∧ ∃ vs n, o.data = .seq vs n) ∨ (o.cls = .type "dict" ∧ ∃ es n, o.data = .dict es n)
noncomputable abbrev AllLD (h : Heap) (as : List Addr) : Prop := ∀ a ∈ as, ∃ o, h.get? a = some o ∧ ListOrDict o
theorem reads_objs {h : Heap} {v : Value} {d : PyData} {as : List Addr} (r : Reads h v d as) : ∀ a ∈ as, ∃ o, h.get? a = some o ∧ ListOrDict o :=
  Reads.rec (motive_1 := fun v d as _ => AllLD h as) (motive_2 := fun vs ds as _ => AllLD h as) nofun (fun _ => nofun) (fun _ _ => nofun) (fun _ _ => nofun)
    (fun h1 h2 h3 _ ih a ha => (List.mem_cons.mp ha).elim (fun e => e ▸ ⟨_, h1, .inl ⟨h2, _, _, h3⟩⟩) (ih a)) (fun _ _ _ _ ih => ih) (fun h1 h2 h3 _ _ _ _ a ha => (List.mem_singleton.mp ha) ▸ ⟨_, h1, .inr ⟨h2, _, _, h3⟩⟩)
    nofun (fun _ _ ih1 ih2 a ha => (List.mem_append.mp ha).elim (ih1 a) (ih2 a)) r
theorem readsAll_objs {h : Heap} {vs : List Value} {ds : List PyData} {as : List Addr} (r : ReadsAll h vs ds as) : ∀ a ∈ as, ∃ o, h.get? a = some o ∧ ListOrDict o :=
  ra_ind (M := fun _ _ as => AllLD h as) nofun (fun r1 _ ih a ha => (List.mem_append.mp ha).elim (reads_objs r1 a) (ih a)) r

noncomputable def Pl (h : Heap) (a : Addr) : Prop := ∃ o, h.get? a = some o ∧ ListOrDict o ∧ o.dict = none ∧ o.slots = #[]
theorem Pl.ext {c : Cx} {s s' : Shared} {a : Addr} (W : Wf c s) (x : Ext c s s') (p : Pl s.heap a) : Pl s'.heap a := by
  obtain ⟨o, e, l, q⟩ := p
  exact ⟨o, x.up.kp a o (not_tab W e (by rcases l with ⟨q, _⟩ | ⟨q, _⟩ <;> rw [q] <;> nofun)) e, l, q⟩

/-! flat data: no list, no dict within -/
mutual
noncomputable def flat : PyData → Bool
  | .none | .bool _ | .int _ | .str _ => true
  | .list _ | .dict _ => false
  | .tuple xs => flats xs
noncomputable def flats : List PyData → Bool
  | [] => true
  | x :: r => flat x && flats r
end
theorem reads_flat {h : Heap} {v : Value} {d : PyData} {as : List Addr} (r : Reads h v d as) : flat d = true → as = [] :=
  Reads.rec (motive_1 := fun v d as _ => flat d = true → as = []) (motive_2 := fun vs ds as _ => flats ds = true → as = []) (fun _ => rfl) (fun _ _ => rfl) (fun _ _ _ => rfl) (fun _ _ _ => rfl)
    (fun _ _ _ _ _ hf => by rw [flat] at hf; cases hf) (fun _ _ _ _ ih hf => ih (by rw [flat] at hf; exact hf)) (fun _ _ _ _ _ _ _ hf => by rw [flat] at hf; cases hf)
    (fun _ => rfl) (fun _ _ ih1 ih2 hf => by rw [flats, Bool.and_eq_true] at hf; rw [ih1 hf.1, ih2 hf.2]; rfl) r
theorem readsAll_flat {h : Heap} {vs : List Value} {ds : List PyData} {as : List Addr} (r : ReadsAll h vs ds as) : flats ds = true → as = [] :=
  ra_ind (M := fun vs ds as => flats ds = true → as = []) (fun _ => rfl) (fun r1 _ ih hf => by rw [flats, Bool.and_eq_true] at hf; rw [reads_flat r1 hf.1, ih hf.2]; rfl) r

theorem rd_int {h : Heap} {v : Value} {i : Int} {as : List Addr} (r : Reads h v (.int i) as) : ∃ t, v = .int i t := by cases r; exact ⟨_, rfl⟩
theorem rd_tup {h : Heap} {v : Value} {ds : List PyData} {as : List Addr} (r : Reads h v (.tuple ds) as) : ∃ a vs, v = .ref a ∧ (∃ o, h.get? a = some o ∧ o.cls = .type "tuple" ∧ ∃ n, o.data = .seq vs n) ∧ ReadsAll h vs.toList ds as := by
  cases r with | tuple g1 g2 g3 g4 => exact ⟨_, _, rfl, ⟨_, g1, g2, _, g3⟩, g4⟩
theorem rd_cons {h : Heap} {vs : List Value} {d : PyData} {ds : List PyData} {as : List Addr} (r : ReadsAll h vs (d :: ds) as) : ∃ v ws bs cs, vs = v :: ws ∧ Reads h v d bs ∧ ReadsAll h ws ds cs := by
  cases r with | cons r1 r2 => exact ⟨_, _, _, _, rfl, r1, r2⟩
theorem rd_nil {h : Heap} {vs : List Value} {as : List Addr} (r : ReadsAll h vs [] as) : vs = [] := by cases r; rfl

end Mine

namespace Mine
open PySem PySem.Spec PySem.Calls PyProof.Rows

inductive K where
  | sh | lo | ow
  deriving DecidableEq
structure Slot where
  k : K
  d : PyData
noncomputable abbrev Rho := List (Option Slot)

structure Fm where
  env : Env
  A : Around
  h₀ : Heap
  xs : List Str
  lv : Nat

noncomputable def Loads (env : Env) (h : Heap) (x : Str) (v : Value) : Prop :=
  (env.kindOf x = some .local ∧ ∃ m, h.Ns env.locals m ∧ m x = some v) ∨
  ((env.kindOf x = some .cell ∨ env.kindOf x = some .free) ∧ ∃ a, env.cells.lookup x = some a ∧ h.IsCell a (some v))

/-- room for n more levels of calls -/
structure Room (n : Nat) (A : Around) : Prop where
  hand : A.handled = none
  depth : A.depth + 10 * n + 10 < recursionLimit
  units : A.units + 100 * n + 200 < cLine
  guards : A.guards = some []

structure FmOk (c : Cx) (f : Fm) : Prop where
  kind : f.env.scope.kind = .function
  glob : f.env.globals = mainGlobals
  bi : f.env.builtins = builtinsNs
  room : Room f.lv f.A
  base : Up c.X c.hB f.h₀

structure St (c : Cx) (f : Fm) (ρ : Rho) (mo : Addr → Prop) (val : Nat → Value) (fp : Nat → List Addr) (s : Shared) : Prop where
  wf : Wf c s
  ok : FmOk c f
  keep : Up c.X f.h₀ s.heap
  ns : ∃ m, s.heap.Ns f.env.locals m
  cells : ∀ x a, f.env.cells.lookup x = some a → ∃ v, s.heap.IsCell a v
  var : ∀ i sl, ρ[i]? = some (some sl) → ∃ x, f.xs[i]? = some x ∧ Loads f.env s.heap x (val i) ∧ Reads s.heap (val i) sl.d (fp i)
  own : ∀ i sl, ρ[i]? = some (some sl) → sl.k = .ow → (fp i).Nodup ∧ ∀ a ∈ fp i, mo a
  shr : ∀ i sl, ρ[i]? = some (some sl) → sl.k ≠ .ow → ∀ a ∈ fp i, ¬ mo a
  loc : ∀ i sl, ρ[i]? = some (some sl) → sl.k = .lo → ∀ a ∈ fp i, f.h₀.get? a = none
  apart : ∀ i j sl sl', i ≠ j → ρ[i]? = some (some sl) → ρ[j]? = some (some sl') → sl.k = .ow → sl'.k = .ow → ∀ a ∈ fp i, a ∉ fp j
  moNew : ∀ a, mo a → f.h₀.get? a = none
  moPl : ∀ a, mo a → Pl s.heap a
  moL : ¬ mo f.env.locals
  fpL : ∀ i sl, ρ[i]? = some (some sl) → f.env.locals ∉ fp i

theorem St.moIn {c : Cx} {f : Fm} {ρ : Rho} {mo : Addr → Prop} {val : Nat → Value} {fp : Nat → List Addr} {s : Shared} (S : St c f ρ mo val fp s) (a : Addr) (h : mo a) : ∃ o, s.heap.get? a = some o ∧ ListOrDict o :=
  let ⟨o, e, l, _⟩ := S.moPl a h; ⟨o, e, l⟩
theorem Ns.ext {c : Cx} {s s' : Shared} {a : Addr} {m : Str → Option Value} (W : Wf c s) (x : Ext c s s') (n : s.heap.Ns a m) : s'.heap.Ns a m := by
  obtain ⟨o, es, ep, ho, hd, r⟩ := n
  refine ⟨o, es, ep, x.up.kp a o (fun hx => ?_) ho, hd, r⟩
  obtain ⟨ps, e⟩ := W.tab a hx
  rw [e] at ho; cases ho; cases hd
theorem IsCell.ext {c : Cx} {s s' : Shared} {a : Addr} {v : Option Value} (W : Wf c s) (x : Ext c s s') (n : s.heap.IsCell a v) : s'.heap.IsCell a v := by
  obtain ⟨o, ho, hd⟩ := n
  refine ⟨o, x.up.kp a o (fun hx => ?_) ho, hd⟩
  obtain ⟨ps, e⟩ := W.tab a hx
  rw [e] at ho; cases ho; cases hd
theorem Loads.ext {c : Cx} {s s' : Shared} {env : Env} {y : Str} {v : Value} (W : Wf c s) (x : Ext c s s') (n : Loads env s.heap y v) : Loads env s'.heap y v := by
  rcases n with ⟨hk, m, hn, hm⟩ | ⟨hk, a, ha, hc⟩
  · exact .inl ⟨hk, m, Ns.ext W x hn, hm⟩
  · exact .inr ⟨hk, a, ha, IsCell.ext W x hc⟩
theorem listOrDict_ext {c : Cx} {s s' : Shared} {a : Addr} {o : Obj} (W : Wf c s) (x : Ext c s s') (e : s.heap.get? a = some o) (p : ListOrDict o) : s'.heap.get? a = some o :=
  x.up.kp a o (not_tab W e (by rcases p with ⟨q, _⟩ | ⟨q, _⟩ <;> rw [q] <;> nofun)) e

theorem St.ext {c : Cx} {f : Fm} {ρ : Rho} {mo : Addr → Prop} {val : Nat → Value} {fp : Nat → List Addr} {s s' : Shared} (S : St c f ρ mo val fp s) (x : Ext c s s') : St c f ρ mo val fp s' where
  wf := x.wf
  ok := S.ok
  keep := S.keep.trans x.up
  ns := let ⟨m, n⟩ := S.ns; ⟨m, Ns.ext S.wf x n⟩
  cells := fun y a e => let ⟨v, n⟩ := S.cells y a e; ⟨v, IsCell.ext S.wf x n⟩
  var := fun i sl e => let ⟨y, h1, h2, h3⟩ := S.var i sl e; ⟨y, h1, h2.ext S.wf x, x.reads S.wf h3⟩
  own := S.own
  shr := S.shr
  loc := S.loc
  apart := S.apart
  moNew := S.moNew
  moPl := fun a h => (S.moPl a h).ext S.wf x
  moL := S.moL
  fpL := S.fpL

/-! kinds of results -/
inductive EK where
  | w | sh | lo | fr
  | us (is : List Nat)

noncomputable def KOk0 (f : Fm) (mo : Addr → Prop) (fp : Nat → List Addr) (h h' : Heap) : EK → List Addr → Prop
  | .w, _ => True
  | .sh, as => ∀ a ∈ as, ¬ mo a
  | .lo, as => ∀ a ∈ as, ¬ mo a ∧ f.h₀.get? a = none
  | .fr, as => as.Nodup ∧ (∀ a ∈ as, h.get? a = none) ∧ ∀ a ∈ as, Pl h' a
  | .us is, as => as = is.flatMap fp
noncomputable def KOk (f : Fm) (mo : Addr → Prop) (fp : Nat → List Addr) (h h' : Heap) (k : EK) (as : List Addr) : Prop := f.env.locals ∉ as ∧ KOk0 f mo fp h h' k as

noncomputable def Ev (c : Cx) (f : Fm) (ρ : Rho) (e : Expr) (d : PyData) (k : EK) : Prop :=
  ∀ mo val fp s E, St c f ρ mo val fp s → wpAny c.M f.A (eval e f.env) (fun v s' => Ext c s s' ∧ ∃ as, Reads s'.heap v d as ∧ KOk f mo fp s.heap s'.heap k as) E s

section
variable {c : Cx} {f : Fm} {ρ : Rho} {mo : Addr → Prop} {val : Nat → Value} {fp : Nat → List Addr} {s : Shared} {E : Value → Shared → Prop} {e : Expr} {d : PyData} {k : EK}

theorem Ev.bind {Q : Value → Shared → Prop} (h : Ev c f ρ e d k) (S : St c f ρ mo val fp s)
    (hn : ∀ v s' as, Ext c s s' → St c f ρ mo val fp s' → Reads s'.heap v d as → KOk f mo fp s.heap s'.heap k as → Q v s') : wpAny c.M f.A (eval e f.env) Q E s :=
  wpAny_mono (h mo val fp s E S) (fun v s' ⟨x, as, r, ko⟩ => hn v s' as x (S.ext x) r ko) fun _ _ z => z

theorem KOk.nil {h h' : Heap} (hk : ∀ is, k = .us is → is = []) : KOk f mo fp h h' k [] := by
  refine ⟨nofun, ?_⟩
  cases k with
  | w => trivial
  | sh => exact nofun
  | lo => exact nofun
  | fr => exact ⟨.nil, nofun, nofun⟩
  | us is => rw [hk is rfl]; rfl
theorem Ev.ofFlat (h : Ev c f ρ e d k) (hf : flat d = true) : Ev c f ρ e d .fr := fun mo val fp s E S => h.bind S fun v s' as x _ r _ => ⟨x, as, r, by rw [reads_flat r hf]; exact ⟨nofun, .nil, nofun, nofun⟩⟩
theorem KOk.fr_lo (S : St c f ρ mo val fp s) {as : List Addr} {s' : Shared} (h : KOk f mo fp s.heap s'.heap .fr as) : KOk f mo fp s.heap s'.heap .lo as := ⟨h.1, fun a ha => by
  have e := h.2.2.1 a ha
  refine ⟨fun m => ?_, S.keep.none e⟩
  obtain ⟨o, q, _⟩ := S.moIn a m
  rw [e] at q; cases q⟩
theorem frOk (S : St c f ρ mo val fp s) {as : List Addr} {h' : Heap} (h1 : as.Nodup) (h2 : ∀ a ∈ as, s.heap.get? a = none) (h3 : ∀ a ∈ as, Pl h' a) : KOk f mo fp s.heap h' .fr as :=
  ⟨fun h => (by obtain ⟨m, o, _, _, q, _⟩ := S.ns; rw [h2 _ h] at q; cases q), h1, h2, h3⟩
theorem Ev.cast {d' : PyData} (h : Ev c f ρ e d k) (q : d = d') : Ev c f ρ e d' k := q ▸ h

/-- where a name stands in the frame's list -/
inductive At : List Str → Rho → Str → Slot → Nat → Prop
  | here {x : Str} {xs : List Str} {sl : Slot} {ρ : Rho} : At (x :: xs) (some sl :: ρ) x sl 0
  | there {x y : Str} {xs : List Str} {sl : Slot} {o : Option Slot} {ρ : Rho} {i : Nat} : At xs ρ x sl i → At (y :: xs) (o :: ρ) x sl (i + 1)
theorem At.slot {xs : List Str} {ρ : Rho} {x : Str} {sl : Slot} {i : Nat} (h : At xs ρ x sl i) : ρ[i]? = some (some sl) := by
  induction h with
  | here => rfl
  | there _ ih => simpa using ih
theorem At.name {xs : List Str} {ρ : Rho} {x : Str} {sl : Slot} {i : Nat} (h : At xs ρ x sl i) : xs[i]? = some x := by
  induction h with
  | here => rfl
  | there _ ih => simpa using ih

theorem load_any {x : Str} {v : Value} {Q : Value → Shared → Prop} {env : Env} {M : Model} {A : Around} (hk : env.scope.kind = .function) (l : Loads env s.heap x v) (h : Q v s) (hn : (x == ("__classdict__" : Str)) = false) :
    wpAny M A (loadName env x) Q E s := by
  rcases l with ⟨h1, m, h2, h3⟩ | ⟨h1 | h1, a, h2, h3⟩
  · exact wpAny_loadName_local hk h1 h2 h3 h
  · exact wpAny_loadName_cell hk h1 h2 h3 h
  · exact wpAny_loadName_free hk h1 h2 h3 h hn

theorem name_step {x : Str} {pos : Pos} {sl : Slot} {i : Nat} {Q : Value → Shared → Prop} (S : St c f ρ mo val fp s) (h : At f.xs ρ x sl i) (hq : Reads s.heap (val i) sl.d (fp i) → Q (val i) s)
    (hd : (x == ("__debug__" : Str)) = false) (hn : (x == ("__classdict__" : Str)) = false) : wpAny c.M f.A (eval (.Name x pos) f.env) Q E s := by
  obtain ⟨y, h1, h2, h3⟩ := S.var i sl h.slot
  rw [h.name] at h1; cases h1
  exact wpAny_Name (load_any S.ok.kind h2 (hq h3) hn) hd

/-- a variable, as it lies -/
theorem ev_name_w {x : Str} {pos : Pos} {k : K} {d : PyData} {i : Nat} (h : At f.xs ρ x ⟨k, d⟩ i) (hd : (x == ("__debug__" : Str)) = false := by decide +kernel) (hn : (x == ("__classdict__" : Str)) = false := by decide +kernel) :
    Ev c f ρ (.Name x pos) d .w := fun mo val fp s E S => name_step S h (fun r => ⟨Ext.refl S.wf, fp i, r, S.fpL i _ h.slot, trivial⟩) hd hn
theorem ev_name_us {x : Str} {pos : Pos} {k : K} {d : PyData} {i : Nat} (h : At f.xs ρ x ⟨k, d⟩ i) (hd : (x == ("__debug__" : Str)) = false := by decide +kernel) (hn : (x == ("__classdict__" : Str)) = false := by decide +kernel) :
    Ev c f ρ (.Name x pos) d (.us [i]) := fun mo val fp s E S => name_step S h (fun r => ⟨Ext.refl S.wf, fp i, r, S.fpL i _ h.slot, by simp [KOk0]⟩) hd hn
theorem ev_name_sh {x : Str} {pos : Pos} {d : PyData} {i : Nat} {k : K} (h : At f.xs ρ x ⟨k, d⟩ i) (hk : k ≠ .ow := by decide) (hd : (x == ("__debug__" : Str)) = false := by decide +kernel) (hn : (x == ("__classdict__" : Str)) = false := by decide +kernel) :
    Ev c f ρ (.Name x pos) d .sh := fun mo val fp s E S => name_step S h (fun r => ⟨Ext.refl S.wf, fp i, r, S.fpL i _ h.slot, S.shr i _ h.slot hk⟩) hd hn
theorem ev_name_lo {x : Str} {pos : Pos} {d : PyData} {i : Nat} (h : At f.xs ρ x ⟨.lo, d⟩ i) (hd : (x == ("__debug__" : Str)) = false := by decide +kernel) (hn : (x == ("__classdict__" : Str)) = false := by decide +kernel) :
    Ev c f ρ (.Name x pos) d .lo := fun mo val fp s E S => name_step S h (fun r => ⟨Ext.refl S.wf, fp i, r, S.fpL i _ h.slot, fun a ha => ⟨S.shr i _ h.slot (by nofun) a ha, S.loc i _ h.slot rfl a ha⟩⟩) hd hn

theorem ev_int {i : Int} {n : Nat} {pos : Pos} : Ev c f ρ (.Constant (.int i) n pos) (.int i) .fr := fun _ _ _ _ _ S =>
  wpAny_Constant_int ⟨Ext.toks S.wf _, [], .int _ _, nofun, .nil, nofun, nofun⟩
theorem ev_none {n : Nat} {pos : Pos} : Ev c f ρ (.Constant .none n pos) .none .fr := fun _ _ _ _ _ S =>
  wpAny_Constant_none ⟨Ext.refl S.wf, [], .none, nofun, .nil, nofun, nofun⟩
theorem ev_bool {b : Bool} {n : Nat} {pos : Pos} : Ev c f ρ (.Constant (.bool b) n pos) (.bool b) .fr := fun _ _ _ _ _ S =>
  wpAny_Constant_bool ⟨Ext.refl S.wf, [], .bool _, nofun, .nil, nofun, nofun⟩
theorem ev_str {x : Str} {n : Nat} {pos : Pos} : Ev c f ρ (.Constant (.str x) n pos) (.str x) .fr := fun _ _ _ _ _ S =>
  wpAny_Constant_str ⟨Ext.toks S.wf _, [], .str _ _, nofun, .nil, nofun, nofun⟩
end

end Mine

namespace Mine
open PySem PySem.Spec PySem.Calls PyProof.Rows

section
variable {c : Cx} {f : Fm} {ρ : Rho} {mo : Addr → Prop} {val : Nat → Value} {fp : Nat → List Addr} {s : Shared} {E : Value → Shared → Prop}
  {e l r x y : Expr} {d d1 d2 : PyData} {k k1 k2 : EK} {pos : Pos} {a b : Int}

theorem frNil {h h' : Heap} : KOk f mo fp h h' .fr [] := ⟨nofun, .nil, nofun, nofun⟩

/-! two operands -/
theorem ev_bin {op : Operator} (h1 : Ev c f ρ l d1 k1) (h2 : Ev c f ρ r d2 k2)
    (h : ∀ s v1 v2 as1 as2 E, Wf c s → Room f.lv f.A → Reads s.heap v1 d1 as1 → Reads s.heap v2 d2 as2 →
      wpAny c.M f.A (binaryOp op v1 v2) (fun v s' => Ext c s s' ∧ ∃ as, Reads s'.heap v d as ∧ as.Nodup ∧ (∀ a ∈ as, s.heap.get? a = none) ∧ ∀ a ∈ as, Pl s'.heap a) E s) : Ev c f ρ (.BinOp l op r pos) d .fr := by
  intro mo val fp s E S
  refine wpAny_BinOp (h1.bind S fun v1 s1 as1 x1 S1 r1 _ => h2.bind S1 fun v2 s2 as2 x2 S2 r2 _ => ?_)
  refine wpAny_mono (h s2 v1 v2 as1 as2 E S2.wf S.ok.room (x2.reads S1.wf r1) r2) (fun v s3 ⟨x3, as, r3, n3, q3, p3⟩ => ?_) fun _ _ z => z
  exact ⟨(x1.trans x2).trans x3, as, r3, frOk S n3 (fun a ha => (x1.trans x2).up.none (q3 a ha)) p3⟩

theorem ev_add (h1 : Ev c f ρ l (.int a) k1) (h2 : Ev c f ρ r (.int b) k2) : Ev c f ρ (.BinOp l .Add r pos) (.int (a + b)) .fr :=
  ev_bin h1 h2 fun s v1 v2 as1 as2 E W _ r1 r2 => by cases r1; cases r2; exact P.add_int ⟨Ext.toks W _, [], .int _ _, .nil, nofun, nofun⟩
theorem ev_sub (h1 : Ev c f ρ l (.int a) k1) (h2 : Ev c f ρ r (.int b) k2) : Ev c f ρ (.BinOp l .Sub r pos) (.int (a - b)) .fr :=
  ev_bin h1 h2 fun s v1 v2 as1 as2 E W _ r1 r2 => by cases r1; cases r2; exact P.sub_int ⟨Ext.toks W _, [], .int _ _, .nil, nofun, nofun⟩
theorem ev_mod (h1 : Ev c f ρ l (.int a) k1) (h2 : Ev c f ρ r (.int b) k2) (hb : 0 < b) : Ev c f ρ (.BinOp l .Mod r pos) (.int (a % b)) .fr :=
  ev_bin h1 h2 fun s v1 v2 as1 as2 E W _ r1 r2 => by
    cases r1; cases r2
    exact PyProof.Rows.mod_int (by omega) ⟨Ext.toks W _, [], by rw [Int.fmod_eq_emod_of_nonneg _ (by omega)]; exact .int _ _, .nil, nofun, nofun⟩
theorem ev_fdiv (h1 : Ev c f ρ l (.int a) k1) (h2 : Ev c f ρ r (.int b) k2) (hb : 0 < b) (hs : b < 1073741824) : Ev c f ρ (.BinOp l .FloorDiv r pos) (.int (a / b)) .fr :=
  ev_bin h1 h2 fun s v1 v2 as1 as2 E W _ r1 r2 => by
    cases r1; cases r2
    refine AutoIntOps.floordiv_1 (by simp; omega) (by rw [PyProof.noPylong_small (by omega)]; simp) ?_
    show (fun v s' => _) _ _
    exact ⟨Ext.toks W _, [], by rw [Int.fdiv_eq_ediv_of_nonneg _ (by omega)]; exact .int _ _, .nil, nofun, nofun⟩
/-! comparisons -/
noncomputable def Cmp (c : Cx) (n : Nat) (op : CmpOp) (d1 d2 : PyData) (b : Bool) : Prop :=
  ∀ A s v1 v2 as1 as2 E (Q : Value → Shared → Prop), Wf c s → Room n A → Reads s.heap v1 d1 as1 → Reads s.heap v2 d2 as2 → Q (.bool b) s → wpAny c.M A (compareOp op v1 v2) Q E s

theorem cmp_lt {n : Nat} : Cmp c n .Lt (.int a) (.int b) (decide (a < b)) := fun _ _ _ _ _ _ _ _ _ _ r1 r2 h => by cases r1; cases r2; exact P.lt_int h
theorem cmp_gt {n : Nat} : Cmp c n .Gt (.int a) (.int b) (decide (b < a)) := fun _ _ _ _ _ _ _ _ _ _ r1 r2 h => by cases r1; cases r2; exact P.gt_int h
theorem cmp_eq {n : Nat} : Cmp c n .Eq (.int a) (.int b) (a == b) := fun _ _ _ _ _ _ _ _ _ _ r1 r2 h => by cases r1; cases r2; exact P.eq_int h
theorem cmp_ne {n : Nat} : Cmp c n .NotEq (.int a) (.int b) (a != b) := fun _ _ _ _ _ _ _ _ _ _ r1 r2 h => by cases r1; cases r2; exact P.ne_int h
theorem cmp_eqv {n : Nat} (h1 : SeqAt.shaped d1 = true) (h2 : SeqAt.shaped d2 = true) : Cmp c n .Eq d1 d2 (PyData.eqv d1 d2) := fun _ _ _ _ _ _ _ _ _ R r1 r2 h =>
  SeqAt.compareEq_shaped (r1.lib (SeqAt.canLay_of_shaped h1)) (r2.lib (SeqAt.canLay_of_shaped h2)) h1 h2 (by have := R.units; omega) h
theorem cmp_nev {n : Nat} (h1 : SeqAt.shaped d1 = true) (h2 : SeqAt.shaped d2 = true) : Cmp c n .NotEq d1 d2 (!PyData.eqv d1 d2) := fun _ _ _ _ _ _ _ _ _ R r1 r2 h =>
  SeqAt.compareNe_shaped (r1.lib (SeqAt.canLay_of_shaped h1)) (r2.lib (SeqAt.canLay_of_shaped h2)) h1 h2 (by have := R.units; omega) h
theorem cmp_in {n : Nat} {xs : List PyData} (h1 : SeqAt.shaped d1 = true) (h2 : PyData.canLayAll0 xs = true) : Cmp c n .In d1 (.list xs) (xs.any fun y => PyData.eqv y d1) := fun _ _ _ _ _ _ _ _ _ R r1 r2 h =>
  SeqAt.in_list_reads (r2.lib (by simpa [PyData.canLay0] using h2)) (r1.lib (SeqAt.canLay_of_shaped h1)) h2 (SeqAt.canLay_of_shaped h1) (by have := R.units; have h4 := SeqAt.depth_of_shaped h1; have h5 : min (PyData.depthAll xs) d1.depth ≤ d1.depth := Nat.min_le_right _ _; omega) h
theorem cmp_notin {n : Nat} {xs : List PyData} (h1 : SeqAt.shaped d1 = true) (h2 : PyData.canLayAll0 xs = true) : Cmp c n .NotIn d1 (.list xs) (!xs.any fun y => PyData.eqv y d1) := fun _ _ _ _ _ _ _ _ _ R r1 r2 h =>
  SeqAt.notIn_list_reads (r2.lib (by simpa [PyData.canLay0] using h2)) (r1.lib (SeqAt.canLay_of_shaped h1)) h2 (SeqAt.canLay_of_shaped h1) (by have := R.units; have h4 := SeqAt.depth_of_shaped h1; have h5 : min (PyData.depthAll xs) d1.depth ≤ d1.depth := Nat.min_le_right _ _; omega) h

noncomputable def isNone : PyData → Bool
  | .none => true
  | _ => false
noncomputable def isBool (q : Bool) : PyData → Bool
  | .bool b => b == q
  | _ => false
theorem cmp_is_none {n : Nat} : Cmp c n .Is d1 .none (isNone d1) := fun _ _ _ _ _ _ _ _ _ _ r1 r2 h => by
  cases r2; cases r1 <;> first | exact wpAny_is_self rfl h | exact wpAny_is_other rfl nofun h
/-! truth of a test -/
noncomputable def Tst (c : Cx) (f : Fm) (ρ : Rho) (e : Expr) (b : Bool) : Prop :=
  ∀ mo val fp s E, St c f ρ mo val fp s → wpAny c.M f.A (isTrue e f.env (eval e f.env)) (fun t s' => t = b ∧ Ext c s s') E s

theorem Tst.bind {q : Bool} {Q : Bool → Shared → Prop} (h : Tst c f ρ e q) (S : St c f ρ mo val fp s) (hn : ∀ s', Ext c s s' → St c f ρ mo val fp s' → Q q s') :
    wpAny c.M f.A (isTrue e f.env (eval e f.env)) Q E s :=
  wpAny_mono (h mo val fp s E S) (fun t s' ⟨ht, x⟩ => ht ▸ hn s' x (S.ext x)) fun _ _ z => z

noncomputable def truth : PyData → Bool
  | .none => false
  | .bool b => b
  | .int i => i != 0
  | .str x => x.length != 0
  | .list xs => !xs.isEmpty
  | .tuple xs => !xs.isEmpty
  | .dict xs => !xs.isEmpty

theorem tst_cmp {op : CmpOp} {q : Bool} (h1 : Ev c f ρ l d1 k1) (h2 : Ev c f ρ r d2 k2) (h : Cmp c f.lv op d1 d2 q) (hm : behindInMarks op r = false := by with_unfolding_all rfl) :
    Tst c f ρ (.Compare l [op] [r] pos) q := by
  intro mo val fp s E S
  refine wpAny_isTrue_Compare1 (h1.bind S fun v1 s1 as1 x1 S1 r1 _ => h2.bind S1 fun v2 s2 as2 x2 S2 r2 _ => ?_) hm
  exact h _ _ _ _ _ _ _ _ S2.wf S.ok.room (x2.reads S1.wf r1) r2 (wpAny_truthy_bool ⟨rfl, x1.trans x2⟩)
theorem tst_not {q : Bool} (h : Tst c f ρ x q) : Tst c f ρ (.UnaryOp .Not x pos) (!q) := fun mo val fp s E S =>
  wpAny_isTrue_Not (h.bind S fun s' x _ => ⟨rfl, x⟩)
theorem tst_bool {q : Bool} (h : Ev c f ρ e (.bool q) k) (he : ∀ env whole, isTrue e env whole = (do let v ← whole; standAt e.pos; holding [v] (truthy v)) := by intro _ _; rfl) : Tst c f ρ e q := fun mo val fp s E S =>
  wpAny_isTrue_value (h.bind S fun v s' as x S' r _ => by cases r; exact wpAny_truthy_bool ⟨rfl, x⟩) (he _ _)
theorem tst_int (h : Ev c f ρ e (.int a) k) (he : ∀ env whole, isTrue e env whole = (do let v ← whole; standAt e.pos; holding [v] (truthy v)) := by intro _ _; rfl) : Tst c f ρ e (a != 0) := fun mo val fp s E S =>
  wpAny_isTrue_value (h.bind S fun v s' as x S' r _ => by cases r; exact P.truthy_int ⟨rfl, x⟩) (he _ _)

inductive TstL (c : Cx) (f : Fm) (ρ : Rho) (op : BoolOp) : List Expr → Bool → Prop
  | last {x : Expr} {q : Bool} : Tst c f ρ x q → TstL c f ρ op [x] q
  | stop {x : Expr} {q : Bool} {rest : List Expr} : Tst c f ρ x q → q = (match op with | .And => false | .Or => true) → TstL c f ρ op (x :: rest) q
  | go {x : Expr} {q t : Bool} {rest : List Expr} : Tst c f ρ x q → q = (match op with | .And => true | .Or => false) → TstL c f ρ op rest t → TstL c f ρ op (x :: rest) t
theorem tst_allTrue {op : BoolOp} {es : List Expr} {q : Bool} (h : TstL c f ρ op es q) : ∀ {mo val fp s E}, St c f ρ mo val fp s → wpAny c.M f.A (allTrue op es f.env) (fun t s' => t = q ∧ Ext c s s') E s := by
  induction h with
  | last h =>
    intro mo val fp s E S
    cases op
    · refine wpAny_allTrue_And_cons (h.bind S fun s' x S' => ?_)
      split
      · rename_i e; exact wpAny_allTrue_And_nil ⟨e.symm, x⟩
      · rename_i e; exact ⟨by simpa using e, x⟩
    · refine wpAny_allTrue_Or_cons (h.bind S fun s' x S' => ?_)
      split
      · rename_i e; exact ⟨e.symm, x⟩
      · rename_i e; exact wpAny_allTrue_Or_nil ⟨by simpa using e, x⟩
  | stop h e =>
    intro mo val fp s E S
    cases op
    · refine wpAny_allTrue_And_cons (h.bind S fun s' x S' => ?_)
      subst e; exact ⟨rfl, x⟩
    · refine wpAny_allTrue_Or_cons (h.bind S fun s' x S' => ?_)
      subst e; exact ⟨rfl, x⟩
  | go h e _ ih =>
    intro mo val fp s E S
    cases op
    · refine wpAny_allTrue_And_cons (h.bind S fun s' x S' => ?_)
      subst e; exact wpAny_mono (ih S') (fun t s2 ⟨q, x2⟩ => ⟨q, x.trans x2⟩) fun _ _ z => z
    · refine wpAny_allTrue_Or_cons (h.bind S fun s' x S' => ?_)
      subst e; exact wpAny_mono (ih S') (fun t s2 ⟨q, x2⟩ => ⟨q, x.trans x2⟩) fun _ _ z => z
theorem tst_boolop {op : BoolOp} {es : List Expr} {q : Bool} (h : TstL c f ρ op es q) : Tst c f ρ (.BoolOp op es pos) q := fun mo val fp s E S =>
  wpAny_isTrue_BoolOp (tst_allTrue h S)
/-- and, or of two tests: the second is asked only where the first leaves it open -/
theorem tst_and {p q : Bool} (h1 : Tst c f ρ x p) (h2 : p = true → Tst c f ρ y q) : Tst c f ρ (.BoolOp .And [x, y] pos) (p && q) := by
  cases p with
  | false => exact tst_boolop (.stop h1 rfl)
  | true => exact tst_boolop (.go h1 rfl (.last (h2 rfl)))
theorem tst_or {p q : Bool} (h1 : Tst c f ρ x p) (h2 : p = false → Tst c f ρ y q) : Tst c f ρ (.BoolOp .Or [x, y] pos) (p || q) := by
  cases p with
  | true => exact tst_boolop (.stop h1 rfl)
  | false => exact tst_boolop (.go h1 rfl (.last (h2 rfl)))
theorem tst_and3 {z : Expr} {p q t : Bool} (h1 : Tst c f ρ x p) (h2 : p = true → Tst c f ρ y q) (h3 : p = true → q = true → Tst c f ρ z t) : Tst c f ρ (.BoolOp .And [x, y, z] pos) (p && q && t) := by
  cases p with
  | false => exact tst_boolop (.stop h1 rfl)
  | true =>
    cases q with
    | false => exact tst_boolop (.go h1 rfl (.stop (h2 rfl) rfl))
    | true => exact tst_boolop (.go h1 rfl (.go (h2 rfl) rfl (.last (h3 rfl rfl))))
/-! and, or as values, of bools -/
end
end Mine

namespace Mine
open PySem PySem.Spec PySem.Calls PyProof.Rows

/-! items -/
theorem readsAll_item {h : Heap} {vs : List Value} {ds : List PyData} {as : List Addr} (r : ReadsAll h vs ds as) {i : Nat} {d : PyData} (e : ds[i]? = some d) : ∃ v bs, vs[i]? = some v ∧ Reads h v d bs ∧ bs.Sublist as :=
  ra_ind (M := fun vs ds as => ∀ i, ds[i]? = some d → ∃ v bs, vs[i]? = some v ∧ Reads h v d bs ∧ bs.Sublist as) (fun i e => by rw [List.getElem?_nil] at e; cases e) (fun {v vs d' ds as bs} r1 _ ih i e => by
    cases i with
    | zero =>
      have e : some d' = some d := e
      cases e
      exact ⟨v, as, rfl, r1, List.sublist_append_left _ _⟩
    | succ i =>
      obtain ⟨w, cs, h1, h2, h3⟩ := ih i e
      exact ⟨w, cs, h1, h2, h3.trans (List.sublist_append_right _ _)⟩) r i e
theorem readsAll_length {h : Heap} {vs : List Value} {ds : List PyData} {as : List Addr} (r : ReadsAll h vs ds as) : vs.length = ds.length :=
  ra_ind (M := fun vs ds _ => vs.length = ds.length) rfl (fun _ _ ih => congrArg (· + 1) ih) r
theorem nomem {α : Type} {P : α → Prop} : ∀ a ∈ ([] : List α), P a := fun _ h => absurd h List.not_mem_nil
theorem noget {α β : Type} {P : Nat → α → β → Prop} : ∀ (j : Nat) (x : α) (y : β), ([] : List α)[j]? = some x → ([] : List β)[j]? = some y → P j x y := fun j x y e => by rw [List.getElem?_nil] at e; cases e

noncomputable def EK.sub : EK → EK
  | .us _ => .w
  | k => k
theorem KOk.sub {f : Fm} {mo : Addr → Prop} {fp : Nat → List Addr} {h h' : Heap} {k : EK} {as bs : List Addr} (x : KOk f mo fp h h' k as) (hs : bs.Sublist as) : KOk f mo fp h h' k.sub bs := by
  refine ⟨fun h => x.1 (hs.subset h), ?_⟩
  replace x := x.2
  cases k with
  | w => trivial
  | sh => exact fun a ha => x a (hs.subset ha)
  | lo => exact fun a ha => x a (hs.subset ha)
  | fr => exact ⟨x.1.sublist hs, fun a ha => x.2.1 a (hs.subset ha), fun a ha => x.2.2 a (hs.subset ha)⟩
  | us is => trivial
theorem KOk.later {c : Cx} {f : Fm} {mo : Addr → Prop} {fp : Nat → List Addr} {s' s'' : Shared} {h : Heap} {k : EK} {as : List Addr} (W : Wf c s') (x : Ext c s' s'') (ko : KOk f mo fp h s'.heap k as) : KOk f mo fp h s''.heap k as := by
  refine ⟨ko.1, ?_⟩
  replace ko := ko.2
  cases k with
  | w => trivial
  | sh => exact ko
  | lo => exact ko
  | fr => exact ⟨ko.1, ko.2.1, fun a ha => (ko.2.2 a ha).ext W x⟩
  | us is => exact ko

section
variable {c : Cx} {f : Fm} {ρ : Rho} {mo : Addr → Prop} {val : Nat → Value} {fp : Nat → List Addr} {s : Shared} {E : Value → Shared → Prop}
  {e l r x y : Expr} {d d1 d2 : PyData} {k k1 k2 : EK} {pos : Pos} {a b i : Int} {xs : List PyData} {es : List Expr} {ds : List PyData}

theorem ev_item (h1 : Ev c f ρ l (.list xs) k1) (h2 : Ev c f ρ r (.int i) k2) (h0 : 0 ≤ i) (hfit : i < 2 ^ 63) (hx : xs[i.toNat]? = some d)
    (hs : ∀ o i, subscripted r false o i = operate [o, i] (getItem o i) := by intros; rfl) : Ev c f ρ (.Subscript l r pos) d k1.sub := by
  intro mo val fp s E S
  refine Subscript_ (h1.bind S fun v1 s1 as1 x1 S1 r1 k1 => h2.bind S1 fun v2 s2 as2 x2 S2 r2 _ => ?_)
  have r1' := x2.reads S1.wf r1
  cases r2
  cases r1' with
  | list g1 g2 g3 g4 =>
    obtain ⟨v, bs, q1, q2, q3⟩ := readsAll_item g4 hx
    refine tail_any (T := "list") ⟨_, g1, g2⟩ slot_list_getitem.lookup ?_ (hs _ _)
    exact wpAny_getItem_list ⟨_, g1, g2, _, g3⟩ h0 hfit (by simpa using q1) ⟨x1.trans x2, bs, q2, KOk.sub (KOk.later S1.wf x2 (by assumption)) (q3.trans (List.sublist_cons_self ..))⟩
theorem ev_tupitem (h1 : Ev c f ρ l (.tuple xs) k1) (h2 : Ev c f ρ r (.int i) k2) (h0 : 0 ≤ i) (hfit : i < 2 ^ 63) (hx : xs[i.toNat]? = some d)
    (hs : ∀ o i, subscripted r false o i = operate [o, i] (getItem o i) := by intros; rfl) : Ev c f ρ (.Subscript l r pos) d k1.sub := by
  intro mo val fp s E S
  refine Subscript_ (h1.bind S fun v1 s1 as1 x1 S1 r1 k1 => h2.bind S1 fun v2 s2 as2 x2 S2 r2 _ => ?_)
  have r1' := x2.reads S1.wf r1
  cases r2
  cases r1' with
  | tuple g1 g2 g3 g4 =>
    obtain ⟨v, bs, q1, q2, q3⟩ := readsAll_item g4 hx
    refine tail_any (T := "tuple") ⟨_, g1, g2⟩ slot_tuple_getitem.lookup ?_ (hs _ _)
    have hlt : i.toNat < xs.length := by
      rcases Nat.lt_or_ge i.toNat xs.length with q | q
      · exact q
      · rw [List.getElem?_eq_none q] at hx; cases hx
    have hl := readsAll_length g4
    rename_i o vs n
    have hsz : vs.size = xs.length := by simpa using hl
    exact PyProof.Rows.getItem_tuple (j := i.toNat) ⟨_, g1, g2, _, g3⟩ (by omega) hfit
      (by unfold seqIndex?; have e1 : ¬ (i < 0) := by omega
          have e2 : i < (vs.size : Int) := by omega
          simp [e1, h0, e2]) (by simpa using q1) ⟨x1.trans x2, bs, q2, KOk.sub (KOk.later S1.wf x2 (by assumption)) q3⟩

/-! lists of expressions -/
noncomputable def EvL (c : Cx) (f : Fm) (ρ : Rho) (es : List Expr) (ds : List PyData) (k : EK) : Prop :=
  ∀ pos mo val fp s E, St c f ρ mo val fp s → wpAny c.M f.A (spliced (backTo pos (starEach es f.env))) (fun vs s' => Ext c s s' ∧ ∃ as, ReadsAll s'.heap vs ds as ∧ KOk f mo fp s.heap s'.heap k as) E s

theorem evl_nil (hk : ∀ is, k = .us is → is = [] := by nofun) : EvL c f ρ [] [] k := fun pos mo val fp s E S =>
  args_nil ⟨Ext.refl S.wf, [], .nil, KOk.nil hk⟩
theorem evl_nilU : EvL c f ρ [] [] (.us []) := evl_nil fun is e => by cases e; rfl
theorem evl_cons_any {k : EK} (h1 : Ev c f ρ e d k1) (h2 : EvL c f ρ es ds k2)
    (hk : ∀ mo fp (s s1 s2 : Shared) as bs v, Ext c s s1 → Reads s1.heap v d as → KOk0 f mo fp s.heap s2.heap k1 as → KOk0 f mo fp s1.heap s2.heap k2 bs → KOk0 f mo fp s.heap s2.heap k (as ++ bs))
    (he : ∀ env rest, starEach (e :: rest) env = (false, eval e env) :: starEach rest env := by intros; rfl) : EvL c f ρ (e :: es) (d :: ds) k := fun pos mo val fp s E S =>
  args_cons (h1.bind S fun v1 s1 as1 x1 S1 r1 ko1 => wpAny_mono (h2 pos mo val fp s1 E S1) (fun vs s2 ⟨x2, bs, r2, ko2⟩ =>
    ⟨x1.trans x2, as1 ++ bs, .cons (x2.reads S1.wf r1) r2, fun h => (List.mem_append.mp h).elim ko1.1 ko2.1, hk mo fp s s1 s2 as1 bs v1 x1 r1 (KOk.later S1.wf x2 ko1).2 ko2.2⟩) fun _ _ z => z) (he _ _)
theorem evl_w (h1 : Ev c f ρ e d k1) (h2 : EvL c f ρ es ds k2) (he : ∀ env rest, starEach (e :: rest) env = (false, eval e env) :: starEach rest env := by intros; rfl) : EvL c f ρ (e :: es) (d :: ds) .w :=
  evl_cons_any h1 h2 (fun _ _ _ _ _ _ _ _ _ _ _ _ => trivial) he
theorem evl_fr (h1 : Ev c f ρ e d .fr) (h2 : EvL c f ρ es ds .fr) (he : ∀ env rest, starEach (e :: rest) env = (false, eval e env) :: starEach rest env := by intros; rfl) : EvL c f ρ (e :: es) (d :: ds) .fr :=
  evl_cons_any h1 h2 (fun mo fp s s1 s2 as bs v x r a b => ⟨List.nodup_append.mpr ⟨a.1, b.1, fun p hp q hq e => by
    subst e
    obtain ⟨o, ho, _⟩ := reads_objs r p hp
    rw [b.2.1 p hq] at ho; cases ho⟩, fun p hp => (List.mem_append.mp hp).elim (a.2.1 p) fun hq => x.up.none (b.2.1 p hq), fun p hp => (List.mem_append.mp hp).elim (a.2.2 p) (b.2.2 p)⟩) he
theorem ev_tuple {n : Nat} (h : EvL c f ρ es ds k) (hsz : ds.length ≤ sizeLine := by decide) : Ev c f ρ (.Tuple es n pos) (.tuple ds) k := by
  intro mo val fp s E S
  refine Tuple_ (wpAny_mono (h pos mo val fp s E S) (fun vs s1 ⟨x1, as, r1, ko⟩ => ?_) fun _ _ z => z)
  refine wpAny_newTuple ?_ (by rw [readsAll_length r1]; exact hsz)
  have x2 : Ext c s1 { s1 with heap := s1.heap.push { cls := .type "tuple", data := .seq vs.toArray } } := Ext.push x1.wf _ _
  exact ⟨x1.trans x2, as, .tuple (Heap.get?_push_size _ rfl) rfl rfl (x2.readsAll x1.wf (by simpa using r1)), ko.later x1.wf x2⟩
theorem get_size_none (h : Heap) : h.get? h.objs.size = none := by
  cases e : h.get? h.objs.size with
  | none => rfl
  | some o => exact absurd (Heap.lt_size e) (Nat.lt_irrefl _)
theorem KOk.cons (S : St c f ρ mo val fp s) {s1 : Shared} {as : List Addr} {D : Addr} (x : Ext c s s1) (hD : s1.heap.get? D = none) (hin : ∀ a ∈ as, ∃ o, s1.heap.get? a = some o) {h' : Heap} (hP : Pl h' D) (ko : KOk f mo fp s.heap h' k as) : KOk f mo fp s.heap h' k.sub (D :: as) := by
  have hDs := x.up.none hD
  have h1 : ¬ mo D := fun m => by obtain ⟨o, q, _⟩ := S.moIn D m; rw [hDs] at q; cases q
  refine ⟨fun h => (List.mem_cons.mp h).elim (fun e => by obtain ⟨m, o, _, _, q, _⟩ := S.ns; rw [e, hDs] at q; cases q) ko.1, ?_⟩
  replace ko := ko.2
  cases k with
  | w => trivial
  | sh => exact fun a ha => (List.mem_cons.mp ha).elim (fun e => e ▸ h1) (ko a)
  | lo => exact fun a ha => (List.mem_cons.mp ha).elim (fun e => e ▸ ⟨h1, S.keep.none hDs⟩) (ko a)
  | fr => exact ⟨List.nodup_cons.mpr ⟨fun hm => (by obtain ⟨o, q⟩ := hin D hm; rw [hD] at q; cases q), ko.1⟩, fun a ha => (List.mem_cons.mp ha).elim (fun e => e ▸ hDs) (ko.2.1 a), fun a ha => (List.mem_cons.mp ha).elim (fun e => e ▸ hP) (ko.2.2 a)⟩
  | us is => trivial
theorem ev_list (h : EvL c f ρ es ds k) (hsz : ds.length ≤ sizeLine := by decide) : Ev c f ρ (.List es pos) (.list ds) k.sub := by
  intro mo val fp s E S
  refine List_ (wpAny_mono (h pos mo val fp s E S) (fun vs s1 ⟨x1, as, r1, ko⟩ => ?_) fun _ _ z => z)
  refine wpAny_newList ?_ (by rw [readsAll_length r1]; exact hsz)
  have x2 : Ext c s1 { s1 with heap := s1.heap.push { cls := .type "list", data := .seq vs.toArray } } := Ext.push x1.wf _ _
  refine ⟨x1.trans x2, s1.heap.objs.size :: as, .list (Heap.get?_push_size _ rfl) rfl rfl (x2.readsAll x1.wf (by simpa using r1)), ?_⟩
  exact KOk.cons S x1 (get_size_none _) (fun a ha => let ⟨o, q, _⟩ := readsAll_objs r1 a ha; ⟨o, q⟩) ⟨_, Heap.get?_push_size _ rfl, .inl ⟨rfl, _, _, rfl⟩, rfl, rfl⟩ (ko.later x1.wf x2)

/-! the context's names -/
structure CxOk (c : Cx) : Prop where
  g : c.hB.Ns mainGlobals c.mg
  gX : ¬ c.X mainGlobals
  b : c.hB.Ns builtinsNs c.mb
  bX : ¬ c.X builtinsNs
  nolimit : c.hB.NoLimit
  sX : ¬ c.X cStatics
  nodigits : ∃ mc, c.hB.Ns cStatics mc ∧ mc "sys.int_max_str_digits" = none
  builtins : ∀ x : Str, x ≠ "__name__" → c.mb x = bootBuiltins x

theorem Ns.base {c : Cx} {s : Shared} {a : Addr} {m : Str → Option Value} (W : Wf c s) (n : c.hB.Ns a m) (hX : ¬ c.X a) : s.heap.Ns a m := by
  obtain ⟨o, es, ep, ho, r⟩ := n
  exact ⟨o, es, ep, W.base _ _ hX ho, r⟩
theorem NoLimit.base {c : Cx} {s : Shared} (W : Wf c s) (C : CxOk c) : s.heap.NoLimit := by
  obtain ⟨mc, n, e⟩ := C.nolimit
  exact ⟨mc, Ns.base W n C.sX, e⟩

structure FnD where
  name : Str
  params : Arguments
  body : List Stmt
  scope : Scope

structure Has (c : Cx) (d : FnD) (fa : Addr) (o : Obj) (pm code doc : Value) : Prop where
  at_ : c.mg d.name = some (.ref fa)
  obj : c.hB.get? fa = some o
  nX : ¬ c.X fa
  data : o.data = .func (docDef d.name d.params d.body d.scope pm code doc)
  crec : c.hB.CodeRec code d.name
  cX : ∀ a, code = .ref a → ¬ c.X a
theorem Has.codeRec {d : FnD} {fa : Addr} {o : Obj} {pm code doc : Value} (H : Has c d fa o pm code doc) (W : Wf c s) : s.heap.CodeRec code d.name := by
  obtain ⟨a, ob, vs, t, e, g, r⟩ := H.crec
  exact ⟨a, ob, vs, t, e, W.base _ _ (H.cX a e) g, r⟩

/-- what a call of a def gives: a datum of new objects -/
noncomputable def Fn (c : Cx) (lv : Nat) (d : FnD) (args : List PyData) (res : PyData) (u : Bool) : Prop :=
  ∀ A s vals ass E fa o pm code doc, Has c d fa o pm code doc → Room lv A → Wf c s → ReadsAll s.heap vals args ass →
    wpAny c.M A (call (.ref fa) vals) (fun v s' => Ext c s s' ∧ ∃ as, Reads s'.heap v res as ∧ (∀ a ∈ as, s.heap.get? a = none) ∧ (u = true → as.Nodup ∧ ∀ a ∈ as, Pl s'.heap a)) E s

theorem Room.mono {n m : Nat} {A : Around} (R : Room n A) (h : m ≤ n) : Room m A := ⟨R.hand, by have := R.depth; omega, by have := R.units; omega, R.guards⟩

/-- the function stands in the module -/
noncomputable def Stands (c : Cx) (d : FnD) : Prop := ∃ fa o pm code doc, Has c d fa o pm code doc

theorem call_core {d : FnD} {args : List PyData} {res : PyData} {u : Bool} {lv : Nat} {np : Pos} {e : Expr} (C : CxOk c) (H : Stands c d) (hx : f.env.kindOf d.name = some .globalImplicit)
    (ha : EvL c f ρ (e :: es) args k) (hf : Fn c lv d args res u) (hlv : lv ≤ f.lv)
    (hd : (d.name == ("__debug__" : Str)) = false) (he : ∀ env rest, starEach (e :: rest) env = (false, eval e env) :: starEach rest env)
    (S : St c f ρ mo val fp s) :
    wpAny c.M f.A (eval (.Call (.Name d.name np) (e :: es) [] pos) f.env) (fun v s' => Ext c s s' ∧ ∃ as, Reads s'.heap v res as ∧ (∀ a ∈ as, s.heap.get? a = none) ∧ (u = true → as.Nodup ∧ ∀ a ∈ as, Pl s'.heap a)) E s := by
  obtain ⟨fa, o, pm, code, doc, H⟩ := H
  refine Call_ (Name_function_global S.ok.kind hx ?_ hd)
  refine loadGlobal_global (mg := c.mg) (by rw [S.ok.glob]; exact Ns.base S.wf C.g C.gX) H.at_ ?_
  refine callWith_def (o := o) H.data ?_ (he _ _)
  refine wpAny_mono (ha pos mo val fp s E S) (fun vs s1 ⟨x1, as, r1, _⟩ => ⟨x1.wf.base _ _ H.nX H.obj, ?_⟩) fun _ _ z => z
  refine wpAny_mono (hf f.A s1 vs as E fa o pm code doc H (S.ok.room.mono hlv) x1.wf r1) (fun v s2 ⟨x2, bs, r2, n2, u2⟩ => ?_) fun _ _ z => z
  exact ⟨x1.trans x2, bs, r2, fun a h => x1.up.none (n2 a h), u2⟩

theorem ev_call {d : FnD} {args : List PyData} {res : PyData} {lv : Nat} {np : Pos} {e : Expr} (C : CxOk c) (H : Stands c d) (hx : f.env.kindOf d.name = some .globalImplicit)
    (ha : EvL c f ρ (e :: es) args k) (hf : Fn c lv d args res true) (hlv : lv ≤ f.lv)
    (hd : (d.name == ("__debug__" : Str)) = false := by decide +kernel) (he : ∀ env rest, starEach (e :: rest) env = (false, eval e env) :: starEach rest env := by intros; rfl) :
    Ev c f ρ (.Call (.Name d.name np) (e :: es) [] pos) res .fr := fun mo val fp s E S =>
  wpAny_mono (call_core C H hx ha hf hlv hd he S) (fun v s' ⟨x, as, r, n, u⟩ => ⟨x, as, r, frOk S (u rfl).1 n (u rfl).2⟩) fun _ _ z => z
end
end Mine

namespace Mine
open PySem PySem.Spec PySem.Calls PyProof.Rows

noncomputable def Pv (f : Fm) (a : Addr) : Prop := a = f.env.locals ∨ ∃ x, f.env.cells.lookup x = some a

structure FmS (c : Cx) (f : Fm) : Prop where
  kinds : ∀ (i : Nat) (x : Str), f.xs[i]? = some x → f.env.kindOf x = some .local ∨ (f.env.kindOf x = some .cell ∧ ∃ a, f.env.cells.lookup x = some a)
  nd : f.xs.Nodup
  inj : ∀ x y a, f.env.cells.lookup x = some a → f.env.cells.lookup y = some a → x = y
  pv : ∀ a, Pv f a → f.h₀.get? a = none
  base : Up c.X c.hB f.h₀

structure Step (c : Cx) (f : Fm) (mo : Addr → Prop) (s : Shared) (mo' : Addr → Prop) (s' : Shared) : Prop where
  kp : ∀ b o, ¬ c.X b → ¬ Pv f b → ¬ mo b → s.heap.get? b = some o → s'.heap.get? b = some o
  th : ∀ b o, s.heap.get? b = some o → ∃ o', s'.heap.get? b = some o'
  mo : ∀ b, mo' b → mo b ∨ s.heap.get? b = none

theorem Step.refl {c : Cx} {f : Fm} {mo : Addr → Prop} {s : Shared} : Step c f mo s mo s := ⟨fun _ _ _ _ _ e => e, fun _ o e => ⟨o, e⟩, fun _ h => .inl h⟩
theorem Step.ext {c : Cx} {f : Fm} {mo : Addr → Prop} {s s' : Shared} (x : Ext c s s') : Step c f mo s mo s' := ⟨fun b o h _ _ e => x.up.kp b o h e, x.up.th, fun _ h => .inl h⟩
theorem Step.none {c : Cx} {f : Fm} {mo mo' : Addr → Prop} {s s' : Shared} (x : Step c f mo s mo' s') {a : Addr} (e : s'.heap.get? a = none) : s.heap.get? a = none := by
  cases q : s.heap.get? a with
  | none => rfl
  | some o => obtain ⟨o', e'⟩ := x.th a o q; rw [e] at e'; cases e'
theorem Step.trans {c : Cx} {f : Fm} {mo mo' mo'' : Addr → Prop} {s s' s'' : Shared} (a : Step c f mo s mo' s') (b : Step c f mo' s' mo'' s'') : Step c f mo s mo'' s'' where
  kp := fun x o h1 h2 h3 e => b.kp x o h1 h2 (fun h => (a.mo x h).elim h3 fun q => by rw [e] at q; cases q) (a.kp x o h1 h2 h3 e)
  th := fun x o e => let ⟨_, e'⟩ := a.th x o e; b.th x _ e'
  mo := fun x h => (b.mo x h).elim (a.mo x) fun q => .inr (a.none q)
noncomputable def upd {α : Type} (g : Nat → α) (i : Nat) (v : α) : Nat → α := fun j => if j = i then v else g j
theorem upd_self {α : Type} (g : Nat → α) (i : Nat) (v : α) : upd g i v i = v := by simp [upd]
theorem upd_ne {α : Type} (g : Nat → α) (i : Nat) (v : α) {j : Nat} (h : j ≠ i) : upd g i v j = g j := by simp [upd, h]

noncomputable def SlotOk (f : Fm) (ρ : Rho) (i : Nat) (mo : Addr → Prop) (fp : Nat → List Addr) (h : Heap) (k : K) (as : List Addr) : Prop :=
  match k with
  | .sh => ∀ a ∈ as, ¬ mo a
  | .lo => ∀ a ∈ as, ¬ mo a ∧ f.h₀.get? a = none
  | .ow => as.Nodup ∧ (∀ a ∈ as, ¬ mo a ∧ f.h₀.get? a = none) ∧ (∀ j sl, j ≠ i → ρ[j]? = some (some sl) → ∀ a ∈ fp j, a ∉ as) ∧ ∀ a ∈ as, Pl h a
noncomputable def moWith (mo : Addr → Prop) (k : K) (as : List Addr) : Addr → Prop := fun a => mo a ∨ (k = .ow ∧ a ∈ as)

section
variable {c : Cx} {f : Fm} {ρ : Rho} {mo : Addr → Prop} {val : Nat → Value} {fp : Nat → List Addr} {s : Shared} {E : Value → Shared → Prop}

theorem pv_obj (S : St c f ρ mo val fp s) {p : Addr} (hp : Pv f p) : ∃ o, s.heap.get? p = some o ∧ ((∃ es n, o.data = .dict es n) ∨ ∃ v, o.data = .cell v) := by
  rcases hp with rfl | ⟨x, hx⟩
  · obtain ⟨m, o, es, ep, ho, hd, _⟩ := S.ns; exact ⟨o, ho, .inl ⟨es, ep, hd⟩⟩
  · obtain ⟨v, o, ho, hd⟩ := S.cells x p hx; exact ⟨o, ho, .inr ⟨v, hd⟩⟩
theorem pv_notX (S : St c f ρ mo val fp s) {p : Addr} (hp : Pv f p) : ¬ c.X p := fun hx => by
  obtain ⟨o, ho, h⟩ := pv_obj S hp
  obtain ⟨ps, q⟩ := S.wf.tab p hx
  rw [q] at ho; cases ho
  rcases h with ⟨_, _, h⟩ | ⟨_, h⟩ <;> cases h

/-- a change at a private place keeps what is read -/
theorem reads_pv (S : St c f ρ mo val fp s) {p : Addr} {h' : Heap} {v : Value} {d : PyData} {as : List Addr} (hp : Pv f p) (hs : Heap.SameBut p s.heap h') (hL : f.env.locals ∉ as) (r : Reads s.heap v d as) : Reads h' v d as := by
  obtain ⟨op, hop, hdp⟩ := pv_obj S hp
  refine reads_upon r (fun a ha o e _ => (hs.2 a fun q => ?_).trans e) (fun a o e ht hd => (hs.2 a fun q => ?_).trans e)
  · subst q
    rcases hp with rfl | ⟨x, hx⟩
    · exact hL ha
    · obtain ⟨v, o2, ho2, hd2⟩ := S.cells x a hx
      obtain ⟨o3, ho3, hl⟩ := reads_objs r a ha
      rw [ho2] at ho3; cases ho3
      rcases hl with ⟨_, _, _, h⟩ | ⟨_, _, _, h⟩ <;> rw [hd2] at h <;> cases h
  · subst q
    rw [hop] at e; cases e
    obtain ⟨vs, n, hd⟩ := hd
    rcases hdp with ⟨_, _, h⟩ | ⟨_, h⟩ <;> rw [hd] at h <;> cases h

theorem St.store {i : Nat} {x : Str} {v : Value} {sl : Slot} {as : List Addr} {p : Addr} {h' : Heap} {tk : Nat} (FS : FmS c f) (S : St c f ρ mo val fp s) (hx : f.xs[i]? = some x) (hi : i < ρ.length)
    (hp : Pv f p) (hs : Heap.SameBut p s.heap h') (hns : ∃ m, h'.Ns f.env.locals m) (hcells : ∀ y a, f.env.cells.lookup y = some a → ∃ v, h'.IsCell a v)
    (hload : Loads f.env h' x v) (hother : ∀ y u, y ≠ x → Loads f.env s.heap y u → Loads f.env h' y u)
    (r : Reads s.heap v sl.d as) (hL : f.env.locals ∉ as) (ok : SlotOk f ρ i mo fp s.heap sl.k as) :
    St c f (ρ.set i (some sl)) (moWith mo sl.k as) (upd val i v) (upd fp i as) { s with heap := h', toks := tk } ∧ (∀ b o, ¬ Pv f b → s.heap.get? b = some o → h'.get? b = some o) ∧ (∀ b o, s.heap.get? b = some o → ∃ o', h'.get? b = some o') := by
  have hB : c.hB.get? p = none := FS.base.none (FS.pv p hp)
  have hX := pv_notX S hp
  have slot : ∀ j t, (ρ.set i (some sl))[j]? = some (some t) → (j = i ∧ t = sl) ∨ (j ≠ i ∧ ρ[j]? = some (some t)) := fun j t e => by
    rw [List.getElem?_set] at e
    by_cases q : i = j
    · rw [if_pos q, if_pos hi] at e; cases e; exact .inl ⟨q.symm, rfl⟩
    · rw [if_neg q] at e; exact .inr ⟨fun h => q h.symm, e⟩
  have asmo : ∀ a ∈ as, ¬ mo a := fun a ha => by
    revert ok; unfold SlotOk
    cases sl.k with
    | sh => exact fun q => q a ha
    | lo => exact fun q => (q a ha).1
    | ow => exact fun q => (q.2.1 a ha).1
  have keepB : ∀ b o, b ≠ p → s.heap.get? b = some o → h'.get? b = some o := fun b o hb e => (hs.2 b hb).trans e
  obtain ⟨op, hop, hdp⟩ := pv_obj S hp
  have th : ∀ b o, s.heap.get? b = some o → ∃ o', h'.get? b = some o' := fun b o e => by
    by_cases q : b = p
    · subst q
      rcases hp with rfl | ⟨y, hy⟩
      · obtain ⟨m, o', _, _, ho', _⟩ := hns; exact ⟨o', ho'⟩
      · obtain ⟨_, o', ho', _⟩ := hcells y b hy; exact ⟨o', ho'⟩
    · exact ⟨o, keepB b o q e⟩
  have ldNotPv : ∀ a o, s.heap.get? a = some o → ListOrDict o → a ≠ f.env.locals → a ≠ p := fun a o e hl hn q => by
    subst q
    rcases hp with rfl | ⟨y, hy⟩
    · exact hn rfl
    · obtain ⟨v, o2, ho2, hd2⟩ := S.cells y a hy
      rw [ho2] at e; cases e
      rcases hl with ⟨_, _, _, h⟩ | ⟨_, _, _, h⟩ <;> rw [hd2] at h <;> cases h
  refine ⟨?_, fun b o h2 e => keepB b o (fun q => h2 (q ▸ hp)) e, th⟩
  · refine ⟨S.wf.sameBut hs hB hX, S.ok, ⟨fun b o h e => ?_, fun b o e => ?_⟩, hns, hcells, fun j t e => ?_, fun j t e ho => ?_, fun j t e ho => ?_, fun j t e hl => ?_, fun j j' t t' hne e e' ho ho' => ?_, fun a h => ?_, fun a h => ?_, ?_, fun j t e => ?_⟩
    · exact keepB b o (fun q => by have := FS.pv p hp; rw [← q, e] at this; cases this) (S.keep.kp b o h e)
    · obtain ⟨o', e'⟩ := S.keep.th b o e; exact th b o' e'
    · rcases slot j t e with ⟨rfl, rfl⟩ | ⟨hj, e⟩
      · exact ⟨x, hx, by rw [upd_self]; exact hload, by rw [upd_self, upd_self]; exact reads_pv S hp hs hL r⟩
      · obtain ⟨y, h1, h2, h3⟩ := S.var j t e
        have hyx : y ≠ x := fun q => hj (by
          subst q
          have hl1 : j < f.xs.length := (List.getElem?_eq_some_iff.mp h1).1
          exact (List.getElem?_inj hl1 FS.nd).mp (h1.trans hx.symm))
        exact ⟨y, h1, by rw [upd_ne _ _ _ hj]; exact hother y _ hyx h2, by rw [upd_ne _ _ _ hj, upd_ne _ _ _ hj]; exact reads_pv S hp hs (S.fpL j t e) h3⟩
    · rcases slot j t e with ⟨rfl, rfl⟩ | ⟨hj, e⟩
      · rw [upd_self]; simp only [SlotOk, ho] at ok; exact ⟨ok.1, fun a ha => .inr ⟨ho, ha⟩⟩
      · rw [upd_ne _ _ _ hj]; exact ⟨(S.own j t e ho).1, fun a ha => .inl ((S.own j t e ho).2 a ha)⟩
    · rcases slot j t e with ⟨rfl, rfl⟩ | ⟨hj, e⟩
      · rw [upd_self]; exact fun a ha h => h.elim (asmo a ha) fun q => ho q.1
      · rw [upd_ne _ _ _ hj]
        intro a ha h
        rcases h with h | ⟨h, h'⟩
        · exact S.shr j t e ho a ha h
        · simp only [SlotOk, h] at ok; exact ok.2.2.1 j t hj e a ha h'
    · rcases slot j t e with ⟨rfl, rfl⟩ | ⟨hj, e⟩
      · rw [upd_self]; simp only [SlotOk, hl] at ok; exact fun a ha => (ok a ha).2
      · rw [upd_ne _ _ _ hj]; exact S.loc j t e hl
    · rcases slot j t e with ⟨rfl, rfl⟩ | ⟨hj, e1⟩ <;> rcases slot j' t' e' with ⟨rfl, rfl⟩ | ⟨hj', e1'⟩
      · exact absurd rfl hne
      · rw [upd_self, upd_ne _ _ _ hj']
        simp only [SlotOk, ho] at ok
        exact fun a ha h => ok.2.2.1 j' t' hj' e1' a h ha
      · rw [upd_self, upd_ne _ _ _ hj]
        simp only [SlotOk, ho'] at ok
        exact fun a ha h => ok.2.2.1 j t hj e1 a ha h
      · rw [upd_ne _ _ _ hj, upd_ne _ _ _ hj']; exact S.apart j j' t t' hne e1 e1' ho ho'
    · rcases h with h | ⟨h, ha⟩
      · exact S.moNew a h
      · simp only [SlotOk, h] at ok; exact (ok.2.1 a ha).2
    · have : Pl s.heap a := h.elim (S.moPl a) fun q => by
        have ok' := ok
        simp only [SlotOk, q.1] at ok'; exact ok'.2.2.2 a q.2
      obtain ⟨o, ho, hl, hd⟩ := this
      exact ⟨o, keepB a o (ldNotPv a o ho hl (fun q => h.elim (fun h => S.moL (q ▸ h)) fun h => hL (q ▸ h.2))) ho, hl, hd⟩
    · exact fun h => h.elim S.moL fun q => hL q.2
    · rcases slot j t e with ⟨rfl, rfl⟩ | ⟨hj, e⟩
      · rw [upd_self]; exact hL
      · rw [upd_ne _ _ _ hj]; exact S.fpL j t e
end
end Mine

namespace Mine
open PySem PySem.Spec PySem.Calls PyProof.Rows

inductive Fl where
  | next | brk | cont
  | ret (d : PyData) (u : Bool)

noncomputable def FlOk (f : Fm) (s' : Shared) : Flow → Fl → Prop
  | .next, .next => True
  | .brk, .brk => True
  | .cont, .cont => True
  | .ret v, .ret d u => ∃ as, Reads s'.heap v d as ∧ (∀ a ∈ as, f.h₀.get? a = none) ∧ (u = true → as.Nodup ∧ ∀ a ∈ as, Pl s'.heap a)
  | _, _ => False

noncomputable def Post (c : Cx) (f : Fm) (mo : Addr → Prop) (s : Shared) (Q : Fl → Rho → Prop) (fl : Flow) (s' : Shared) : Prop :=
  ∃ fl' ρ' mo' val' fp', FlOk f s' fl fl' ∧ St c f ρ' mo' val' fp' s' ∧ Step c f mo s mo' s' ∧ Q fl' ρ'

noncomputable def Ex1 (c : Cx) (f : Fm) (st : Stmt) (ρ : Rho) (Q : Fl → Rho → Prop) : Prop :=
  ∀ mo val fp s, St c f ρ mo val fp s → wpAny c.M f.A (exec st f.env) (Post c f mo s Q) (fun _ _ => False) s
noncomputable def Ex (c : Cx) (f : Fm) (body : List Stmt) (ρ : Rho) (Q : Fl → Rho → Prop) : Prop :=
  ∀ mo val fp s, St c f ρ mo val fp s → wpAny c.M f.A (execs body f.env) (Post c f mo s Q) (fun _ _ => False) s

noncomputable def seqQ (c : Cx) (f : Fm) (rest : List Stmt) (Q : Fl → Rho → Prop) : Fl → Rho → Prop
  | .next, ρ => Ex c f rest ρ Q
  | fl, ρ => Q fl ρ

section
variable {c : Cx} {f : Fm} {ρ ρ' : Rho} {mo mo' : Addr → Prop} {val val' : Nat → Value} {fp fp' : Nat → List Addr} {s s' : Shared} {E : Value → Shared → Prop}
  {st : Stmt} {rest body orelse : List Stmt} {Q : Fl → Rho → Prop} {e : Expr} {d : PyData} {k : EK} {pos : Pos}

theorem Post.mono {Q' : Fl → Rho → Prop} {fl : Flow} (h : Post c f mo s Q fl s') (hq : ∀ fl ρ, Q fl ρ → Q' fl ρ) : Post c f mo s Q' fl s' :=
  by obtain ⟨a, b, m, v, p, h1, h2, h3, h4⟩ := h; exact ⟨a, b, m, v, p, h1, h2, h3, hq _ _ h4⟩
theorem Post.later {fl : Flow} {s1 : Shared} (x : Step c f mo s mo' s1) (h : Post c f mo' s1 Q fl s') : Post c f mo s Q fl s' :=
  by obtain ⟨a, b, m, v, p, h1, h2, h3, h4⟩ := h; exact ⟨a, b, m, v, p, h1, h2, x.trans h3, h4⟩

theorem ex_nil (h : Q .next ρ) : Ex c f [] ρ Q := fun mo val fp s S => wpAny_execs_nil ⟨.next, ρ, mo, val, fp, trivial, S, Step.refl, h⟩
theorem ex_cons (h : Ex1 c f st ρ (seqQ c f rest Q)) : Ex c f (st :: rest) ρ Q := fun mo val fp s S => by
  refine wpAny_execs_cons (wpAny_mono (h mo val fp s S) (fun fl s1 hp => ?_) fun _ _ z => z)
  obtain ⟨fl', ρ', mo', val', fp', h1, h2, h3, h4⟩ := hp
  cases fl <;> cases fl' <;> first | exact h1.elim | skip
  · exact wpAny_mono (h4 mo' val' fp' s1 h2) (fun fl s2 hp => hp.later h3) fun _ _ z => z
  · exact ⟨.brk, ρ', mo', val', fp', h1, h2, h3, h4⟩
  · exact ⟨.cont, ρ', mo', val', fp', h1, h2, h3, h4⟩
  · exact ⟨.ret _ _, ρ', mo', val', fp', h1, h2, h3, h4⟩
theorem Ex1.mono {Q' : Fl → Rho → Prop} (h : Ex1 c f st ρ Q) (hq : ∀ fl ρ, Q fl ρ → Q' fl ρ) : Ex1 c f st ρ Q' := fun mo val fp s S => wpAny_mono (h mo val fp s S) (fun _ _ hp => hp.mono hq) fun _ _ z => z

/-! less knowledge -/
noncomputable def K.le : K → K → Bool
  | .sh, _ => true
  | .lo, .sh => false
  | .lo, _ => true
  | .ow, .ow => true
  | .ow, _ => false
noncomputable def Sub (ρ ρ' : Rho) : Prop := ∀ (i : Nat) (sl' : Slot), ρ'[i]? = some (some sl') → ∃ sl : Slot, ρ[i]? = some (some sl) ∧ sl.d = sl'.d ∧ (sl'.k.le sl.k = true ∨ flat sl.d = true)
noncomputable def moOf (ρ : Rho) (fp : Nat → List Addr) : Addr → Prop := fun a => ∃ (i : Nat) (sl : Slot), ρ[i]? = some (some sl) ∧ sl.k = .ow ∧ a ∈ fp i

/-! a store into a variable -/
theorem store_step {x : Str} {i : Nat} {v : Value} {sl : Slot} {as : List Addr} {Q : Unit → Shared → Prop} (FS : FmS c f) (S : St c f ρ mo val fp s) (hx : f.xs[i]? = some x) (hi : i < ρ.length)
    (r : Reads s.heap v sl.d as) (hL : f.env.locals ∉ as) (ok : SlotOk f ρ i mo fp s.heap sl.k as)
    (hQ : ∀ s', St c f (ρ.set i (some sl)) (moWith mo sl.k as) (upd val i v) (upd fp i as) s' → (∀ b o, ¬ Pv f b → s.heap.get? b = some o → s'.heap.get? b = some o) → (∀ b o, s.heap.get? b = some o → ∃ o', s'.heap.get? b = some o') → Q () s') :
    wpAny c.M f.A (storeName f.env x v) Q E s := by
  rcases FS.kinds i x hx with hl | ⟨hl, a, ha⟩
  · obtain ⟨m, hm⟩ := S.ns
    refine wpAny_storeName_local hl hm (fun h' hn hs => ?_) (by rw [S.ok.kind]; rfl)
    have := S.store (v := v) (sl := sl) (as := as) (p := f.env.locals) (h' := h') (tk := s.toks + 1) FS hx hi (.inl rfl) hs ⟨_, hn⟩ (fun y a e => ?_) (.inl ⟨hl, _, hn, by simp⟩) (fun y u hy ld => ?_) r hL ok
    · exact hQ _ this.1 this.2.1 this.2.2
    · obtain ⟨v0, o, ho, hd⟩ := S.cells y a e
      refine ⟨v0, o, (hs.2 a fun q => ?_).trans ho, hd⟩
      subst q
      obtain ⟨o2, _, _, ho2, hd2, _⟩ := hm
      rw [ho] at ho2; cases ho2; rw [hd] at hd2; cases hd2
    · rcases ld with ⟨h1, m1, h2, h3⟩ | ⟨h1, a, h2, h3⟩
      · refine .inl ⟨h1, _, hn, ?_⟩
        have e1 : m1 y = m y := by
          obtain ⟨o1, es1, _, g1, g2, _, g3⟩ := h2
          obtain ⟨o2, es2, _, g4, g5, _, g6⟩ := hm
          rw [g1] at g4; cases g4
          rw [g2] at g5; cases g5
          rw [← g3, ← g6]
        simp only [hy, if_false, ← e1, h3]
      · obtain ⟨o, ho, hd⟩ := h3
        refine .inr ⟨h1, a, h2, o, (hs.2 a fun q => ?_).trans ho, hd⟩
        subst q
        obtain ⟨o2, _, _, ho2, hd2, _⟩ := hm
        rw [ho] at ho2; cases ho2; rw [hd] at hd2; cases hd2
  · obtain ⟨v0, hv0⟩ := S.cells x a ha
    refine wpAny_storeName_cell S.ok.kind hl ha hv0 fun h' hv hs => ?_
    have := S.store (v := v) (sl := sl) (as := as) (p := a) (h' := h') (tk := s.toks) FS hx hi (.inr ⟨x, ha⟩) hs ?_ (fun y b e => ?_) (.inr ⟨.inl hl, a, ha, hv⟩) (fun y u hy ld => ?_) r hL ok
    · exact hQ _ this.1 this.2.1 this.2.2
    · obtain ⟨m, o, es, ep, ho, hd, q⟩ := S.ns
      refine ⟨m, o, es, ep, (hs.2 _ fun q => ?_).trans ho, hd, q⟩
      obtain ⟨o2, ho2, hd2⟩ := hv0
      rw [q, ho2] at ho; cases ho; rw [hd2] at hd; cases hd
    · by_cases q : b = a
      · subst q; exact ⟨_, hv⟩
      · obtain ⟨v1, o, ho, hd⟩ := S.cells y b e
        exact ⟨v1, o, (hs.2 b q).trans ho, hd⟩
    · rcases ld with ⟨h1, m1, ⟨o, es, ep, ho, hd, h2⟩, h3⟩ | ⟨h1, b, h2, h3⟩
      · refine .inl ⟨h1, m1, ⟨o, es, ep, (hs.2 _ fun q => ?_).trans ho, hd, h2⟩, h3⟩
        obtain ⟨o2, ho2, hd2⟩ := hv0
        rw [q, ho2] at ho; cases ho; rw [hd2] at hd; cases hd
      · obtain ⟨o, ho, hd⟩ := h3
        exact .inr ⟨h1, b, h2, o, (hs.2 b fun q => hy (FS.inj y x a (q ▸ h2) ha)).trans ho, hd⟩

/-- what kind of slot a value of a kind may fill -/
inductive Fills : EK → PyData → K → Prop
  | fr {d : PyData} : Fills .fr d .ow
  | lo {d : PyData} : Fills .lo d .lo
  | frlo {d : PyData} : Fills .fr d .lo
  | sh {d : PyData} : Fills .sh d .sh
  | flat {k : EK} {d : PyData} {k' : K} : flat d = true → Fills k d k'

theorem Fills.ok {k : EK} {d : PyData} {sk : K} {v : Value} {as : List Addr} (h : Fills k d sk) (S : St c f ρ mo val fp s) (x : Ext c s s') (r : Reads s'.heap v d as) (ko : KOk f mo fp s.heap s'.heap k as) {i : Nat} :
    SlotOk f ρ i mo fp s'.heap sk as ∧ (sk = .ow → ∀ a ∈ as, s.heap.get? a = none) := by
  have fpIn : ∀ j sl, ρ[j]? = some (some sl) → ∀ a ∈ fp j, ∃ o, s.heap.get? a = some o := fun j sl e a ha => by
    obtain ⟨_, _, _, r⟩ := S.var j sl e
    obtain ⟨o, ho, _⟩ := reads_objs r a ha; exact ⟨o, ho⟩
  cases h with
  | fr => exact ⟨⟨ko.2.1, (KOk.fr_lo S ko).2, fun j sl _ e a ha h => (by obtain ⟨o, ho⟩ := fpIn j sl e a ha; rw [ko.2.2.1 a h] at ho; cases ho), ko.2.2.2⟩, fun _ => ko.2.2.1⟩
  | lo => exact ⟨ko.2, by nofun⟩
  | frlo => exact ⟨(KOk.fr_lo S ko).2, by nofun⟩
  | sh => exact ⟨ko.2, by nofun⟩
  | flat hf =>
    rw [reads_flat r hf]
    refine ⟨?_, by nofun⟩
    cases sk with
    | sh => exact nofun
    | lo => exact nofun
    | ow => exact ⟨.nil, nofun, fun _ _ _ _ _ _ h => (by cases h), nofun⟩

theorem ex_assign {x : Str} {xp : Pos} {i : Nat} {sk : K} (FS : FmS c f) (hx : f.xs[i]? = some x) (hi : i < ρ.length) (h : Ev c f ρ e d k) (hk : Fills k d sk)
    (hQ : Q .next (ρ.set i (some ⟨sk, d⟩))) (hs : ∀ env, swapsWith e (some (.Name x xp)) pos.line env = pure false := by intro _; rfl) : Ex1 c f (.Assign [.Name x xp] e pos) ρ Q := fun mo val fp s S => by
  refine wpAny_Assign_Name (h.bind S fun v s1 as x1 S1 r1 ko => ?_) (hs _)
  obtain ⟨ok, fresh⟩ := hk.ok S x1 r1 ko (i := i)
  refine store_step (sl := ⟨sk, d⟩) FS S1 hx hi r1 ko.1 ok fun s2 S2 hk2 th2 => ?_
  refine ⟨.next, _, _, _, _, trivial, S2, ⟨fun b o h1 h2 h3 e => hk2 b o h2 (x1.up.kp b o h1 e), fun b o e => let ⟨o', e'⟩ := x1.up.th b o e; th2 b o' e', fun b h => ?_⟩, hQ⟩
  rcases h with h | ⟨h, hb⟩
  · exact .inl h
  · exact .inr (fresh h b hb)

theorem ex_return {u : Bool} (h : Ev c f ρ e d k) (hk : (k = .fr) ∨ (k = .lo ∧ u = false) ∨ (flat d = true) ∨ (∃ is : List Nat, k = .us is ∧ is.Nodup ∧ ∀ i ∈ is, ∃ sl : Slot, ρ[i]? = some (some sl) ∧ sl.k = .ow))
    (hQ : Q (.ret d u) ρ) : Ex1 c f (.Return (some e) pos) ρ Q := fun mo val fp s S => by
  refine wpAny_Return_some (h.bind S fun v s1 as x1 S1 r1 ko => ?_)
  refine ⟨.ret d u, ρ, mo, val, fp, ⟨as, r1, ?_⟩, S1, Step.ext x1, hQ⟩
  rcases hk with rfl | ⟨rfl, rfl⟩ | hf | ⟨is, rfl, hn, hi⟩
  · exact ⟨fun a ha => S.keep.none (ko.2.2.1 a ha), fun _ => ⟨ko.2.1, ko.2.2.2⟩⟩
  · exact ⟨fun a ha => (ko.2 a ha).2, by nofun⟩
  · rw [reads_flat r1 hf]; exact ⟨nofun, fun _ => ⟨.nil, nofun⟩⟩
  · have : as = is.flatMap fp := ko.2
    subst this
    refine ⟨fun a ha => ?_, fun _ => ⟨?_, fun a ha => ?_⟩⟩
    · obtain ⟨i, h1, h2⟩ := List.mem_flatMap.mp ha
      obtain ⟨sl, h3, h4⟩ := hi i h1
      exact S.moNew a ((S.own i sl h3 h4).2 a h2)
    · clear h r1 ko
      induction is with
      | nil => exact .nil
      | cons i is ih =>
        rw [List.flatMap_cons]
        obtain ⟨sl, h3, h4⟩ := hi i (List.mem_cons_self ..)
        refine List.nodup_append.mpr ⟨(S.own i sl h3 h4).1, ih (List.nodup_cons.mp hn).2 fun j hj => hi j (List.mem_cons_of_mem _ hj), fun a ha b hb q => ?_⟩
        subst q
        obtain ⟨j, h5, h6⟩ := List.mem_flatMap.mp hb
        obtain ⟨sl', h7, h8⟩ := hi j (List.mem_cons_of_mem _ h5)
        exact S.apart i j sl sl' (fun q => (List.nodup_cons.mp hn).1 (q ▸ h5)) h3 h7 h4 h8 a ha h6
    · obtain ⟨i, h1, h2⟩ := List.mem_flatMap.mp ha
      obtain ⟨sl, h3, h4⟩ := hi i h1
      exact S1.moPl a ((S.own i sl h3 h4).2 a h2)

theorem ex_if {t : Expr} {q : Bool} (ht : Tst c f ρ t q) (h1 : q = true → Ex c f body ρ Q) (h2 : q = false → Ex c f orelse ρ Q) : Ex1 c f (.If t body orelse pos) ρ Q := fun mo val fp s S => by
  refine wpAny_If (ht.bind S fun s1 x1 S1 => ?_)
  cases q with
  | true => exact wpAny_mono (h1 rfl mo val fp s1 S1) (fun _ _ hp => hp.later (Step.ext x1)) fun _ _ z => z
  | false => exact wpAny_mono (h2 rfl mo val fp s1 S1) (fun _ _ hp => hp.later (Step.ext x1)) fun _ _ z => z
end
end Mine

namespace Mine
open PySem PySem.Spec PySem.Calls PyProof.Rows

/-! changes at the objects of fields that the call itself has made (iterators) -/
theorem oldK_but {h₀ h h' : Heap} {wr : List Addr} (K : OldK h₀ h) (hB : ∀ b ∈ wr, h₀.get? b = none) (hk : ∀ b o, b ∉ wr → h.get? b = some o → h'.get? b = some o) : OldK h₀ h' := by
  have ne : ∀ b o, h₀.get? b = some o → b ∉ wr := fun b o e q => by rw [hB b q] at e; cases e
  refine ⟨fun b o e => ?_, fun b o e => let ⟨o', ho'⟩ := K.there b o e; ⟨o', hk b o' (ne b o e) ho'⟩⟩
  rcases K.old b o e with x | ⟨t, hc, vs, more, hv, x⟩ | ⟨rfl, hc, ⟨o', es, n, ho', r⟩, z⟩
  · exact .inl (hk b o (ne b o e) x)
  · exact .inr (.inl ⟨t, hc, vs, more, hv, hk _ _ (ne b o e) x⟩)
  · have q := hk _ _ (ne _ o e) ho'
    exact .inr (.inr ⟨rfl, hc, ⟨o', es, n, q, r⟩, fun key => by rw [OldK.staticOf_congr (q.trans ho'.symm) key]; exact z key⟩)

section
variable {c : Cx} {f : Fm} {ρ : Rho} {mo : Addr → Prop} {val : Nat → Value} {fp : Nat → List Addr} {s : Shared} {E : Value → Shared → Prop}

theorem reads_soft {h h' : Heap} {wr : List Addr} {v : Value} {d : PyData} {as : List Addr} (hk : ∀ b o, b ∉ wr → h.get? b = some o → h'.get? b = some o)
    (hw : ∀ b ∈ wr, ∃ o vs, h.get? b = some o ∧ o.data = .fields vs) (r : Reads h v d as) : Reads h' v d as := by
  refine reads_upon r (fun a ha o e _ => hk a o (fun q => ?_) e) (fun a o e _ hd => hk a o (fun q => ?_) e)
  · obtain ⟨o1, h1, h2⟩ := reads_objs r a ha
    obtain ⟨o2, vs, h3, h4⟩ := hw a q
    rw [h1] at h3; cases h3
    rcases h2 with ⟨_, _, _, h⟩ | ⟨_, _, _, h⟩ <;> rw [h4] at h <;> cases h
  · obtain ⟨o2, vs, h3, h4⟩ := hw a q
    rw [e] at h3; cases h3
    obtain ⟨_, _, h⟩ := hd
    rw [h4] at h; cases h

theorem St.soft {wr : List Addr} {h' : Heap} {tk : Nat} (S : St c f ρ mo val fp s) (hk : ∀ b o, b ∉ wr → s.heap.get? b = some o → h'.get? b = some o)
    (hw : ∀ b ∈ wr, ∃ o vs, s.heap.get? b = some o ∧ o.data = .fields vs) (hn : ∀ b ∈ wr, f.h₀.get? b = none) (hB : ∀ b ∈ wr, c.hB.get? b = none) (hX : ∀ b ∈ wr, ¬ c.X b) :
    St c f ρ mo val fp { s with heap := h', toks := tk } := by
  have nw : ∀ {b : Addr} {o : Obj}, s.heap.get? b = some o → (∀ vs, o.data ≠ .fields vs) → b ∉ wr := fun {b o} e h q => by
    obtain ⟨o2, vs, h3, h4⟩ := hw b q
    rw [e] at h3; cases h3; exact h vs h4
  have nsK : ∀ {a m}, s.heap.Ns a m → h'.Ns a m := fun ⟨o, es, ep, ho, hd, r⟩ => ⟨o, es, ep, hk _ o (nw ho (by rw [hd]; nofun)) ho, hd, r⟩
  have cellK : ∀ {a v}, s.heap.IsCell a v → h'.IsCell a v := fun ⟨o, ho, hd⟩ => ⟨o, hk _ o (nw ho (by rw [hd]; nofun)) ho, hd⟩
  refine ⟨⟨fun b o h e => ?_, fun b h => ?_, oldK_but S.wf.old hB hk, S.wf.gens, S.wf.os⟩, S.ok, ⟨fun b o h e => ?_, fun b o e => ?_⟩, let ⟨m, n⟩ := S.ns; ⟨m, nsK n⟩,
    fun x a e => let ⟨v, n⟩ := S.cells x a e; ⟨v, cellK n⟩, fun i sl e => ?_, S.own, S.shr, S.loc, S.apart, S.moNew, fun a h => ?_, S.moL, S.fpL⟩
  · exact hk b o (fun q => by rw [hB b q] at e; cases e) (S.wf.base b o h e)
  · obtain ⟨ps, q⟩ := S.wf.tab b h; exact ⟨ps, hk _ _ (fun q => hX b q h) q⟩
  · exact hk b o (fun q => by rw [hn b q] at e; cases e) (S.keep.kp b o h e)
  · obtain ⟨o', e'⟩ := S.keep.th b o e; exact ⟨o', hk b o' (fun q => by rw [hn b q] at e; cases e) e'⟩
  · obtain ⟨x, h1, h2, h3⟩ := S.var i sl e
    refine ⟨x, h1, ?_, reads_soft hk hw h3⟩
    rcases h2 with ⟨g1, m, g2, g3⟩ | ⟨g1, a, g2, g3⟩
    · exact .inl ⟨g1, m, nsK g2, g3⟩
    · exact .inr ⟨g1, a, g2, cellK g3⟩
  · obtain ⟨o, ho, hl, hd⟩ := S.moPl a h
    exact ⟨o, hk a o (nw ho (by rcases hl with ⟨_, _, _, q⟩ | ⟨_, _, _, q⟩ <;> rw [q] <;> nofun)) ho, hl, hd⟩

/-- tuples stand under any step -/
theorem Step.tuple {mo' : Addr → Prop} {s' : Shared} (S : St c f ρ mo val fp s) (x : Step c f mo s mo' s') {a : Addr} {o : Obj} (e : s.heap.get? a = some o) (hc : o.cls = .type "tuple") (hd : ∃ vs n, o.data = .seq vs n) : s'.heap.get? a = some o := by
  obtain ⟨vs, n, hd⟩ := hd
  refine x.kp a o (not_tab S.wf e (by rw [hc]; nofun)) (fun hp => ?_) (fun hm => ?_) e
  · obtain ⟨o2, h2, h3⟩ := pv_obj S hp
    rw [e] at h2; cases h2
    rcases h3 with ⟨_, _, h⟩ | ⟨_, h⟩ <;> rw [hd] at h <;> cases h
  · obtain ⟨o2, h2, h3⟩ := S.moIn a hm
    rw [e] at h2; cases h2
    rcases h3 with ⟨h, _⟩ | ⟨h, _⟩ <;> rw [hc] at h <;> simp at h

noncomputable def EK.safe : EK → Bool
  | .sh | .lo | .fr => true
  | _ => false

structure Itr (c : Cx) (f : Fm) (mo : Addr → Prop) (fp : Nat → List Addr) (s s2 : Shared) (ds : List PyData) (k : EK) (I : Addr) (Fp wr : List Addr) (P : Nat → Value → Prop) (Sx : Nat → Heap → Prop) (as : List Addr) : Prop where
  walks : Walks c.prog c.w f.A I Fp wr ds.length P Sx
  start : Sx 0 s2.heap
  inH : ∀ b ∈ Fp, ∃ o, s2.heap.get? b = some o
  npv : ∀ b ∈ Fp, ¬ Pv f b
  nX : ∀ b ∈ Fp, ¬ c.X b
  nmo : k.safe = true → ∀ b ∈ Fp, ¬ mo b
  fld : ∀ i h, Sx i h → ∀ b ∈ wr, ∃ o vs, h.get? b = some o ∧ o.data = .fields vs
  new : ∀ b ∈ wr, s.heap.get? b = none
  val : ∀ j v d, P j v → ds[j]? = some d → ∃ bs, bs.Sublist as ∧ Reads s2.heap v d bs
  ok : KOk f mo fp s.heap s2.heap k as
  asIn : ∀ a ∈ as, ∃ o, s2.heap.get? a = some o ∧ ListOrDict o

noncomputable def It (c : Cx) (f : Fm) (ρ : Rho) (e : Expr) (ds : List PyData) (k : EK) : Prop :=
  ∀ mo val fp s E, St c f ρ mo val fp s → wpAny c.M f.A (eval e f.env) (fun xv s1 => wpAny c.M f.A (pyIter xv) (fun it s2 => Ext c s s2 ∧
    ∃ I Fp wr P Sx as, it = .ref I ∧ Itr c f mo fp s s2 ds k I Fp wr P Sx as) E s1) E s

/-- slots of a loop's name -/
inductive Fills2 : EK → List PyData → K → Prop
  | sh {ds : List PyData} : Fills2 .sh ds .sh
  | lo {ds : List PyData} : Fills2 .lo ds .lo
  | fr {ds : List PyData} : Fills2 .fr ds .lo
  | flat {k : EK} {ds : List PyData} {sk : K} : k.safe = true → (∀ d ∈ ds, flat d = true) → Fills2 k ds sk
theorem Fills2.safe {k : EK} {ds : List PyData} {sk : K} (h : Fills2 k ds sk) : k.safe = true := by cases h <;> first | rfl | assumption

noncomputable def loopQ (J : Rho → Prop) (Q : Fl → Rho → Prop) : Fl → Rho → Prop
  | .next, ρ => J ρ
  | .cont, ρ => J ρ
  | .brk, ρ => Q .next ρ
  | .ret d u, ρ => Q (.ret d u) ρ

variable {Q : Fl → Rho → Prop} {body : List Stmt} {pos : Pos}

theorem pv_ld (S : St c f ρ mo val fp s) {a : Addr} {o : Obj} (e : s.heap.get? a = some o) (hl : ListOrDict o) (hn : a ≠ f.env.locals) : ¬ Pv f a := fun hp => by
  rcases hp with rfl | ⟨y, hy⟩
  · exact hn rfl
  · obtain ⟨v, o2, ho2, hd2⟩ := S.cells y a hy
    rw [ho2] at e; cases e
    rcases hl with ⟨_, _, _, h⟩ | ⟨_, _, _, h⟩ <;> rw [hd2] at h <;> cases h

noncomputable def ItG (c : Cx) (f : Fm) (ρ : Rho) (e : Expr) (ds : List PyData) (k : EK) (L : Addr → Heap → Prop) : Prop :=
  ∀ mo val fp s E, St c f ρ mo val fp s → wpAny c.M f.A (eval e f.env) (fun xv s1 => wpAny c.M f.A (pyIter xv) (fun it s2 => Ext c s s2 ∧
    ∃ I Fp wr P Sx as, it = .ref I ∧ (∀ i h, Sx i h → L I h) ∧ Itr c f mo fp s s2 ds k I Fp wr P Sx as) E s1) E s
/-- an item is bound to a loop's target -/
noncomputable def AsgT (c : Cx) (f : Fm) (T : Expr) (L : Addr → Heap → Prop) (k : EK) (d : PyData) (ρ ρ2 : Rho) : Prop :=
  ∀ mo val fp (s : Shared) v bs I (Q' : Unit → Shared → Prop) E, St c f ρ mo val fp s → L I s.heap → Reads s.heap v d bs → f.env.locals ∉ bs → (∀ a ∈ bs, ¬ mo a) → (k ≠ .sh → ∀ a ∈ bs, f.h₀.get? a = none) →
    (∀ s4 mo4 val4 fp4, St c f ρ2 mo4 val4 fp4 s4 → (∀ b, mo4 b → mo b) → (∀ b o, ¬ Pv f b → s.heap.get? b = some o → s4.heap.get? b = some o) → (∀ b o, s.heap.get? b = some o → ∃ o', s4.heap.get? b = some o') → Q' () s4) →
    wpAny c.M f.A (letOwnedTupleGo T (.ref I) v) (fun _ s' => wpAny c.M f.A (assign T f.env v) Q' E s') E s
theorem Itr.as_ok {ds : List PyData} {k : EK} {I : Addr} {Fp wr as : List Addr} {P : Nat → Value → Prop} {Sx : Nat → Heap → Prop} {s2 : Shared} (S : St c f ρ mo val fp s) (T : Itr c f mo fp s s2 ds k I Fp wr P Sx as) (hsafe : k.safe = true) : ∀ a ∈ as, ¬ mo a ∧ (k ≠ .sh → f.h₀.get? a = none) := by
  have ko := T.ok
  cases k <;> first | (cases hsafe; done) | skip
  · exact fun a ha => ⟨ko.2 a ha, fun q => absurd rfl q⟩
  · exact fun a ha => ⟨(ko.2 a ha).1, fun _ => (ko.2 a ha).2⟩
  · exact fun a ha => ⟨((KOk.fr_lo S ko).2 a ha).1, fun _ => ((KOk.fr_lo S ko).2 a ha).2⟩
/-- the places of a loop: its iterator and its items -/
theorem Itr.places {ds : List PyData} {k : EK} {I : Addr} {Fp wr as : List Addr} {P : Nat → Value → Prop} {Sx : Nat → Heap → Prop} {s2 : Shared} (S2 : St c f ρ mo val fp s2) (T : Itr c f mo fp s s2 ds k I Fp wr P Sx as) : ∀ b, b ∈ Fp ∨ b ∈ as → ¬ c.X b ∧ ¬ Pv f b := fun b hb => hb.elim (fun hb => ⟨T.nX b hb, T.npv b hb⟩) fun hb => by
  obtain ⟨o, g1, g2⟩ := T.asIn b hb
  exact ⟨not_tab S2.wf g1 (by rcases g2 with ⟨q, _⟩ | ⟨q, _⟩ <;> rw [q] <;> nofun), pv_ld S2 g1 g2 fun q => T.ok.1 (q ▸ hb)⟩
theorem fields_not {o : Obj} {vs : Array Value} (h : o.data = .fields vs) : ¬ ListOrDict o ∧ ¬ ∃ vs n, o.data = .seq vs n := by
  refine ⟨fun k => ?_, fun ⟨_, _, k⟩ => by rw [h] at k; cases k⟩
  rcases k with ⟨_, _, _, k⟩ | ⟨_, _, _, k⟩ <;> rw [h] at k <;> cases k
theorem pv_tuple (S : St c f ρ mo val fp s) {a : Addr} {o : Obj} (g : s.heap.get? a = some o) (hd : ∃ vs n, o.data = .seq vs n) : ¬ Pv f a := fun hp => by
  obtain ⟨o2, h2, h3⟩ := pv_obj S hp
  rw [g] at h2; cases h2
  obtain ⟨_, _, hd⟩ := hd
  rcases h3 with ⟨_, _, h⟩ | ⟨_, h⟩ <;> rw [hd] at h <;> cases h
theorem loop_out {J' : Rho → Prop} {W : Prop} {RR : Flow → Prop} {mo4 : Addr → Prop} {s4 s5 : Shared} {fl : Flow} (X : Step c f mo s mo4 s4) (hp : Post c f mo4 s4 (loopQ J' Q) fl s5) (hn : ∀ ρ5 mo5 val5 fp5, J' ρ5 → St c f ρ5 mo5 val5 fp5 s5 → Step c f mo4 s4 mo5 s5 → W) (hR : ∀ fl, Post c f mo s Q fl s5 → RR fl) : match (generalizing := false) fl with | .next | .cont => W | .brk => RR .next | .ret v => RR (.ret v) := by
  refine cps fun G k => ?_
  obtain ⟨fl', ρ5, mo5, val5, fp5, hfl, S5, X5, hq⟩ := hp
  have hn := hn ρ5 mo5 val5 fp5
  refine k ?_
  clear k
  cases fl <;> cases fl' <;> first | exact hfl.elim | skip
  · exact hn hq S5 X5
  · exact hR _ ⟨.next, ρ5, mo5, val5, fp5, trivial, S5, X.trans X5, hq⟩
  · exact hn hq S5 X5
  · exact hR _ ⟨.ret _ _, ρ5, mo5, val5, fp5, hfl, S5, X.trans X5, hq⟩
/-- a for loop over an iterator: what a turn and the end must give -/
theorem for_any {T : Expr} {I : Addr} {N : Nat} {s2 : Shared} (J : Nat → Rho → Prop) (Y : Nat → (Addr → Prop) → Heap → Prop) (S : St c f ρ mo val fp s2) (X : Step c f mo s mo s2) (h0 : J 0 ρ) (y0 : Y 0 mo s2.heap)
    (turn : ∀ j ρ' mo' val' fp' s' (B R0 : Shared → Prop) (E : Value → Shared → Prop), j < N → J j ρ' → St c f ρ' mo' val' fp' s' → Step c f mo s mo' s' → Y j mo' s'.heap →
      (∀ ρ2 mo4 val4 fp4 s4, St c f ρ2 mo4 val4 fp4 s4 → Step c f mo s mo4 s4 → Ex c f body ρ2 (loopQ (J (j + 1)) Q) → (∀ mo5 s5, Step c f mo4 s4 mo5 s5 → Y (j + 1) mo5 s5.heap) → B s4) →
      wpAny c.M f.A (pyNext (.ref I)) (fun r s₁ => match r with | none => R0 s₁ | some v => wpAny c.M f.A (letOwnedTupleGo T (.ref I) v) (fun _ s₁' => wpAny c.M f.A (assign T f.env v) (fun _ s₂ => B s₂) E s₁') E s₁) E s')
    (done : ∀ ρ' mo' val' fp' s' (R0 : Shared → Prop) (P0 : Value → Shared → Prop) (E : Value → Shared → Prop), St c f ρ' mo' val' fp' s' → Step c f mo s mo' s' → Y N mo' s'.heap → (∀ s3, St c f ρ' mo' val' fp' s3 → Step c f mo s mo' s3 → R0 s3) →
      wpAny c.M f.A (pyNext (.ref I)) (fun r s₁ => match r with | none => R0 s₁ | some v => P0 v s₁) E s')
    (hend : ∀ ρ', J N ρ' → Q .next ρ') {R : Result → Shared → Prop} (hR : ∀ fl s', Post c f mo s Q fl s' → R (.ok fl) s') : codeAny c.M f.A (.forLoop T (.ref I) body [] f.env) R s2 := by
  refine codeAny_forLoop_any (fun n s' => ∃ j ρ' mo' val' fp', j ≤ N ∧ n = N + 1 - j ∧ J j ρ' ∧ St c f ρ' mo' val' fp' s' ∧ Step c f mo s mo' s' ∧ Y j mo' s'.heap) ?_ (N + 1) ⟨0, ρ, mo, val, fp, Nat.zero_le _, rfl, h0, S, X, y0⟩
  intro n s' h
  refine cps fun G k => ?_
  obtain ⟨j, ρ', mo', val', fp', hj, e, hJ, S', X', hY⟩ := h
  refine k ?_
  clear k
  subst e
  by_cases hlt : j < N
  · exact turn j ρ' mo' val' fp' s' _ _ _ hlt hJ S' X' hY fun ρ2 mo4 val4 fp4 s4 S4 X4 hB hY4 => wpAny_mono (hB _ _ _ s4 S4) (fun fl s5 hp => loop_out (RR := fun fl => R (.ok fl) s5) X4 hp (fun ρ5 mo5 val5 fp5 hq S5 X5 => ⟨_, Nat.sub_lt_sub_left (Nat.lt_succ_of_lt hlt) (Nat.lt_succ_self j), j + 1, ρ5, mo5, val5, fp5, hlt, rfl, hq, S5, X4.trans X5, hY4 _ _ X5⟩) fun fl h => hR fl s5 h) fun _ _ z => z.elim
  · cases Nat.le_antisymm hj (Nat.le_of_not_lt hlt)
    exact done ρ' mo' val' fp' s' _ _ _ S' X' hY fun s3 S3 X3 => wpAny_execs_nil (hR _ _ ⟨.next, ρ', mo', val', fp', trivial, S3, X3, hend ρ' hJ⟩)
/-- what stands over a loop's turns -/
structure ForY (Fp as : List Addr) (Sx : Nat → Heap → Prop) (h2 : Heap) (j : Nat) (mo' : Addr → Prop) (h : Heap) : Prop where
  sx : Sx j h
  nmo : ∀ b, b ∈ Fp ∨ b ∈ as → ¬ mo' b
  inH : ∀ b, b ∈ Fp ∨ b ∈ as → ∃ o, h.get? b = some o
  keep : ∀ a o, (a ∈ as ∧ ListOrDict o) ∨ (o.cls = .type "tuple" ∧ ∃ vs n, o.data = .seq vs n) → h2.get? a = some o → h.get? a = some o
theorem step_soft {mo' : Addr → Prop} {s' : Shared} {h3 : Heap} {tk : Nat} {wr : List Addr} (hw : ∀ b ∈ wr, s.heap.get? b = none) (X : Step c f mo s mo' s') (hk3 : ∀ b o, b ∉ wr → s'.heap.get? b = some o → h3.get? b = some o) : Step c f mo s mo' { s' with heap := h3, toks := tk } := by
  have n : ∀ {b o}, s.heap.get? b = some o → b ∉ wr := fun e q => by rw [hw _ q] at e; cases e
  exact ⟨fun b o h1 h2 h3' e => hk3 b o (n e) (X.kp b o h1 h2 h3' e), fun b o e => (X.th b o e).imp fun o1 e1 => hk3 b o1 (n e) e1, X.mo⟩
theorem step_asg {mo' mo4 : Addr → Prop} {s' s4 : Shared} (X : Step c f mo s mo' s') (m4 : ∀ b, mo4 b → mo' b) (k4 : ∀ b o, ¬ Pv f b → s'.heap.get? b = some o → s4.heap.get? b = some o) (t4 : ∀ b o, s'.heap.get? b = some o → ∃ o', s4.heap.get? b = some o') : Step c f mo s mo4 s4 :=
  ⟨fun b o h1 h2 h3 e => k4 b o h2 (X.kp b o h1 h2 h3 e), fun b o e => (X.th b o e).elim fun o1 e1 => t4 b o1 e1, fun b h => X.mo b (m4 b h)⟩
theorem ex_forG (L : Addr → Heap → Prop) {T : Expr} {iter : Expr} {ds : List PyData} {k : EK} (FS : FmS c f) (h : ItG c f ρ iter ds k L) (hsafe : k.safe = true)
    (J : Nat → Rho → Prop) (h0 : J 0 ρ)
    (hb : ∀ j d ρ', ds[j]? = some d → J j ρ' → ∃ ρ2, AsgT c f T L k d ρ' ρ2 ∧ Ex c f body ρ2 (loopQ (J (j + 1)) Q))
    (hend : ∀ ρ', J ds.length ρ' → Q .next ρ') (hs : ∀ env x, foldedSetIterable iter env x = pure x) : Ex1 c f (.For T iter body [] pos) ρ Q := fun mo val fp s S => by
  refine wpAny_For (wpAny_mono (h mo val fp s _ S) (fun xv s1 h1 => wpAny_mono h1 (fun it s2 h2 => ?_) fun _ _ z => z) fun _ _ z => z) (hs _)
  clear h h1
  refine cps fun G K => ?_
  obtain ⟨x2, I, Fp, wr, P, Sx, as, e, hL, Z⟩ := h2
  refine K ?_
  clear K
  subst e
  have S2 := S.ext x2
  have hpl := Z.places S2
  have hao := Z.as_ok S hsafe
  have wrH0 : ∀ b ∈ wr, f.h₀.get? b = none := fun b hb => S.keep.none (Z.new b hb)
  have soft : ∀ {j ρ' mo' val' fp'} {s' : Shared} {h3 : Heap} {tk : Nat}, St c f ρ' mo' val' fp' s' → Sx j s'.heap → (∀ b o, b ∉ wr → s'.heap.get? b = some o → h3.get? b = some o) → St c f ρ' mo' val' fp' { s' with heap := h3, toks := tk } := fun S' hSx hk3 =>
    S'.soft hk3 (Z.fld _ _ hSx) wrH0 (fun b hb => FS.base.none (wrH0 b hb)) (fun b hb => Z.nX b (Z.walks.sub b hb))
  refine for_any (N := ds.length) J (ForY Fp as Sx s2.heap) S2 (Step.ext x2) h0
    ⟨Z.start, fun b hb => hb.elim (Z.nmo hsafe b) (fun hb => (hao b hb).1), fun b hb => hb.elim (Z.inH b) fun hb => (Z.asIn b hb).imp fun _ h => h.1, fun _ _ _ e => e⟩ (fun j ρ' mo' val' fp' s' B R0 E hlt hJ S' X' hY hB4 => Z.walks.item j s' _ _ hlt hY.sx fun v h3 tk hP hSx3 hk3 => ?_)
    (fun ρ' mo' val' fp' s' R0 P0 E S' X' hY hR0 => Z.walks.done s' _ _ hY.sx fun h3 tk hk3 => hR0 _ (soft S' hY.sx hk3) (step_soft Z.new X' hk3)) hend fun _ _ h => h
  refine cps fun G K => ?_
  obtain ⟨d, hd⟩ : ∃ d, ds[j]? = some d := ⟨_, List.getElem?_eq_getElem hlt⟩
  obtain ⟨bs, hbs, r2⟩ := Z.val j v d hP hd
  obtain ⟨ρ2, hA, hB⟩ := hb j d ρ' hd hJ
  have S3 : St c f ρ' mo' val' fp' { s' with heap := h3, toks := tk } := soft S' hY.sx hk3
  have kp3 : ∀ a o, (a ∈ as ∧ ListOrDict o) ∨ (o.cls = .type "tuple" ∧ ∃ vs n, o.data = .seq vs n) → s2.heap.get? a = some o → h3.get? a = some o := fun a o hl e => hk3 a o (fun q => by
    obtain ⟨o2, vs, g1, g2⟩ := Z.fld j _ hY.sx a q
    rw [hY.keep a o hl e] at g1; cases g1
    exact hl.elim (fun q => (fields_not g2).1 q.2) (fun q => (fields_not g2).2 q.2)) (hY.keep a o hl e)
  have r3 : Reads h3 v d bs := reads_upon r2 (fun a ha o e _ => by
      obtain ⟨o1, g1, g2⟩ := reads_objs r2 a ha
      rw [e] at g1; cases g1
      exact kp3 a o (.inl ⟨hbs.subset ha, g2⟩) e) fun a o e hc hd => kp3 a o (.inr ⟨hc, hd⟩) e
  have in3 : ∀ b, b ∈ Fp ∨ b ∈ as → ∃ o, h3.get? b = some o := fun b hb => by
    by_cases q : b ∈ wr
    · exact (Z.fld _ h3 hSx3 b q).imp fun _ h => h.elim fun _ h => h.1
    · exact (hY.inH b hb).imp fun o e => hk3 b o q e
  have X3 : Step c f mo s mo' { s' with heap := h3, toks := tk } := step_soft Z.new X' hk3
  have nmo := hY.nmo
  refine K ?_
  clear K hk3 hP hY S' X' soft wrH0 hJ hd r2
  refine hA mo' val' fp' { s' with heap := h3, toks := tk } v bs I _ _ S3 (hL _ _ hSx3) r3 (fun h => Z.ok.1 (hbs.subset h)) (fun a ha => nmo a (.inr (hbs.subset ha))) (fun hk a ha => (hao a (hbs.subset ha)).2 hk) fun s4 mo4 val4 fp4 S4 m4 k4 t4 => hB4 ρ2 mo4 val4 fp4 s4 S4 (step_asg X3 m4 k4 t4) hB fun mo5 s5 X5 => ?_
  have up : ∀ b, b ∈ Fp ∨ b ∈ as → ∀ o, h3.get? b = some o → s5.heap.get? b = some o := fun b hb o e => X5.kp b o (hpl b hb).1 (hpl b hb).2 (fun q => nmo b hb (m4 b q)) (k4 b o (hpl b hb).2 e)
  refine ⟨Z.walks.frame _ _ _ hSx3 fun b hb o e => up b (.inl hb) o e, fun b hb h => ?_, fun b hb => (in3 b hb).imp fun o e => up b hb o e, fun a o hl e => ?_⟩
  · rcases X5.mo b h with q | q
    · exact nmo b hb (m4 b q)
    · obtain ⟨o, e⟩ := in3 b hb
      have := k4 b o (hpl b hb).2 e
      rw [q] at this; cases this
  · have g := kp3 a o hl e
    rcases hl with hl | hl
    · exact up a (.inr hl.1) o g
    · exact X5.tuple S4 (k4 a o (pv_tuple S3 (show ({ s' with heap := h3, toks := tk } : Shared).heap.get? a = some o from g) hl.2) g) hl.1 hl.2
theorem Fills2.asg {x : Str} {xp : Pos} {i : Nat} {sk : K} {ds : List PyData} {k : EK} {d : PyData} {ρ' : Rho} (FS : FmS c f) (hx : f.xs[i]? = some x) (hi : i < ρ'.length) (hk : Fills2 k ds sk) (hd : d ∈ ds) (L : Addr → Heap → Prop) : AsgT c f (.Name x xp) L k d ρ' (ρ'.set i (some ⟨sk, d⟩)) := fun mo val fp s v bs I Q' E S _ r hl hm hlo hQ => by
  show wpAny _ _ (pure ()) _ _ _
  refine wpAny_pure (wpAny_assign_Name ?_)
  have ok : SlotOk f ρ' i mo fp s.heap sk bs ∧ (sk = .ow → bs = []) := by
    cases hk with
    | sh => exact ⟨fun a ha => hm a ha, by nofun⟩
    | lo => exact ⟨fun a ha => ⟨hm a ha, hlo (by nofun) a ha⟩, by nofun⟩
    | fr => exact ⟨fun a ha => ⟨hm a ha, hlo (by nofun) a ha⟩, by nofun⟩
    | flat _ hf =>
      have e := reads_flat r (hf d hd)
      subst e
      refine ⟨?_, fun _ => rfl⟩
      cases sk with
      | sh => exact nofun
      | lo => exact nofun
      | ow => exact ⟨.nil, nofun, fun _ _ _ _ _ _ h => (by cases h), nofun⟩
  exact store_step (sl := ⟨sk, d⟩) FS S hx hi r hl ok.1 fun s4 S4 hk4 th4 => hQ s4 _ _ _ S4 (fun b h => h.elim id fun ⟨q, hb⟩ => by rw [ok.2 q] at hb; cases hb) hk4 th4
theorem ex_for {x : Str} {xp : Pos} {iter : Expr} {i : Nat} {sk : K} {ds : List PyData} {k : EK} (FS : FmS c f) (hx : f.xs[i]? = some x) (h : It c f ρ iter ds k) (hk : Fills2 k ds sk)
    (J : Nat → Rho → Prop) (h0 : J 0 ρ)
    (hb : ∀ j d ρ', ds[j]? = some d → J j ρ' → i < ρ'.length ∧ Ex c f body (ρ'.set i (some ⟨sk, d⟩)) (loopQ (J (j + 1)) Q))
    (hend : ∀ ρ', J ds.length ρ' → Q .next ρ') (hs : ∀ env x, foldedSetIterable iter env x = pure x := by intro _ _; rfl) : Ex1 c f (.For (.Name x xp) iter body [] pos) ρ Q :=
  ex_forG (fun _ _ => True) FS (fun mo val fp s E S => wpAny_mono (h mo val fp s E S) (fun xv s1 h1 => wpAny_mono h1 (fun it s2 h2 => cps fun G k => by obtain ⟨x2, I, Fp, wr, P, Sx, as, e, Z⟩ := h2; exact k ⟨x2, I, Fp, wr, P, Sx, as, e, fun _ _ _ => trivial, Z⟩) fun _ _ z => z) fun _ _ z => z) hk.safe J h0
    (fun j d ρ' hd hJ => ⟨_, hk.asg FS hx (hb j d ρ' hd hJ).1 (List.mem_of_getElem? hd) _, (hb j d ρ' hd hJ).2⟩) hend hs

theorem ex_while {t : Expr} (J : Nat → Rho → Prop) {n : Nat} (h0 : J n ρ)
    (hb : ∀ n ρ', J n ρ' → ∃ q, Tst c f ρ' t q ∧ (q = true → Ex c f body ρ' (loopQ (fun ρ'' => ∃ m, m < n ∧ J m ρ'') Q)) ∧ (q = false → Q .next ρ')) : Ex1 c f (.While t body [] pos) ρ Q := fun mo val fp s S => by
  refine wpAny_While ?_
  refine codeAny_whileLoop (fun n s' => ∃ ρ' mo' val' fp', J n ρ' ∧ St c f ρ' mo' val' fp' s' ∧ Step c f mo s mo' s') ?_ n ⟨ρ, mo, val, fp, h0, S, Step.refl⟩
  intro n s' h
  refine cps fun G k => ?_
  obtain ⟨ρ', mo', val', fp', hJ, S', X'⟩ := h
  obtain ⟨q, ht, h1, h2⟩ := hb n ρ' hJ
  refine k (ht.bind S' fun s1 x1 S1 => ?_)
  clear k
  cases q with
  | true => exact wpAny_mono (h1 rfl _ _ _ s1 S1) (fun fl s5 hp => loop_out (RR := fun fl => Post c f mo s Q fl s5) (X'.trans (Step.ext x1)) hp (fun ρ5 mo5 val5 fp5 hq S5 X5 => hq.imp fun m h => ⟨h.1, ρ5, mo5, val5, fp5, h.2, S5, (X'.trans (Step.ext x1)).trans X5⟩) fun _ h => h) fun _ _ z => z.elim
  | false => exact wpAny_execs_nil ⟨.next, ρ', mo', val', fp', trivial, S1, X'.trans (Step.ext x1), h2 rfl⟩

/-! what may be walked -/
noncomputable abbrev lIt (I : Addr) (h : Heap) : Prop := ∃ l i, h.IsListIter I l i
theorem it_listL {e : Expr} {ds : List PyData} {k : EK} (h : Ev c f ρ e (.list ds) k) : ItG c f ρ e ds k.sub lIt := fun mo val fp s E S => by
  refine h.bind S fun v s1 as x1 S1 r1 ko => ?_
  cases r1 with
  | list g1 g2 g3 g4 =>
    rename_i a o vs n bs
    refine wpAny_pyIter_list ⟨_, g1, g2, _, g3⟩ ?_
    have x2 : Ext c s1 { s1 with heap := s1.heap.push { cls := .type "list_iterator", data := .fields #[.ref a, .int 0 0] } } := Ext.push S1.wf _ _
    have hne : a ≠ s1.heap.objs.size := Nat.ne_of_lt (Heap.lt_size g1)
    have hnL : a ≠ f.env.locals := fun q => ko.1 (q ▸ List.mem_cons_self ..)
    have hlen := readsAll_length g4
    have hIn := get_size_none s1.heap
    have g4' := x2.readsAll S1.wf g4
    have hsz : vs.size = ds.length := by simpa using hlen
    refine ⟨x1.trans x2, s1.heap.objs.size, [s1.heap.objs.size, a], [s1.heap.objs.size], _, _, a :: bs, rfl, (fun i h st => ⟨a, i, st.1⟩), ⟨hsz ▸ Walks.list S.ok.room.hand s1.heap.objs.size a hne vs,
      ⟨⟨_, Heap.get?_push_size _ rfl, rfl, rfl⟩, ⟨_, x2.up.kp a _ (not_tab S1.wf g1 (by rw [g2]; nofun)) g1, g2, _, g3⟩⟩, fun b hb => ?_, fun b hb => ?_, fun b hb => ?_, fun hs b hb => ?_, fun i h st b hb => ?_, fun b hb => ?_, fun j v d hP hd => ?_, ?_, fun b hb => ?_⟩⟩
    · rcases List.mem_cons.mp hb with rfl | hb
      · exact ⟨_, Heap.get?_push_size _ rfl⟩
      · rw [List.mem_singleton.mp hb]; exact ⟨_, Heap.get?_push_of_some _ g1⟩
    · rcases List.mem_cons.mp hb with rfl | hb
      · intro hp
        obtain ⟨o2, h2, _⟩ := pv_obj S1 hp
        rw [hIn] at h2; cases h2
      · rw [List.mem_singleton.mp hb]; exact pv_ld S1 g1 (.inl ⟨g2, _, _, g3⟩) hnL
    · rcases List.mem_cons.mp hb with rfl | hb
      · intro hx
        obtain ⟨ps, q⟩ := S1.wf.tab _ hx
        rw [hIn] at q; cases q
      · rw [List.mem_singleton.mp hb]; exact not_tab S1.wf g1 (by rw [g2]; nofun)
    · rcases List.mem_cons.mp hb with rfl | hb
      · intro hm
        obtain ⟨o2, h2, _⟩ := S1.moIn _ hm
        rw [hIn] at h2; cases h2
      · rw [List.mem_singleton.mp hb]
        cases k <;> first | (cases hs; done) | skip
        · exact ko.2 a (List.mem_cons_self ..)
        · exact (ko.2 a (List.mem_cons_self ..)).1
        · exact ((KOk.fr_lo S ko).2 a (List.mem_cons_self ..)).1
    · rw [List.mem_singleton.mp hb]
      obtain ⟨o2, h2, _, h3⟩ := st.1
      exact ⟨o2, _, h2, h3⟩
    · rw [List.mem_singleton.mp hb]; exact x1.up.none hIn
    · obtain ⟨v', cs, q1, q2, q3⟩ := readsAll_item g4' hd
      have : v' = v := by
        have h1 : vs.toList[j]? = some v := by simpa using hP
        rw [q1] at h1; exact Option.some.inj h1
      subst this
      exact ⟨cs, q3.trans (List.sublist_cons_self ..), q2⟩
    · exact KOk.sub (ko.later S1.wf x2) (List.Sublist.refl _)
    · rcases List.mem_cons.mp hb with rfl | hb
      · exact ⟨_, Heap.get?_push_of_some _ g1, .inl ⟨g2, _, _, g3⟩⟩
      · exact readsAll_objs g4' b hb
theorem it_list {e : Expr} {ds : List PyData} {k : EK} (h : Ev c f ρ e (.list ds) k) : It c f ρ e ds k.sub := fun mo val fp s E S =>
  wpAny_mono (it_listL h mo val fp s E S) (fun xv s1 h1 => wpAny_mono h1 (fun it s2 h2 => cps fun G k => by obtain ⟨x2, I, Fp, wr, P, Sx, as, e, _, Z⟩ := h2; exact k ⟨x2, I, Fp, wr, P, Sx, as, e, Z⟩) fun _ _ z => z) fun _ _ z => z

/-- the builtin stands under its name -/
structure Bi (c : Cx) (x : Str) (v : Value) : Prop where
  no : c.mg x = none
  is : bootBuiltins x = some v
  ne : x ≠ "__name__"
theorem builtin_name {x : Str} {v : Value} {pos : Pos} {Q : Value → Shared → Prop} (C : CxOk c) (B : Bi c x v) (hx : f.env.kindOf x = some .globalImplicit) (S : St c f ρ mo val fp s) (h : Q v s)
    (hd : (x == ("__debug__" : Str)) = false := by decide +kernel) : wpAny c.M f.A (eval (.Name x pos) f.env) Q E s :=
  Name_function_global S.ok.kind hx (loadGlobal_builtin (mg := c.mg) (mb := c.mb) (by rw [S.ok.glob]; exact Ns.base S.wf C.g C.gX) B.no (by rw [S.ok.bi]; exact Ns.base S.wf C.b C.bX) ((C.builtins x B.ne).trans B.is) h) hd

noncomputable def intsL (a : Int) (n : Nat) : List PyData := (List.range n).map fun (i : Nat) => PyData.int (a + (i : Int))
theorem intsL_get {a : Int} {n i : Nat} {d : PyData} (h : (intsL a n)[i]? = some d) : i < n ∧ d = .int (a + i) := by
  unfold intsL at h
  rw [List.getElem?_map] at h
  rcases Nat.lt_or_ge i n with q | q
  · rw [List.getElem?_range q] at h; simp at h; exact ⟨q, h.symm⟩
  · rw [List.getElem?_eq_none (by simpa using q)] at h; simp at h
theorem intsL_length (a : Int) (n : Nat) : (intsL a n).length = n := by simp [intsL]
theorem intsL_flat {a : Int} {n : Nat} : ∀ d ∈ intsL a n, flat d = true := fun d hd => by
  unfold intsL at hd
  obtain ⟨i, _, rfl⟩ := List.mem_map.mp hd
  rfl

theorem itr_range {s1 : Shared} {a : Int} {n : Nat} {o : Obj} {tk : Nat} (S : St c f ρ mo val fp s) (x1 : Ext c s s1) (S1 : St c f ρ mo val fp s1)
    : let s2 : Shared := { s1 with heap := (s1.heap.push o).push { cls := .type "range_iterator", data := .fields #[rawInt a, rawInt n, rawInt 1] }, toks := tk }
      Ext c s s2 ∧ ∃ I Fp wr P Sx as, (Value.ref (s1.heap.push o).objs.size) = .ref I ∧ Itr c f mo fp s s2 (intsL a n) .fr I Fp wr P Sx as := by
  intro s2
  have xs : Ext c s1 s2 := Ext.of S1.wf fun _ _ e => Heap.get?_push_of_some _ (Heap.get?_push_of_some _ e)
  have x2 : Ext c s s2 := x1.trans xs
  have hIn : s1.heap.get? (s1.heap.push o).objs.size = none := by
    cases e : s1.heap.get? (s1.heap.push o).objs.size with
    | none => rfl
    | some o' => have := Heap.lt_size e; rw [Heap.size_push] at this; exact absurd this (Nat.not_lt.mpr (Nat.le_succ _))
  refine ⟨x2, (s1.heap.push o).objs.size, [(s1.heap.push o).objs.size], [(s1.heap.push o).objs.size], _, _, [], rfl, ⟨by rw [intsL_length]; exact Walks.range S.ok.room.hand _ a 1 n, ?_, fun b hb => ?_, fun b hb => ?_, fun b hb => ?_, fun hs b hb => ?_, fun i h st b hb => ?_, fun b hb => ?_, fun j v d hP hd => ?_, ?_, nofun⟩⟩
  · have e1 : (a + ((0 : Nat) : Int) * 1) = a := by simp
    have e2 : ((n : Int) - ((0 : Nat) : Int)) = n := by simp
    rw [e1, e2]
    exact Heap.get?_push_size _ rfl
  · rw [List.mem_singleton.mp hb]; exact ⟨_, Heap.get?_push_size _ rfl⟩
  · rw [List.mem_singleton.mp hb]; intro hp
    obtain ⟨o2, h2, _⟩ := pv_obj S1 hp
    rw [hIn] at h2; cases h2
  · rw [List.mem_singleton.mp hb]; intro hx
    obtain ⟨ps, q⟩ := S1.wf.tab _ hx
    rw [hIn] at q; cases q
  · rw [List.mem_singleton.mp hb]; intro hm
    obtain ⟨o2, h2, _⟩ := S1.moIn _ hm
    rw [hIn] at h2; cases h2
  · rw [List.mem_singleton.mp hb]; exact ⟨_, _, st, rfl⟩
  · rw [List.mem_singleton.mp hb]; exact x1.up.none hIn
  · obtain ⟨h1, rfl⟩ := intsL_get hd
    obtain ⟨t, rfl⟩ := hP
    exact ⟨[], List.Sublist.refl _, by rw [Int.mul_one]; exact .int _ _⟩
  · exact frOk S .nil nofun nofun

theorem rangeSize_toNat (a n : Int) : Builtin.Range.rangeSize a n 1 = ((n - a).toNat : Int) := by rw [rangeSize_one]; split <;> omega
theorem range_open {e : Expr} {n : Int} {k : EK} {rp : Pos} {Q' : Value → Shared → Prop} (C : CxOk c) (B : Bi c "range" (.type "range")) (hx : f.env.kindOf "range" = some .globalImplicit) (h : Ev c f ρ e (.int n) k) (hn : n < 2 ^ 62) (hn' : -(2 ^ 62) ≤ n)
    (he : ∀ env rest, starEach (e :: rest) env = (false, eval e env) :: starEach rest env) (S : St c f ρ mo val fp s)
    (hQ : ∀ s1 o tk, Ext c s s1 → St c f ρ mo val fp s1 → Q' (.ref (s1.heap.push o).objs.size) { s1 with heap := (s1.heap.push o).push { cls := .type "range_iterator", data := .fields #[rawInt 0, rawInt (n.toNat : Nat), rawInt 1] }, toks := tk }) :
    wpAny c.M f.A (eval (.Call (.Name "range" rp) [e] [] pos) f.env) (fun xv s1 => wpAny c.M f.A (pyIter xv) Q' E s1) E s := by
  refine Call_ (builtin_name C B hx S ?_)
  refine PySem.callWith_type (by rw [he]; rfl) ?_
  rw [he]
  refine evalArgs_plain (spliced_cons (h.bind S fun v s1 as x1 S1 r1 ko => spliced_nil ?_))
  cases r1
  refine call_range_1 ?_
  refine wpAny_pyIter_range (IsRange.new ..) (small_one (by decide) (by decide) hn' hn) ?_
  rw [rangeSize_toNat, Int.sub_zero]
  exact hQ s1 _ _ x1 S1
theorem it_range1 {e : Expr} {n : Int} {k : EK} {rp : Pos} (C : CxOk c) (B : Bi c "range" (.type "range")) (hx : f.env.kindOf "range" = some .globalImplicit) (h : Ev c f ρ e (.int n) k) (hn : n < 2 ^ 62) (hn' : -(2 ^ 62) ≤ n)
    (he : ∀ env rest, starEach (e :: rest) env = (false, eval e env) :: starEach rest env := by intros; rfl) :
    It c f ρ (.Call (.Name "range" rp) [e] [] pos) (intsL 0 n.toNat) .fr := fun mo val fp s E S => range_open C B hx h hn hn' he S fun s1 o tk x1 S1 => itr_range S x1 S1
theorem it_range2 {e1 e2 : Expr} {a n : Int} {k k2 : EK} {rp : Pos} (C : CxOk c) (B : Bi c "range" (.type "range")) (hx : f.env.kindOf "range" = some .globalImplicit) (h1 : Ev c f ρ e1 (.int a) k) (h2 : Ev c f ρ e2 (.int n) k2)
    (ha : a < 2 ^ 62) (ha' : -(2 ^ 62) ≤ a) (hn : n < 2 ^ 62) (hn' : -(2 ^ 62) ≤ n)
    (he1 : ∀ env rest, starEach (e1 :: rest) env = (false, eval e1 env) :: starEach rest env := by intros; rfl) (he2 : ∀ env rest, starEach (e2 :: rest) env = (false, eval e2 env) :: starEach rest env := by intros; rfl) :
    It c f ρ (.Call (.Name "range" rp) [e1, e2] [] pos) (intsL a (n - a).toNat) .fr := fun mo val fp s E S => by
  refine Call_ (builtin_name C B hx S ?_)
  refine PySem.callWith_type (by rw [he1, he2]; rfl) ?_
  rw [he1, he2]
  refine evalArgs_plain (spliced_cons (h1.bind S fun v s1 as x1 S1 r1 ko => spliced_cons (h2.bind S1 fun v2 s2 as2 x2 S2 r2 ko2 => spliced_nil ?_)))
  cases r1; cases r2
  refine call_range_2 ?_
  refine wpAny_pyIter_range (IsRange.new ..) (small_one ha' ha hn' hn) ?_
  rw [rangeSize_toNat]
  exact itr_range S (x1.trans x2) S2
end
end Mine

namespace Mine
open PySem PySem.Spec PySem.Calls PyProof.Rows

theorem bindL_notin (kindOf : Str → Option NameKind) {x : Str} : ∀ (binds : List (Str × Value)) (m : Str → Option Value), x ∉ binds.map (·.1) → bindL kindOf binds m x = m x
  | [], m, _ => rfl
  | (n, w) :: r, m, h => by
    have h1 : x ≠ n := fun q => h (by simp [q])
    rw [bindL, bindL_notin kindOf r _ fun q => h (by simp at q ⊢; exact .inr q)]
    split <;> simp [h1]
theorem bindL_get (kindOf : Str → Option NameKind) {x : Str} {v : Value} (hk : kindOf x = some .local) : ∀ (binds : List (Str × Value)) (m : Str → Option Value), (binds.map (·.1)).Nodup → (x, v) ∈ binds → bindL kindOf binds m x = some v
  | [], m, _, h => by cases h
  | (n, w) :: r, m, hn, h => by
    rw [List.map_cons, List.nodup_cons] at hn
    rw [bindL]
    rcases List.mem_cons.mp h with q | q
    · cases q
      rw [bindL_notin kindOf r _ hn.1, if_pos hk]; simp
    · exact bindL_get kindOf hk r _ hn.2 q
theorem bindC_notin (kindOf : Str → Option NameKind) {x : Str} : ∀ (binds : List (Str × Value)) (m : Str → Option Value), x ∉ binds.map (·.1) → bindC kindOf binds m x = m x
  | [], m, _ => rfl
  | (n, w) :: r, m, h => by
    have h1 : x ≠ n := fun q => h (by simp [q])
    rw [bindC, bindC_notin kindOf r _ fun q => h (by simp at q ⊢; exact .inr q)]
    split <;> simp [h1]
theorem bindC_get (kindOf : Str → Option NameKind) {x : Str} {v : Value} (hk : kindOf x ≠ some .local) : ∀ (binds : List (Str × Value)) (m : Str → Option Value), (binds.map (·.1)).Nodup → (x, v) ∈ binds → bindC kindOf binds m x = some v
  | [], m, _, h => by cases h
  | (n, w) :: r, m, hn, h => by
    rw [List.map_cons, List.nodup_cons] at hn
    rw [bindC]
    rcases List.mem_cons.mp h with q | q
    · cases q
      rw [bindC_notin kindOf r _ hn.1, if_neg hk]; simp
    · exact bindC_get kindOf hk r _ hn.2 q
theorem cellsFrom_has {x : Str} : ∀ (names : List (Str × NameKind)) (n : Nat) (acc : List (Str × Addr)), names.lookup x = some .cell ∨ (acc.lookup x).isSome = true → ((cellsFrom n names acc).lookup x).isSome = true
  | [], _, _, h => h.elim (fun e => by cases e) id
  | (y, k) :: r, n, acc, h => by
    unfold cellsFrom
    by_cases hk : (k == .cell) = true
    · rw [if_pos hk]
      refine cellsFrom_has r (n + 1) ((y, n) :: acc) ?_
      by_cases hy : (x == y) = true
      · exact .inr (by rw [List.lookup_cons, hy]; rfl)
      · refine h.imp (fun e => ?_) fun e => ?_
        · rw [List.lookup_cons] at e; simpa only [hy] using e
        · rw [List.lookup_cons]; simpa only [hy] using e
    · rw [if_neg hk]
      refine cellsFrom_has r n acc ?_
      by_cases hy : (x == y) = true
      · refine .inr (h.elim (fun e => ?_) id)
        rw [List.lookup_cons, hy] at e
        exact absurd (by rw [Option.some.inj e]; rfl) hk
      · refine h.imp (fun e => ?_) id
        rw [List.lookup_cons] at e; simpa only [hy] using e

theorem readsAll_fps {h : Heap} {vs : List Value} {ds : List PyData} {as : List Addr} (r : ReadsAll h vs ds as) : ∃ fp : Nat → List Addr, ∀ (i : Nat) (d : PyData), ds[i]? = some d → ∃ v, vs[i]? = some v ∧ Reads h v d (fp i) :=
  ra_ind (M := fun vs ds as => ∃ fp : Nat → List Addr, ∀ (i : Nat) (d : PyData), ds[i]? = some d → ∃ v, vs[i]? = some v ∧ Reads h v d (fp i)) ⟨fun _ => [], fun i d e => by rw [List.getElem?_nil] at e; cases e⟩ (fun {v vs d ds as bs} r1 _ ih => ih.elim fun fp h => ⟨fun i => Nat.casesOn i as fp, fun i d e => by
    cases i with
    | zero => cases e; exact ⟨_, rfl, r1⟩
    | succ i => exact h i d e⟩) r

noncomputable def RetQ (res : PyData) (u : Bool) : Fl → Rho → Prop
  | .ret d u', _ => d = res ∧ (u = true → u' = true)
  | .next, _ => res = .none
  | _, _ => False

noncomputable def startRho (args : List PyData) (rest : List Str) : Rho := args.map (fun a => some ⟨.sh, a⟩) ++ rest.map fun _ => none
theorem startRho_get {args : List PyData} {rest : List Str} {i : Nat} {sl : Slot} (e : (startRho args rest)[i]? = some (some sl)) : args[i]? = some sl.d ∧ sl.k = .sh := by
  unfold startRho at e
  rw [List.getElem?_append] at e
  split at e
  · rw [List.getElem?_map] at e
    cases h : args[i]? with
    | none => rw [h] at e; cases e
    | some a => rw [h] at e; cases e; exact ⟨rfl, rfl⟩
  · rw [List.getElem?_map] at e
    cases h : rest[i - (args.map fun a => (some ⟨.sh, a⟩ : Option Slot)).length]? with
    | none => rw [h] at e; cases e
    | some a => rw [h] at e; cases e

theorem room_in {a n L : Nat} (h : a + 10 * n + 10 < L) : a < L := by omega
theorem room_d {a n L : Nat} (h : a + 10 * (n + 1) + 10 < L) : a + 1 + 10 * n + 10 < L := by omega
theorem room_u {a n L : Nat} (h : a + 100 * (n + 1) + 200 < L) : a + 3 + 100 * n + 200 < L := by omega
theorem fn_enterC {c : Cx} {d : FnD} {args : List PyData} {res : PyData} {u : Bool} {lv : Nat} (ps rest : List Str) (C : CxOk c)
    (hbind : ∀ pm cd doc (vals : List Value), vals.length = args.length → bindArgs (docDef d.name d.params d.body d.scope pm cd doc) ⟨vals, []⟩ = pure (ps.zip vals))
    (hlen : ps.length = args.length) (nd : (ps ++ rest).Nodup)
    (hk : ((ps ++ rest).all fun x => d.scope.names.lookup x == some .local || d.scope.names.lookup x == some .cell) = true)
    (h1 : d.scope.isCoroutine = false) (h2 : d.scope.isGenerator = false) (h3 : d.scope.kind = .function)
    (h : ∀ f : Fm, f.env.scope = d.scope → f.xs = ps ++ rest → f.lv = lv → (∃ fa o pm doc, Has c d fa o pm f.env.code doc) → FmS c f → Ex c f d.body (startRho args rest) (RetQ res u)) : Fn c (lv + 1) d args res u := by
  intro A s vals ass E fa o pm code doc H R W r
  have hvl := readsAll_length r
  have kinds : ∀ x ∈ ps ++ rest, d.scope.names.lookup x = some .local ∨ d.scope.names.lookup x = some .cell := fun x hx => by
    have := List.all_eq_true.mp hk x hx
    simpa using this
  have hmem : ∀ y ∈ ps.zip vals, y.1 ∈ ps := fun y hy => (List.of_mem_zip hy).1
  refine wpAny_call (call_cells_ret (room_in R.depth) (W.base _ _ H.nX H.obj) H.data (NoLimit.base W C) (H.codeRec W) (hbind pm code doc vals hvl) (fun x hx => ?_) (fun h₁ tk F X => ?_) h1 h2 h3)
  · rcases kinds x.1 (List.mem_append_left _ (hmem x hx)) with q | q
    · exact .inl q
    · exact .inr ⟨q, cellsFrom_has _ _ _ (.inl q)⟩
  · generalize hL : s.heap.objs.size = L at F X ⊢
    have hLn : s.heap.get? L = none := by rw [← hL]; exact get_size_none _
    obtain ⟨fp, hfp⟩ := readsAll_fps r
    let f : Fm := ⟨envOfC d.name d.scope L fa code, A.deeper (envOfC d.name d.scope L fa code), s.heap, ps ++ rest, lv⟩
    have hUB : Up c.X c.hB s.heap := ⟨W.base, fun b o e => W.old.there b o e⟩
    have x1 : Ext c s { s with heap := h₁, toks := tk } := Ext.of W F.keep
    have zipNd : ((ps.zip vals).map (·.1)).Nodup := by
      rw [List.map_fst_zip (Nat.le_of_eq (hlen.trans hvl.symm))]
      exact (List.nodup_append.mp nd).1
    have FS : FmS c f := by
      refine ⟨fun i x hx => ?_, nd, fun x y a hx hy => name_of_addr X.apart (mem_of_lookup hx) (mem_of_lookup hy), fun a hp => ?_, hUB⟩
      · rcases kinds x (List.mem_of_getElem? hx) with q | q
        · exact .inl q
        · exact .inr ⟨q, Option.isSome_iff_exists.mp (cellsFrom_has _ _ _ (.inl q))⟩
      · rcases hp with rfl | ⟨x, hx⟩
        · exact hLn
        · have := X.above x a (mem_of_lookup hx)
          cases e : s.heap.get? a with
          | none => rfl
          | some o' => exact absurd (Heap.lt_size e) (Nat.not_lt.mpr (by rw [hL]; exact Nat.le_of_lt this))
    have S : St c f (startRho args rest) (fun _ => False) (fun i => vals.getD i .none) fp { s with heap := h₁, toks := tk } := by
      refine ⟨x1.wf, ⟨h3, rfl, rfl, ⟨R.hand, ?_, ?_, ?_⟩, hUB⟩, Up.of F.keep, ⟨_, F.ns⟩, fun x a e => ⟨_, X.cell x a e⟩, fun i sl e => ?_, fun i sl e q => ?_, fun _ _ _ _ _ _ q => q, fun i sl e q => ?_, fun i j sl sl' _ e _ q => ?_, fun _ q => q.elim, fun _ q => q.elim, fun q => q, fun i sl e q => ?_⟩
      · exact room_d R.depth
      · exact room_u R.units
      · exact R.guards
      · obtain ⟨e1, e2⟩ := startRho_get e
        obtain ⟨v, e3, e4⟩ := hfp i sl.d e1
        have hil : i < args.length := (List.getElem?_eq_some_iff.mp e1).1
        obtain ⟨x, hx⟩ : ∃ x, ps[i]? = some x := ⟨_, List.getElem?_eq_getElem (hlen ▸ hil)⟩
        have hvi : vals.getD i .none = v := by rw [List.getD_eq_getElem?_getD, e3]; rfl
        have hmz : (x, v) ∈ ps.zip vals := by
          refine List.mem_of_getElem? (i := i) ?_
          rw [List.getElem?_zip_eq_some]; exact ⟨hx, e3⟩
        have hxm : x ∈ ps ++ rest := List.mem_append_left _ (List.mem_of_getElem? hx)
        refine ⟨x, by show (ps ++ rest)[i]? = some x; rw [List.getElem?_append_left (hlen ▸ hil)]; exact hx, ?_, by show Reads h₁ (vals.getD i .none) sl.d (fp i); rw [hvi]; exact x1.reads W e4⟩
        show Loads f.env h₁ x (vals.getD i .none)
        rw [hvi]
        rcases kinds x hxm with q | q
        · exact .inl ⟨q, _, F.ns, bindL_get _ q _ _ zipNd hmz⟩
        · obtain ⟨a, ha⟩ := Option.isSome_iff_exists.mp (cellsFrom_has (x := x) d.scope.names (L + 1) [] (.inl q))
          refine .inr ⟨.inl q, a, ha, ?_⟩
          have := X.cell x a ha
          rwa [bindC_get _ (by show d.scope.names.lookup x ≠ _; rw [q]; nofun) _ _ zipNd hmz] at this
      · rw [(startRho_get e).2] at q; cases q
      · rw [(startRho_get e).2] at q; cases q
      · rw [(startRho_get e).2] at q; cases q
      · obtain ⟨e1, _⟩ := startRho_get e
        obtain ⟨v, _, e4⟩ := hfp i sl.d e1
        obtain ⟨o', ho', _⟩ := reads_objs e4 _ q
        have : s.heap.get? L = some o' := ho'
        rw [hLn] at this; cases this
    refine wpAny_mono (h f rfl rfl rfl ⟨fa, o, pm, doc, H⟩ FS _ _ _ _ S) (fun fl s' hp => ?_) fun _ _ z => z
    refine cps fun G k => ?_
    obtain ⟨fl', ρ', mo', val', fp', hfl, S', X', hq⟩ := hp
    have x2 : Ext c s s' := ⟨S'.keep, S'.wf⟩
    refine k ?_
    clear k
    cases fl <;> cases fl' <;> first | exact hfl.elim | exact hq.elim | skip
    · have : res = .none := hq
      subst this
      exact ⟨x2, [], .none, nofun, fun _ => ⟨.nil, nofun⟩⟩
    · obtain ⟨as, r1, n1, u1⟩ := hfl
      obtain ⟨e1, e2⟩ := hq
      exact ⟨x2, as, e1 ▸ r1, n1, fun q => u1 (e2 q)⟩
theorem fn_enter {c : Cx} {d : FnD} {args : List PyData} {res : PyData} {u : Bool} {lv : Nat} (ps rest : List Str) (C : CxOk c)
    (hbind : ∀ pm cd doc (vals : List Value), vals.length = args.length → bindArgs (docDef d.name d.params d.body d.scope pm cd doc) ⟨vals, []⟩ = pure (ps.zip vals))
    (hlen : ps.length = args.length) (nd : (ps ++ rest).Nodup)
    (hk : ((ps ++ rest).all fun x => d.scope.names.lookup x == some .local || d.scope.names.lookup x == some .cell) = true)
    (h1 : d.scope.isCoroutine = false) (h2 : d.scope.isGenerator = false) (h3 : d.scope.kind = .function)
    (h : ∀ f : Fm, f.env.scope = d.scope → f.xs = ps ++ rest → f.lv = lv → FmS c f → Ex c f d.body (startRho args rest) (RetQ res u)) : Fn c (lv + 1) d args res u :=
  fn_enterC ps rest C hbind hlen nd hk h1 h2 h3 fun f a b e _ => h f a b e
end Mine

namespace Mine
open PySem PySem.Spec PySem.Calls PyProof.Rows

noncomputable def VRes (c : Cx) (s : Shared) (res : PyData) (v : Value) (s' : Shared) : Prop := Ext c s s' ∧ ∃ as, Reads s'.heap v res as ∧ as.Nodup ∧ (∀ a ∈ as, s.heap.get? a = none) ∧ ∀ a ∈ as, Pl s'.heap a
/-- what a call of a value gives: a datum of new objects -/
noncomputable def VC (c : Cx) (n : Nat) (fv : Value) (args : List PyData) (res : PyData) : Prop :=
  ∀ A s vals ass E, Room n A → Wf c s → ReadsAll s.heap vals args ass →
    wpAny c.M A (call fv vals) (VRes c s res) E s

section
variable {c : Cx} {f : Fm} {ρ : Rho} {mo : Addr → Prop} {val : Nat → Value} {fp : Nat → List Addr} {s : Shared} {E : Value → Shared → Prop}
  {e e1 e2 : Expr} {d d1 d2 : PyData} {k k1 k2 : EK} {pos np : Pos} {x : Str}

theorem ev_vcall1 {fv : Value} (hv : (∃ id, fv = .builtin id) ∨ ∃ T, fv = .type T) (C : CxOk c) (B : Bi c x fv) (hx : f.env.kindOf x = some .globalImplicit) (h1 : Ev c f ρ e d1 k1) (h : VC c f.lv fv [d1] d)
    (he : ∀ env rest, starEach (e :: rest) env = (false, eval e env) :: starEach rest env := by intros; rfl) (hd : (x == ("__debug__" : Str)) = false := by decide +kernel) :
    Ev c f ρ (.Call (.Name x np) [e] [] pos) d .fr := fun mo val fp s E S => by
  refine Call_ (builtin_name C B hx S ?_ hd)
  have fin : wpAny c.M f.A (evalArgs fv true (backTo pos (starEach [e] f.env)) []) (fun a s₁ => wpAny c.M f.A (call fv ([] ++ a.pos) a.kw) (fun v s' => Ext c s s' ∧ ∃ as, Reads s'.heap v d as ∧ KOk f mo fp s.heap s'.heap .fr as) E s₁) E s := by
    rw [he]
    refine evalArgs_plain (spliced_cons (h1.bind S fun v s1 as x1 S1 r1 ko => spliced_nil ?_))
    refine wpAny_mono (h f.A s1 [v] _ E S.ok.room S1.wf (.cons r1 .nil)) (fun v s' ⟨x2, bs, r2, n2, q2, p2⟩ => ⟨x1.trans x2, bs, r2, frOk S n2 (fun a ha => x1.up.none (q2 a ha)) p2⟩) fun _ _ z => z
  rcases hv with ⟨id, rfl⟩ | ⟨T, rfl⟩
  · exact callWith_builtin (by rw [he]; rfl) fin
  · exact PySem.callWith_type (by rw [he]; rfl) fin
theorem ev_vcall2 {fv : Value} (hv : (∃ id, fv = .builtin id) ∨ ∃ T, fv = .type T) (C : CxOk c) (B : Bi c x fv) (hx : f.env.kindOf x = some .globalImplicit) (h1 : Ev c f ρ e1 d1 k1) (h2 : Ev c f ρ e2 d2 k2) (h : VC c f.lv fv [d1, d2] d)
    (he : ∀ env rest, starEach (e1 :: rest) env = (false, eval e1 env) :: starEach rest env := by intros; rfl) (he2 : ∀ env rest, starEach (e2 :: rest) env = (false, eval e2 env) :: starEach rest env := by intros; rfl) (hd : (x == ("__debug__" : Str)) = false := by decide +kernel) :
    Ev c f ρ (.Call (.Name x np) [e1, e2] [] pos) d .fr := fun mo val fp s E S => by
  refine Call_ (builtin_name C B hx S ?_ hd)
  have fin : wpAny c.M f.A (evalArgs fv true (backTo pos (starEach [e1, e2] f.env)) []) (fun a s₁ => wpAny c.M f.A (call fv ([] ++ a.pos) a.kw) (fun v s' => Ext c s s' ∧ ∃ as, Reads s'.heap v d as ∧ KOk f mo fp s.heap s'.heap .fr as) E s₁) E s := by
    rw [he, he2]
    refine evalArgs_plain (spliced_cons (h1.bind S fun v s1 as x1 S1 r1 ko => spliced_cons (h2.bind S1 fun v2 s2 as2 x2 S2 r2 ko2 => spliced_nil ?_)))
    refine wpAny_mono (h f.A s2 [v, v2] _ E S.ok.room S2.wf (.cons (x2.reads S1.wf r1) (.cons r2 .nil))) (fun v s' ⟨x3, bs, r3, n3, q3, p3⟩ => ⟨(x1.trans x2).trans x3, bs, r3, frOk S n3 (fun a ha => (x1.trans x2).up.none (q3 a ha)) p3⟩) fun _ _ z => z
  rcases hv with ⟨id, rfl⟩ | ⟨T, rfl⟩
  · exact callWith_builtin (by rw [he, he2]; rfl) fin
  · exact PySem.callWith_type (by rw [he, he2]; rfl) fin
end

section
variable {c : Cx} {n : Nat} {a b : Int} {xs : List PyData} {ns : List Int}

theorem vc_len (hfit : xs.length < 2 ^ 63) : VC c n (.builtin "len") [.list xs] (.int xs.length) := fun A s vals ass E R W r => by
  cases r with | cons r1 r2 => cases r2; cases r1 with
  | list g1 g2 g3 g4 =>
    have hl := readsAll_length g4
    rename_i o vs _ _
    have hsz : vs.size = xs.length := by simpa using hl
    refine call_len_list ⟨_, g1, g2, _, g3⟩ (by rw [hsz]; omega) ⟨Ext.toks W _, [], by rw [hsz]; exact .int _ _, .nil, nofun, nofun⟩
noncomputable def lmin : List Int → Int
  | [] => 0
  | [x] => x
  | x :: y :: r => min x (lmin (y :: r))
noncomputable def lmax : List Int → Int
  | [] => 0
  | [x] => x
  | x :: y :: r => max x (lmax (y :: r))
theorem lmin_le : ∀ {ns : List Int} {x : Int}, x ∈ ns → lmin ns ≤ x
  | [y], x, h => by simp at h; subst h; exact Int.le_refl _
  | y :: z :: r, x, h => by
    rw [lmin]
    rcases List.mem_cons.mp h with rfl | h
    · exact Int.min_le_left _ _
    · exact Int.le_trans (Int.min_le_right _ _) (lmin_le h)
theorem lmin_mem : ∀ {ns : List Int}, ns ≠ [] → lmin ns ∈ ns
  | [y], _ => by simp [lmin]
  | y :: z :: r, _ => by
    rw [lmin]
    rcases Int.le_total y (lmin (z :: r)) with h | h
    · rw [Int.min_eq_left h]; exact List.mem_cons_self ..
    · rw [Int.min_eq_right h]; exact List.mem_cons_of_mem _ (lmin_mem (by simp))
theorem lmin_eq {ns : List Int} {m : Int} (h1 : m ∈ ns) (h2 : ∀ x ∈ ns, m ≤ x) : lmin ns = m :=
  Int.le_antisymm (lmin_le h1) (h2 _ (lmin_mem (List.ne_nil_of_mem h1)))
theorem argBest_spec {g : Nat → Int} : ∀ k, argBest (fun i j => decide (g i < g j)) k ≤ k ∧ ∀ i ≤ k, g (argBest (fun i j => decide (g i < g j)) k) ≤ g i
  | 0 => ⟨Nat.le_refl _, fun i hi => by rw [Nat.le_zero.mp hi]; exact Int.le_refl _⟩
  | k + 1 => by
    obtain ⟨h1, h2⟩ := argBest_spec (g := g) k
    rw [argBest]
    by_cases h : g (k + 1) < g (argBest (fun i j => decide (g i < g j)) k)
    · rw [if_pos (by simpa using h)]
      refine ⟨Nat.le_refl _, fun i hi => ?_⟩
      rcases Nat.lt_or_ge i (k + 1) with q | q
      · exact Int.le_of_lt (Int.lt_of_lt_of_le h (h2 i (by omega)))
      · rw [show i = k + 1 by omega]; exact Int.le_refl _
    · rw [if_neg (by simpa using h)]
      refine ⟨Nat.le_succ_of_le h1, fun i hi => ?_⟩
      rcases Nat.lt_or_ge i (k + 1) with q | q
      · exact h2 i (by omega)
      · rw [show i = k + 1 by omega]; omega

theorem readsAll_ints {h : Heap} {ns : List Int} : ∀ {vs : List Value} {as : List Addr}, ReadsAll h vs (ns.map .int) as → ∀ {i : Nat} {v : Value}, vs[i]? = some v → ∃ t, v = .int (ns.getD i 0) t := by
  induction ns with
  | nil => intro vs as r i v e; rw [rd_nil r, List.getElem?_nil] at e; cases e
  | cons n ns ih =>
    intro vs as r i v e
    obtain ⟨w, ws, bs, cs, rfl, r1, r2⟩ := rd_cons r
    cases i with
    | zero =>
      obtain ⟨t, rfl⟩ := rd_int r1
      have e : some (Value.int n t) = some v := e
      cases e; exact ⟨t, rfl⟩
    | succ i => exact ih r2 (i := i) e
theorem rc_lt {A : Around} {s : Shared} {Q : Value → Shared → Prop} {E : Value → Shared → Prop} {x y : Int} {t u : Tok} (h : Q (.bool (decide (x < y))) s) : wpAny c.M A (richCompare .Lt (.int x t) (.int y u)) Q E s := by
  show wpAny c.M A (compareOp .Lt (.int x t) (.int y u)) Q E s
  exact P.lt_int h
theorem rc_gt {A : Around} {s : Shared} {Q : Value → Shared → Prop} {E : Value → Shared → Prop} {x y : Int} {t u : Tok} (h : Q (.bool (decide (y < x))) s) : wpAny c.M A (richCompare .Gt (.int x t) (.int y u)) Q E s := by
  show wpAny c.M A (compareOp .Gt (.int x t) (.int y u)) Q E s
  exact P.gt_int h
theorem vc_min (hne : ns ≠ []) : VC c n (.builtin "min") [.list (ns.map .int)] (.int (lmin ns)) := fun A s vals ass E R W r => by
  cases r with | cons r1 r2 => cases r2; cases r1 with
  | list g1 g2 g3 g4 =>
    rename_i a o vs m bs
    have hl : vs.size = ns.length := by simpa using readsAll_length g4
    have hpos : 0 < ns.length := List.length_pos_iff.mpr hne
    refine call_min_walk (wpAny_pyIter_list ⟨_, g1, g2, _, g3⟩ ?_)
    have hae : a ≠ s.heap.objs.size := Nat.ne_of_lt (Heap.lt_size g1)
    refine ⟨s.heap.objs.size, _, _, vs.size, _, _, fun i j => decide (ns.getD i 0 < ns.getD j 0), rfl, Walks.list (A := A.in1) R.hand s.heap.objs.size a hae vs, ⟨⟨_, Heap.get?_push_size _ rfl, rfl, rfl⟩, ⟨_, Heap.get?_push_of_some _ g1, g2, _, g3⟩⟩, fun b hb => ?_, by omega, fun i j vi vj s' Q E' hi hj hQ => ?_, fun v h' tk hP hk => ?_⟩
    · rw [Heap.size_push]
      rcases List.mem_cons.mp hb with rfl | hb
      · exact Nat.lt_succ_self _
      · rw [List.mem_singleton.mp hb]; exact Nat.lt_succ_of_lt (Heap.lt_size g1)
    · obtain ⟨t, rfl⟩ := readsAll_ints g4 (i := i) (v := vi) (by simpa using hi)
      obtain ⟨u, rfl⟩ := readsAll_ints g4 (i := j) (v := vj) (by simpa using hj)
      exact rc_lt hQ
    · obtain ⟨t, rfl⟩ := readsAll_ints g4 (i := argBest (fun i j => decide (ns.getD i 0 < ns.getD j 0)) (vs.size - 1)) (v := v) (by simpa using hP)
      obtain ⟨q1, q2⟩ := argBest_spec (g := fun i => ns.getD i 0) (vs.size - 1)
      have e1 : lmin ns = ns.getD (argBest (fun i j => decide (ns.getD i 0 < ns.getD j 0)) (vs.size - 1)) 0 := by
        refine lmin_eq ?_ fun x hx => ?_
        · rw [List.getD_eq_getElem?_getD, List.getElem?_eq_getElem (by omega)]; simp
        · obtain ⟨i, hi, rfl⟩ := List.mem_iff_getElem.mp hx
          have := q2 i (by omega)
          rw [List.getD_eq_getElem?_getD (i := i), List.getElem?_eq_getElem hi] at this
          simpa using this
      refine ⟨Ext.of W fun b o e => hk b o (fun q => ?_) (Heap.get?_push_of_some _ e), [], by rw [e1]; exact .int _ _, .nil, nofun, nofun⟩
      rw [List.mem_singleton.mp q, get_size_none] at e; cases e

theorem vc_sum : VC c n (.builtin "sum") [.list (ns.map .int)] (.int ns.sum) := fun A s vals ass E R W r => by
  cases r with | cons r1 r2 => cases r2; cases r1 with
  | list g1 g2 g3 g4 =>
    rename_i a o vs m bs
    have hl : vs.size = ns.length := by simpa using readsAll_length g4
    refine call_sum_walkG (wpAny_pyIter_list ⟨_, g1, g2, _, g3⟩ ?_)
    have hae : a ≠ s.heap.objs.size := Nat.ne_of_lt (Heap.lt_size g1)
    refine ⟨s.heap.objs.size, _, _, vs.size, _, _, fun i => ns.getD i 0, rfl, Walks.list (A := A.in1) R.hand s.heap.objs.size a hae vs, ⟨⟨_, Heap.get?_push_size _ rfl, rfl, rfl⟩, ⟨_, Heap.get?_push_of_some _ g1, g2, _, g3⟩⟩, fun b hb => ?_, fun i v hi => readsAll_ints g4 (by simpa using hi), fun h' tk t' hk => ?_⟩
    · rw [Heap.size_push]
      rcases List.mem_cons.mp hb with rfl | hb
      · exact Nat.lt_succ_self _
      · rw [List.mem_singleton.mp hb]; exact Nat.lt_succ_of_lt (Heap.lt_size g1)
    · have e1 : ∀ k ≤ ns.length, preSum (fun i => ns.getD i 0) k = (ns.take k).sum := fun k => by
        induction k with
        | zero => intro _; simp [preSum]
        | succ k ih =>
          intro hk
          rw [preSum, ih (by omega), List.take_add_one, List.sum_append]
          rw [List.getD_eq_getElem?_getD, List.getElem?_eq_getElem (by omega)]; simp
      refine ⟨Ext.of W fun b o e => hk b o (fun q => ?_) (Heap.get?_push_of_some _ e), [], by rw [hl, e1 _ (Nat.le_refl _), List.take_length]; exact .int _ _, .nil, nofun, nofun⟩
      rw [List.mem_singleton.mp q, get_size_none] at e; cases e

theorem vc_list (hf : flats xs = true) (hsz : xs.length ≤ sizeLine) : VC c n (.type "list") [.list xs] (.list xs) := fun A s vals ass E R W r => by
  cases r with | cons r1 r2 => cases r2; cases r1 with
  | list g1 g2 g3 g4 =>
    rename_i a o vs m bs
    have hl : vs.size = xs.length := by simpa using readsAll_length g4
    refine call_list_seq (T := "list") a (.inl rfl) g1 g2 g3 (fun h' c' hk hD => ?_) (by omega)
    have x1 : Ext c s { s with heap := h' } := Ext.of W hk
    have g4' := x1.readsAll W g4
    have hb := readsAll_flat g4 hf
    subst hb
    refine ⟨x1, [s.heap.objs.size], .list hD rfl rfl g4', by simp, fun b hb => ?_, fun b hb => ?_⟩
    · rw [List.mem_singleton.mp hb]; exact get_size_none _
    · rw [List.mem_singleton.mp hb]; exact ⟨_, hD, .inl ⟨rfl, _, _, rfl⟩, rfl, rfl⟩

theorem two_walk {op : CmpOp} {A : Around} {s : Shared} {a b : Int} {t u : Tok} {E : Value → Shared → Prop} {K : Value → Shared → Prop} (g : Int → Int → Bool) (R : Room n A) (W : Wf c s)
    (hc : ∀ (x y : Int) (t u : Tok) (s : Shared) (Q : Value → Shared → Prop) (E : Value → Shared → Prop), Q (.bool (g x y)) s → wpAny c.M A.in1 (richCompare op (.int x t) (.int y u)) Q E s)
    (hK : ∀ tk t' h', (∀ b o, s.heap.get? b = some o → h'.get? b = some o) → K (.int (if g b a then b else a) t') { s with heap := h', toks := tk }) :
    wpAny c.M A.in1 (pyIter (.ref s.heap.objs.size)) (fun it s₂ => ∃ I fp wr n P St bt, it = .ref I ∧ Walks c.prog c.w A.in1 I fp wr n P St ∧ St 0 s₂.heap ∧ (∀ b ∈ fp, b < s₂.heap.objs.size) ∧ 0 < n ∧ CmpOf c.prog c.w A.in1 op P bt ∧
      ∀ v h' tk, P (argBest bt (n - 1)) v → (∀ b o, b ∉ wr → s₂.heap.get? b = some o → h'.get? b = some o) → K v { s₂ with heap := h', toks := tk }) E
      { s with heap := s.heap.push { cls := .type "tuple", data := .seq #[.int a t, .int b u] } } := by
  have ht : (s.heap.push { cls := .type "tuple", data := .seq #[.int a t, .int b u] }).IsTuple s.heap.objs.size #[.int a t, .int b u] := ⟨_, Heap.get?_push_size _ rfl, rfl, _, rfl⟩
  refine wpAny_pyIter_tuple ht ?_
  have hne : s.heap.objs.size ≠ (s.heap.push { cls := .type "tuple", data := .seq #[Value.int a t, .int b u] }).objs.size := by rw [Heap.size_push]; exact Nat.ne_of_lt (Nat.lt_succ_self _)
  let gg : Nat → Int := fun i => if i = 0 then a else b
  have isg : ∀ {i : Nat} {v : Value}, (#[Value.int a t, .int b u] : Array Value)[i]? = some v → ∃ t', v = .int (gg i) t' := fun {i v} h => by
    match i, h with
    | 0, h => simp at h; exact ⟨t, h.symm⟩
    | 1, h => simp at h; exact ⟨u, h.symm⟩
    | i + 2, h => simp at h
  refine ⟨_, _, _, 2, _, _, fun i j => g (gg i) (gg j), rfl, Walks.tuple (A := A.in1) R.hand _ s.heap.objs.size hne #[.int a t, .int b u], ⟨⟨_, Heap.get?_push_size _ rfl, rfl, rfl⟩, ht.push _⟩, fun b hb => ?_, by decide, fun i j vi vj s' Q E' hi hj hQ => ?_, fun v h' tk hP hk => ?_⟩
  · rw [Heap.size_push, Heap.size_push]
    rcases List.mem_cons.mp hb with rfl | hb
    · rw [Heap.size_push]; exact Nat.lt_succ_self _
    · rw [List.mem_singleton.mp hb]; exact Nat.lt_succ_of_lt (Nat.lt_succ_self _)
  · obtain ⟨t1, rfl⟩ := isg hi
    obtain ⟨t2, rfl⟩ := isg hj
    exact hc _ _ _ _ _ _ _ hQ
  · obtain ⟨t1, rfl⟩ := isg hP
    have e1 : gg (argBest (fun i j => g (gg i) (gg j)) (2 - 1)) = if g b a then b else a := by
      show gg (if g (gg 1) (gg 0) = true then 1 else 0) = _
      have : g (gg 1) (gg 0) = g b a := rfl
      rw [this]
      split <;> rfl
    rw [e1]
    refine hK _ _ _ fun b o e => hk b o (fun q => ?_) (Heap.get?_push_of_some _ (Heap.get?_push_of_some _ e))
    have := Heap.lt_size e
    rw [List.mem_singleton.mp q, Heap.size_push] at this
    exact absurd this (Nat.not_lt.mpr (Nat.le_succ _))
theorem vc_max2 : VC c n (.builtin "max") [.int a, .int b] (.int (max a b)) := fun A s vals ass E R W r => by
  obtain _ | ⟨r1, r2⟩ := r
  obtain _ | ⟨r2, r3⟩ := r2
  cases r3; cases r1; cases r2
  refine call_max_two (two_walk (K := VRes c s (.int (max a b))) (fun x y => decide (y < x)) R W (fun x y t u s Q E h => rc_gt h) fun tk t' h' hk => ?_)
  have e : (if decide (a < b) = true then b else a) = max a b := by simp only [decide_eq_true_eq]; rw [Int.max_def]; split <;> split <;> omega
  refine ⟨Ext.of W hk, [], ?_, .nil, nofun, nofun⟩
  rw [← e]; exact .int _ _
theorem vc_min2 : VC c n (.builtin "min") [.int a, .int b] (.int (min a b)) := fun A s vals ass E R W r => by
  obtain _ | ⟨r1, r2⟩ := r
  obtain _ | ⟨r2, r3⟩ := r2
  cases r3; cases r1; cases r2
  refine call_min_two (two_walk (K := VRes c s (.int (min a b))) (fun x y => decide (x < y)) R W (fun x y t u s Q E h => rc_lt h) fun tk t' h' hk => ?_)
  have e : (if decide (b < a) = true then b else a) = min a b := by simp only [decide_eq_true_eq]; rw [Int.min_def]; split <;> split <;> omega
  refine ⟨Ext.of W hk, [], ?_, .nil, nofun, nofun⟩
  rw [← e]; exact .int _ _
end
end Mine

namespace Mine
open PySem PySem.Spec PySem.Calls PyProof.Rows

theorem Pl.isL {h : Heap} {a : Addr} {o : Obj} {vs : Array Value} {n : Nat} (p : Pl h a) (e : h.get? a = some o) (hc : o.cls = .type "list") (hd : o.data = .seq vs n) : IsL h a vs n := by
  obtain ⟨o', e', _, q1, q2⟩ := p
  rw [e] at e'; cases e'
  obtain ⟨cl, di, da, sl⟩ := o
  simp only at hc hd q1 q2
  subst hc hd q1 q2
  exact e
theorem Pl.of_isL {h : Heap} {a : Addr} {vs : Array Value} {n : Nat} (e : IsL h a vs n) : Pl h a := ⟨_, e, .inl ⟨rfl, _, _, rfl⟩, rfl, rfl⟩

section
variable {c : Cx} {f : Fm} {ρ : Rho} {mo : Addr → Prop} {val : Nat → Value} {fp : Nat → List Addr} {s : Shared} {E : Value → Shared → Prop}

/-- a change at an object that a variable owns -/
theorem St.mut {i : Nat} {d d' : PyData} {b : Addr} {h' : Heap} {tk : Nat} {as' extra : List Addr} (FS : FmS c f) (S : St c f ρ mo val fp s) (e : ρ[i]? = some (some ⟨.ow, d⟩)) (hb : b ∈ fp i)
    (hs : Heap.SameBut b s.heap h') (hpl : Pl h' b) (r : Reads h' (val i) d' as') (nd : as'.Nodup) (hin : ∀ a ∈ as', a ∈ fp i ∨ a ∈ extra)
    (ex1 : ∀ a ∈ extra, ¬ mo a ∧ f.h₀.get? a = none ∧ Pl s.heap a) (ex2 : ∀ j sl, j ≠ i → ρ[j]? = some (some sl) → ∀ a ∈ fp j, a ∉ extra) (ex3 : f.env.locals ∉ extra) :
    St c f (ρ.set i (some ⟨.ow, d'⟩)) (fun a => mo a ∨ a ∈ extra) val (upd fp i as') { s with heap := h', toks := tk } ∧
      (∀ x o, ¬ mo x → s.heap.get? x = some o → h'.get? x = some o) ∧ (∀ x o, s.heap.get? x = some o → ∃ o', h'.get? x = some o') := by
  have hmo : mo b := (S.own i _ e rfl).2 b hb
  have hi : i < ρ.length := (List.getElem?_eq_some_iff.mp e).1
  obtain ⟨ob, hob, hlb, _⟩ := S.moPl b hmo
  have hbL : b ≠ f.env.locals := fun q => S.fpL i _ e (q ▸ hb)
  have hnp : ¬ Pv f b := pv_ld S hob hlb hbL
  have hX : ¬ c.X b := not_tab S.wf hob (by rcases hlb with ⟨q, _⟩ | ⟨q, _⟩ <;> rw [q] <;> nofun)
  have h0b := S.moNew b hmo
  have hBb := FS.base.none h0b
  have keep : ∀ x o, x ≠ b → s.heap.get? x = some o → h'.get? x = some o := fun x o hx q => (hs.2 x hx).trans q
  have hpv : ∀ x, Pv f x → x ≠ b := fun x hx q => hnp (q ▸ hx)
  have notTup : ∀ a o, s.heap.get? a = some o → o.cls = .type "tuple" → a ≠ b := fun a o q hc hab => by
    subst hab; rw [hob] at q; cases q
    rcases hlb with ⟨h, _⟩ | ⟨h, _⟩ <;> rw [hc] at h <;> simp at h
  have slot : ∀ j t, (ρ.set i (some ⟨.ow, d'⟩))[j]? = some (some t) → (j = i ∧ t = ⟨.ow, d'⟩) ∨ (j ≠ i ∧ ρ[j]? = some (some t)) := fun j t e => by
    rw [List.getElem?_set] at e
    by_cases q : i = j
    · rw [if_pos q, if_pos hi] at e; cases e; exact .inl ⟨q.symm, rfl⟩
    · rw [if_neg q] at e; exact .inr ⟨fun h => q h.symm, e⟩
  have other : ∀ j t, j ≠ i → ρ[j]? = some (some t) → b ∉ fp j := fun j t hj ej hm => by
    by_cases ho : t.k = .ow
    · exact S.apart i j _ t (fun q => hj q.symm) e ej rfl ho b hb hm
    · exact S.shr j t ej ho b hm hmo
  have nsK : ∀ {a m}, a ≠ b → s.heap.Ns a m → h'.Ns a m := fun ha ⟨o, es, ep, ho, q⟩ => ⟨o, es, ep, keep _ o ha ho, q⟩
  have cellNe : ∀ {a v}, s.heap.IsCell a v → a ≠ b := fun ⟨o, ho, hd⟩ q => by
    subst q; rw [hob] at ho; cases ho
    rcases hlb with ⟨_, _, _, h⟩ | ⟨_, _, _, h⟩ <;> rw [hd] at h <;> cases h
  have th : ∀ x o, s.heap.get? x = some o → ∃ o', h'.get? x = some o' := fun x o q => by
    by_cases hx : x = b
    · subst hx; obtain ⟨o', q', _⟩ := hpl; exact ⟨o', q'⟩
    · exact ⟨o, keep x o hx q⟩
  have plK : ∀ a, Pl s.heap a → Pl h' a := fun a ⟨o, q, r⟩ => by
    by_cases ha : a = b
    · subst ha; exact hpl
    · exact ⟨o, keep a o ha q, r⟩
  refine ⟨⟨S.wf.sameBut hs hBb hX, S.ok, ⟨fun x o hx q => keep x o (fun h => by rw [h, h0b] at q; cases q) (S.keep.kp x o hx q), fun x o q => let ⟨o', q'⟩ := S.keep.th x o q; th x o' q'⟩,
    let ⟨m, n⟩ := S.ns; ⟨m, nsK (fun q => hbL q.symm) n⟩, fun x a q => ?_, fun j t ej => ?_, fun j t ej ho => ?_, fun j t ej ho => ?_, fun j t ej hl => ?_, fun j j' t t' hne ej ej' ho ho' => ?_, fun a h => ?_, fun a h => ?_, ?_, fun j t ej => ?_⟩, fun x o hx q => keep x o (fun h => hx (h ▸ hmo)) q, th⟩
  · obtain ⟨v, n⟩ := S.cells x a q
    have hne := cellNe n
    obtain ⟨o, ho, hd⟩ := n
    exact ⟨v, o, keep a o hne ho, hd⟩
  · have ld : ∀ {y u}, Loads f.env s.heap y u → Loads f.env h' y u := fun l => by
      rcases l with ⟨g1, m, g2, g3⟩ | ⟨g1, a, g2, g3⟩
      · exact .inl ⟨g1, m, nsK (fun q => hbL q.symm) g2, g3⟩
      · have hne := cellNe g3
        obtain ⟨o, ho, hd⟩ := g3
        exact .inr ⟨g1, a, g2, o, keep a o hne ho, hd⟩
    rcases slot j t ej with ⟨rfl, rfl⟩ | ⟨hj, ej⟩
    · obtain ⟨y, h1, h2, _⟩ := S.var j _ e
      exact ⟨y, h1, ld h2, by rw [upd_self]; exact r⟩
    · obtain ⟨y, h1, h2, h3⟩ := S.var j t ej
      refine ⟨y, h1, ld h2, by
        rw [upd_ne _ _ _ hj]
        exact reads_upon h3 (fun a ha o q _ => keep a o (fun h => other j t hj ej (h ▸ ha)) q) (fun a o q hc _ => keep a o (notTup a o q hc) q)⟩
  · rcases slot j t ej with ⟨rfl, rfl⟩ | ⟨hj, ej⟩
    · rw [upd_self]; exact ⟨nd, fun a ha => (hin a ha).imp ((S.own j _ e rfl).2 a) id⟩
    · rw [upd_ne _ _ _ hj]; exact ⟨(S.own j t ej ho).1, fun a ha => .inl ((S.own j t ej ho).2 a ha)⟩
  · rcases slot j t ej with ⟨rfl, rfl⟩ | ⟨hj, ej⟩
    · exact absurd rfl ho
    · rw [upd_ne _ _ _ hj]; exact fun a ha h => h.elim (S.shr j t ej ho a ha) (ex2 j t hj ej a ha)
  · rcases slot j t ej with ⟨rfl, rfl⟩ | ⟨hj, ej⟩
    · cases hl
    · rw [upd_ne _ _ _ hj]; exact S.loc j t ej hl
  · rcases slot j t ej with ⟨rfl, rfl⟩ | ⟨hj, e1⟩ <;> rcases slot j' t' ej' with ⟨rfl, rfl⟩ | ⟨hj', e1'⟩
    · exact absurd rfl hne
    · rw [upd_self, upd_ne _ _ _ hj']
      exact fun a ha h => (hin a ha).elim (fun q => S.apart j j' _ t' hne e e1' rfl ho' a q h) (ex2 j' t' hj' e1' a h)
    · rw [upd_self, upd_ne _ _ _ hj]
      exact fun a ha h => (hin a h).elim (fun q => S.apart j j' t _ hne e1 e ho rfl a ha q) (ex2 j t hj e1 a ha)
    · rw [upd_ne _ _ _ hj, upd_ne _ _ _ hj']; exact S.apart j j' t t' hne e1 e1' ho ho'
  · exact h.elim (S.moNew a) fun q => (ex1 a q).2.1
  · exact plK a (h.elim (S.moPl a) fun q => (ex1 a q).2.2)
  · exact fun h => h.elim S.moL ex3
  · rcases slot j t ej with ⟨rfl, rfl⟩ | ⟨hj, ej⟩
    · rw [upd_self]; exact fun h => (hin _ h).elim (S.fpL j _ e) ex3
    · rw [upd_ne _ _ _ hj]; exact S.fpL j t ej

theorem reads_but {h h' : Heap} {a : Addr} {v : Value} {d : PyData} {as : List Addr} (hs : Heap.SameBut a h h') (ha : ∀ o, h.get? a = some o → o.cls ≠ .type "tuple") (hn : a ∉ as) (r : Reads h v d as) : Reads h' v d as :=
  reads_upon r (fun b hb o q _ => (hs.2 b fun h => hn (h ▸ hb)).trans q) (fun b o q hc _ => (hs.2 b fun h => ha o (h ▸ q) hc).trans q)
theorem readsAll_but {h h' : Heap} {a : Addr} {v : List Value} {d : List PyData} {as : List Addr} (hs : Heap.SameBut a h h') (ha : ∀ o, h.get? a = some o → o.cls ≠ .type "tuple") (hn : a ∉ as) (r : ReadsAll h v d as) : ReadsAll h' v d as :=
  readsAll_upon r (fun b hb o q _ => (hs.2 b fun h => hn (h ▸ hb)).trans q) (fun b o q hc _ => (hs.2 b fun h => ha o (h ▸ q) hc).trans q)
theorem isL_notTup {h : Heap} {a : Addr} {vs : Array Value} {n : Nat} (l : IsL h a vs n) : ∀ o, h.get? a = some o → o.cls ≠ .type "tuple" := fun o q hc => by
  rw [l] at q; cases q; simp at hc
theorem readsAll_snoc {h : Heap} {vs : List Value} {ds : List PyData} {as : List Addr} {v : Value} {d : PyData} {bs : List Addr} (r : ReadsAll h vs ds as) (r' : Reads h v d bs) : ReadsAll h (vs ++ [v]) (ds ++ [d]) (as ++ bs) :=
  ra_ind (M := fun vs ds as => ReadsAll h (vs ++ [v]) (ds ++ [d]) (as ++ bs)) (by have := ReadsAll.cons r' .nil; rwa [List.append_nil] at this) (fun r1 _ ih => by rw [List.append_assoc]; exact .cons r1 ih) r
theorem readsAll_set {h : Heap} {vs : List Value} {ds : List PyData} {as : List Addr} {i : Nat} {v : Value} {d d0 : PyData} (x : ReadsAll h vs ds as) (e : ds[i]? = some d0) (hf : flat d0 = true) (r : Reads h v d []) : ReadsAll h (vs.set i v) (ds.set i d) as :=
  ra_ind (M := fun vs ds as => ∀ i, ds[i]? = some d0 → ReadsAll h (vs.set i v) (ds.set i d) as) (fun i e => by rw [List.getElem?_nil] at e; cases e) (fun {v vs d ds as bs} r1 r2 ih i e => by
    cases i with
    | zero => cases e; rw [reads_flat r1 hf]; exact .cons r r2
    | succ i => exact .cons r1 (ih i e)) x i e
theorem readsAll_mem {h : Heap} {vs : List Value} {ds : List PyData} {as : List Addr} {i : Nat} {b : Addr} {cs : List PyData} (r : ReadsAll h vs ds as) (e : vs[i]? = some (.ref b)) (e' : ds[i]? = some (.list cs)) : b ∈ as :=
  ra_ind (M := fun vs ds as => ∀ i, vs[i]? = some (Value.ref b) → ds[i]? = some (PyData.list cs) → b ∈ as) (fun i e => by rw [List.getElem?_nil] at e; cases e) (fun {v vs d ds as bs} r1 _ ih i e e' => by
    cases i with
    | zero =>
      have e : some v = some (Value.ref b) := e
      have e' : some d = some (PyData.list cs) := e'
      cases e; cases e'; cases r1; exact List.mem_append_left _ (List.mem_cons_self ..)
    | succ i => exact List.mem_append_right _ (ih i e e')) r i e e'
theorem readsAll_row {h h' : Heap} {b : Addr} {cells cells' : List PyData} (hf : flats cells = true) (hs : ∀ x, x ≠ b → h'.get? x = h.get? x) (hb : ∀ o, h.get? b = some o → o.cls ≠ .type "tuple") (new : Reads h' (.ref b) (.list cells') [b])
    {vs : List Value} {ds : List PyData} {as : List Addr} {i : Nat} (r : ReadsAll h vs ds as) (nd : as.Nodup) (e : vs[i]? = some (.ref b)) (e' : ds[i]? = some (.list cells)) : ReadsAll h' vs (ds.set i (.list cells')) as := by
  have kt : KpT h h' := fun a o q hc _ => (hs a (fun h => hb o (h ▸ q) hc)).trans q
  refine ra_ind (M := fun vs ds as => ∀ i, as.Nodup → vs[i]? = some (Value.ref b) → ds[i]? = some (PyData.list cells) → ReadsAll h' vs (ds.set i (.list cells')) as) (fun i _ e => by rw [List.getElem?_nil] at e; cases e) (fun {v vs d ds as1 as2} h1 h2 ih i nd e e' => ?_) r i nd e e'
  cases i with
  | zero =>
    have e : some v = some (Value.ref b) := e
    have e' : some d = some (PyData.list cells) := e'
    cases e; cases e'
    cases h1 with
    | list g1 g2 g3 g4 =>
      rw [readsAll_flat g4 hf] at nd ⊢
      have hb2 : b ∉ as2 := (List.nodup_cons.mp nd).1
      exact .cons new (readsAll_upon h2 (fun a ha o q _ => (hs a (fun h => hb2 (h ▸ ha))).trans q) kt)
  | succ i =>
    rw [List.nodup_append] at nd
    have hb2 : b ∈ as2 := readsAll_mem h2 e e'
    have hb1 : b ∉ as1 := fun q => nd.2.2 b q b hb2 rfl
    exact .cons (reads_upon h1 (fun a ha o q _ => (hs a (fun h => hb1 (h ▸ ha))).trans q) kt) (ih i nd.2.1 e e')
/-- the list that a variable owns -/
theorem owned_list {i : Nat} {xs : List PyData} (S : St c f ρ mo val fp s) (e : ρ[i]? = some (some ⟨.ow, .list xs⟩)) :
    ∃ a vs n as, val i = .ref a ∧ fp i = a :: as ∧ IsL s.heap a vs n ∧ ReadsAll s.heap vs.toList xs as ∧ mo a := by
  obtain ⟨x, _, _, r⟩ := S.var i _ e
  obtain ⟨nd, hm⟩ := S.own i _ e rfl
  generalize val i = v at r
  generalize hfp : fp i = as at r nd hm
  simp only at r
  cases r with
  | list g1 g2 g3 g4 =>
    have hma := hm _ (List.mem_cons_self ..)
    exact ⟨_, _, _, _, rfl, rfl, (S.moPl _ hma).isL g1 g2 g3, g4, hma⟩

variable {Q : Fl → Rho → Prop} {e : Expr} {d : PyData} {k : EK} {pos : Pos} {x : Str} {xp ap cp : Pos} {i : Nat} {xs : List PyData}

theorem sameBut_update (h : Heap) (a : Addr) (g : Obj → Obj) : Heap.SameBut a h (h.update a g) := Heap.SameBut.update ..

/-- x.append(e) -/
theorem ex_append (FS : FmS c f) (hat : At f.xs ρ x ⟨.ow, .list xs⟩ i) (h : Ev c f ρ e d k) (hk : k = .fr ∨ flat d = true) (hsz : xs.length ≤ sizeLine) (hQ : Q .next (ρ.set i (some ⟨.ow, .list (xs ++ [d])⟩)))
    (hd : (x == ("__debug__" : Str)) = false := by decide +kernel) (hn : (x == ("__classdict__" : Str)) = false := by decide +kernel)
    (hbase : ∀ env, attributeBase (.Name x xp) "append" env (eval (.Name x xp) env) = eval (.Name x xp) env := by intro _; rfl) (hline : (ap.endLine == cp.line) = true := by rfl)
    (htrees : ∀ env, backTo cp (starEach [e] env) = [(false, eval e env)] := by intro _; rfl) (hi : ∀ env, interactive env = false → True := by intros; trivial)
    (hsw : ∀ env, swapsWith (.Call (.Attribute (.Name x xp) "append" ap) [e] [] cp) none pos.line env = pure false := by intro _; rfl) :
    Ex1 c f (.Expr (.Call (.Attribute (.Name x xp) "append" ap) [e] [] cp) pos) ρ Q := fun mo val fp s S => by
  have hint : interactive f.env = false := by unfold interactive; rw [S.ok.kind]; rfl
  refine wpAny_Expr_any ?_ hint (hsw _)
  refine wpAny_Call_method1_late (hbase _) hline (htrees _) (name_step S hat (fun _ => ?_) hd hn)
  have e0 := hat.slot
  obtain ⟨a, vs, n, as, hv, hfp, hl, hr, hma⟩ := owned_list S e0
  rw [hv]
  refine ⟨"list", "list.append", F.plainAttrs_list, F.slot_list_append, F.type_list_append, ⟨_, hl, rfl⟩, fun a' q => by cases q; exact ⟨_, hl, rfl⟩, ?_⟩
  refine P.append_list (h.bind S fun v s1 as1 x1 S1 r1 ko => ?_)
  have hl1 : IsL s1.heap a vs n := listOrDict_ext S.wf x1 hl (.inl ⟨rfl, _, _, rfl⟩)
  have hr1 := x1.readsAll S.wf hr
  have hlen : vs.size = xs.length := by simpa using readsAll_length hr
  refine ⟨vs, n, by omega, hl1, ?_⟩
  have hl2 := hl1.update (fun xs => xs.push v)
  have hsb : Heap.SameBut a s1.heap (s1.heap.update a (Obj.mapSeq fun xs => xs.push v)) := sameBut_update ..
  obtain ⟨nd, hm⟩ := S1.own i _ e0 rfl
  rw [hfp] at nd
  have haas : a ∉ as := (List.nodup_cons.mp nd).1
  have haas1 : a ∉ as1 := fun q => by
    rcases hk with rfl | hf
    · have := ko.2.2.1 a q; rw [hl] at this; cases this
    · rw [reads_flat r1 hf] at q; cases q
  have hr2 := readsAll_but hsb (isL_notTup hl1) haas hr1
  have r2 := reads_but hsb (isL_notTup hl1) haas1 r1
  have key : Reads (s1.heap.update a (Obj.mapSeq fun xs => xs.push v)) (val i) (.list (xs ++ [d])) (a :: (as ++ as1)) := by
    rw [hv]
    exact .list hl2 rfl rfl (by rw [Array.toList_push]; exact readsAll_snoc hr2 r2)
  have frs : ∀ b ∈ as1, s.heap.get? b = none := fun b hb => by
    rcases hk with rfl | hf
    · exact ko.2.2.1 b hb
    · rw [reads_flat r1 hf] at hb; cases hb
  have fpIn : ∀ j sl, ρ[j]? = some (some sl) → ∀ b ∈ fp j, ∃ o, s.heap.get? b = some o := fun j sl ej b hb => by
    obtain ⟨_, _, _, rj⟩ := S.var j sl ej
    obtain ⟨o, ho, _⟩ := reads_objs rj b hb; exact ⟨o, ho⟩
  have as1nd : as1.Nodup := by
    rcases hk with rfl | hf
    · exact ko.2.1
    · rw [reads_flat r1 hf]; exact .nil
  have as1pl : ∀ b ∈ as1, Pl s1.heap b := fun b hb => by
    rcases hk with rfl | hf
    · exact ko.2.2.2 b hb
    · rw [reads_flat r1 hf] at hb; cases hb
  have asfp : ∀ b ∈ as, b ∈ fp i := fun b hb => by rw [hfp]; exact List.mem_cons_of_mem _ hb
  have := S1.mut (tk := s1.toks) (as' := a :: (as ++ as1)) (extra := as1) FS e0 (by rw [hfp]; exact List.mem_cons_self ..) hsb (Pl.of_isL hl2) key
    (List.nodup_cons.mpr ⟨fun q => (List.mem_append.mp q).elim haas haas1, List.nodup_append.mpr ⟨(List.nodup_cons.mp nd).2, as1nd, fun p hp q hq h => by
      subst h; obtain ⟨o, ho⟩ := fpIn i _ e0 p (asfp p hp); rw [frs p hq] at ho; cases ho⟩⟩)
    (fun b hb => by
      rw [hfp]
      rcases List.mem_cons.mp hb with q | q
      · exact .inl (q ▸ List.mem_cons_self ..)
      · exact (List.mem_append.mp q).imp (List.mem_cons_of_mem _) id)
    (fun b hb => ⟨fun q => (by obtain ⟨o, ho, _⟩ := S.moIn b q; rw [frs b hb] at ho; cases ho), S.keep.none (frs b hb), as1pl b hb⟩)
    (fun j sl _ ej b hb q => by obtain ⟨o, ho⟩ := fpIn j sl ej b hb; rw [frs b q] at ho; cases ho)
    (fun q => ko.1 q)
  refine ⟨.next, _, _, _, _, trivial, this.1, ⟨fun b o h1 h2 h3 q => this.2.1 b o h3 (x1.up.kp b o h1 q), fun b o q => let ⟨o', q'⟩ := x1.up.th b o q; this.2.2 b o' q', fun b h => h.imp id (frs b)⟩, hQ⟩
end
end Mine

namespace Mine
open PySem PySem.Spec PySem.Calls PyProof.Rows

section
variable {prog : Program} {w : World} {A : Around} {E : Value → Shared → Prop} {s : Shared}
/-- a store into a plain list leaves a plain list -/
theorem setItem_isL {l : Addr} {items : Array Value} {n : Nat} {k : Int} {t : Tok} {v : Value} {Q : Unit → Shared → Prop} (hl : IsL s.heap l items n) (h0 : 0 ≤ k) (hfit : k < 2 ^ 63) (hn : k < items.size)
    (hQ : IsL (s.heap.update l (Obj.mapSeq (·.setIfInBounds k.toNat v))) l (items.setIfInBounds k.toNat v) n → Q () { s with heap := s.heap.update l (Obj.mapSeq (·.setIfInBounds k.toNat v)) }) :
    wpAny (model prog w) A (setItem (.ref l) (.int k t) v) Q E s := by
  have hT : s.TypeIs (.ref l) "list" := ⟨_, hl, rfl⟩
  have hq := hQ (by
    have := hl.update (fun xs => xs.setIfInBounds k.toNat v)
    have e : ((items.setIfInBounds k.toNat v).size == items.size) = true := by simp
    simpa [e] using this)
  clear hQ
  unfold setItem
  try with_reducible refine wpAny_holding ?_
  first | refine wpAny_bind (wpAny_pure ?_) | skip
  refine wpAny_bind (wpAny_sequenceKey hT (by decide) ?_)
  refine wpAny_bind (wpAny_callSpecial?_slot (name := Str.ofString "__setitem__") hT slot_list_setitem
    (wpAny_call_entry slot_list_setitem hT entry_list_setitem ?_ (args_list_setitem _ _ _)))
  show wpAny _ _ (Builtin.List.listSubscript? (.int k t) >>= _) _ _ s
  refine wpAny_bind (wpAny_listSubscript_int (fitsIndex_of h0 hfit) ?_)
  clear hfit
  obtain ⟨j, rfl⟩ := Int.eq_ofNat_of_zero_le h0
  have hj : j < items.size := by omega
  show wpAny _ _ ((seqItemAt l j >>= fun r => pure (r.map (j, ·))) >>= _) _ _ s
  refine wpAny_bind (wpAny_bind (wpAny_seqItemAt hl rfl (wpAny_pure ?_)))
  rw [Array.getElem?_eq_getElem hj]
  show wpAny _ _ (setSeqItemAt l j v >>= _) _ _ s
  refine wpAny_bind (wpAny_setSeqItemAt hl rfl ?_)
  first
    | exact wpAny_bind (wpAny_pure (wpAny_pure ⟨.none, rfl, wpAny_pure hq⟩))
    | exact wpAny_pure ⟨.none, rfl, wpAny_pure hq⟩
end

section
variable {c : Cx} {f : Fm} {ρ : Rho} {mo : Addr → Prop} {val : Nat → Value} {fp : Nat → List Addr} {s : Shared} {E : Value → Shared → Prop}
variable {Q : Fl → Rho → Prop} {e ei er : Expr} {d d0 : PyData} {k k2 k3 : EK} {pos : Pos} {x : Str} {xp ap cp sp sp2 : Pos} {i : Nat} {xs : List PyData}

theorem mut0 {d d' : PyData} {b : Addr} {h' : Heap} {tk : Nat} {s1 : Shared} (FS : FmS c f) (S : St c f ρ mo val fp s) (x1 : Ext c s s1) (e : ρ[i]? = some (some ⟨.ow, d⟩)) (hb : b ∈ fp i)
    (hs : Heap.SameBut b s1.heap h') (hpl : Pl h' b) (r : Reads h' (val i) d' (fp i)) (hQ : Q .next (ρ.set i (some ⟨.ow, d'⟩))) : Post c f mo s Q .next { s1 with heap := h', toks := tk } := by
  have S1 := S.ext x1
  have := S1.mut (tk := tk) (as' := fp i) (extra := []) FS e hb hs hpl r (S.own i _ e rfl).1 (fun a ha => .inl ha) nofun (fun _ _ _ _ _ _ h => by cases h) nofun
  exact ⟨.next, _, _, _, _, trivial, this.1, ⟨fun b o h1 h2 h3 q => this.2.1 b o h3 (x1.up.kp b o h1 q), fun b o q => let ⟨o', q'⟩ := x1.up.th b o q; this.2.2 b o' q', fun b h => h.elim .inl (fun q => by cases q)⟩, hQ⟩

/-- x[i] = e, a flat item in the place of a flat item -/
theorem ex_setitem {j : Int} (FS : FmS c f) (hat : At f.xs ρ x ⟨.ow, .list xs⟩ i) (hv : Ev c f ρ e d k) (hi : Ev c f ρ ei (.int j) k2) (hd : flat d = true) (h0 : 0 ≤ j) (hfit : j < 2 ^ 63) (hx : xs[j.toNat]? = some d0) (hd0 : flat d0 = true)
    (hQ : Q .next (ρ.set i (some ⟨.ow, .list (xs.set j.toNat d)⟩)))
    (hdb : (x == ("__debug__" : Str)) = false := by decide +kernel) (hn : (x == ("__classdict__" : Str)) = false := by decide +kernel)
    (hs : ∀ env, swapsWith e (some (.Subscript (.Name x xp) ei sp)) pos.line env = pure false := by intro _; rfl) : Ex1 c f (.Assign [.Subscript (.Name x xp) ei sp] e pos) ρ Q := fun mo val fp s S => by
  refine wpAny_Assign_Subscript (hv.bind S fun v s1 as1 x1 S1 r1 _ => name_step S1 hat (fun _ => hi.bind S1 fun iv s3 as3 x3 S3 r3 _ => ?_) hdb hn) (hs _)
  have e0 := hat.slot
  obtain ⟨a, vs, n, as, hva, hfp, hl, hr, hma⟩ := owned_list S3 e0
  cases r3
  rw [hva]
  have hlen : vs.size = xs.length := by simpa using readsAll_length hr
  have hjl : j.toNat < xs.length := (List.getElem?_eq_some_iff.mp hx).1
  refine setItem_isL hl h0 hfit (by omega) fun hl2 => ?_
  have hsb : Heap.SameBut a s3.heap (s3.heap.update a (Obj.mapSeq (·.setIfInBounds j.toNat v))) := sameBut_update ..
  have nd := (S3.own i _ e0 rfl).1
  rw [hfp] at nd
  have r1' := reads_but hsb (isL_notTup hl) (by rw [reads_flat r1 hd]; nofun) (x3.reads S1.wf r1)
  rw [reads_flat r1 hd] at r1'
  have hr2 := readsAll_but hsb (isL_notTup hl) (List.nodup_cons.mp nd).1 hr
  refine mut0 (d' := .list (xs.set j.toNat d)) FS S (x1.trans x3) e0 (by rw [hfp]; exact List.mem_cons_self ..) hsb (Pl.of_isL hl2) ?_ hQ
  rw [hva, hfp]
  exact .list hl2 rfl rfl (by rw [Array.toList_setIfInBounds]; exact readsAll_set hr2 hx hd0 r1')

/-- the row of a table that a variable owns -/
theorem owned_row {j : Nat} {rows cells : List PyData} (S : St c f ρ mo val fp s) (e : ρ[i]? = some (some ⟨.ow, .list rows⟩)) (hj : rows[j]? = some (.list cells)) :
    ∃ a vs n as b ws m cs, val i = .ref a ∧ fp i = a :: as ∧ IsL s.heap a vs n ∧ ReadsAll s.heap vs.toList rows as ∧ vs.toList[j]? = some (.ref b) ∧ IsL s.heap b ws m ∧ ReadsAll s.heap ws.toList cells cs ∧ b ∈ as := by
  obtain ⟨a, vs, n, as, hva, hfp, hl, hr, hma⟩ := owned_list S e
  obtain ⟨v, bs, h1, h2, h3⟩ := readsAll_item hr hj
  cases h2 with
  | list g1 g2 g3 g4 =>
    have hb : _ ∈ as := h3.subset (List.mem_cons_self ..)
    have hmb := (S.own i _ e rfl).2 _ (by rw [hfp]; exact List.mem_cons_of_mem _ hb)
    exact ⟨a, vs, n, as, _, _, _, _, hva, hfp, hl, hr, h1, (S.moPl _ hmb).isL g1 g2 g3, g4, hb⟩

/-- the value of a row: x[i] of a table owned by x -/
theorem row_step {j : Int} {rows cells : List PyData} {K : Value → Shared → Prop} (S : St c f ρ mo val fp s) (hat : At f.xs ρ x ⟨.ow, .list rows⟩ i) (hi : Ev c f ρ ei (.int j) k2) (h0 : 0 ≤ j) (hfit : j < 2 ^ 63) (hj : rows[j.toNat]? = some (.list cells))
    (hdb : (x == ("__debug__" : Str)) = false) (hn : (x == ("__classdict__" : Str)) = false) (hs : ∀ o i, subscripted ei false o i = operate [o, i] (getItem o i))
    (hK : ∀ b s', Ext c s s' → St c f ρ mo val fp s' → (∃ a vs n as, val i = .ref a ∧ fp i = a :: as ∧ IsL s'.heap a vs n ∧ ReadsAll s'.heap vs.toList rows as ∧ vs.toList[j.toNat]? = some (.ref b) ∧ b ∈ as) → K (.ref b) s') :
    wpAny c.M f.A (eval (.Subscript (.Name x xp) ei sp) f.env) K E s := by
  refine Subscript_ (name_step S hat (fun r0 => hi.bind S fun iv s2 as2 x2 S2 r2 _ => ?_) hdb hn)
  cases r2
  obtain ⟨a, vs, n, as, b, ws, m, cs, hva, hfp, hl, hr, hv, hlb, hrb, hb⟩ := owned_row S2 hat.slot hj
  rw [hva]
  refine tail_any (T := "list") ⟨_, hl, rfl⟩ slot_list_getitem.lookup ?_ (hs _ _)
  exact wpAny_getItem_list ⟨_, hl, rfl, _, rfl⟩ h0 hfit (by simpa using hv) (hK b s2 x2 S2 ⟨a, vs, n, as, hva, hfp, hl, hr, hv, hb⟩)

/-- x[i][j] = e, flat -/
theorem ex_setitem2 {j1 j2 : Int} {rows cells : List PyData} (FS : FmS c f) (hat : At f.xs ρ x ⟨.ow, .list rows⟩ i) (hv : Ev c f ρ e d k) (hi1 : Ev c f ρ er (.int j1) k2) (hi2 : Ev c f ρ ei (.int j2) k3) (hd : flat d = true)
    (h01 : 0 ≤ j1) (hfit1 : j1 < 2 ^ 63) (hrow : rows[j1.toNat]? = some (.list cells)) (hcf : flats cells = true) (h02 : 0 ≤ j2) (hfit2 : j2 < 2 ^ 63) (hx : xs = cells) (hlt : j2.toNat < cells.length)
    (hQ : Q .next (ρ.set i (some ⟨.ow, .list (rows.set j1.toNat (.list (cells.set j2.toNat d)))⟩)))
    (hdb : (x == ("__debug__" : Str)) = false := by decide +kernel) (hn : (x == ("__classdict__" : Str)) = false := by decide +kernel) (hs2 : ∀ o i, subscripted er false o i = operate [o, i] (getItem o i) := by intros; rfl)
    (hs : ∀ env, swapsWith e (some (.Subscript (.Subscript (.Name x xp) er sp) ei sp2)) pos.line env = pure false := by intro _; rfl) : Ex1 c f (.Assign [.Subscript (.Subscript (.Name x xp) er sp) ei sp2] e pos) ρ Q := fun mo val fp s S => by
  refine wpAny_Assign_Subscript (hv.bind S fun v s1 as1 x1 S1 r1 _ => row_step S1 hat hi1 h01 hfit1 hrow hdb hn hs2 fun b s2 x2 S2 hrb => hi2.bind S2 fun iv s3 as3 x3 S3 r3 _ => ?_) (hs _)
  have e0 := hat.slot
  obtain ⟨a2, vs2, n2, as2, hva2, hfp2, hl2, hr2, hvb2, hb2⟩ := hrb
  obtain ⟨a, vs, n, as, b', ws, m, cs, hva, hfp, hl, hr, hvb, hlb, hrb, hb⟩ := owned_row S3 e0 hrow
  have hbb : b' = b := by
    rw [hva2] at hva; cases hva
    have q := listOrDict_ext S2.wf x3 hl2 (.inl ⟨rfl, _, _, rfl⟩)
    have q' := Option.some.inj (q.symm.trans hl)
    cases q'
    rw [hvb2] at hvb; cases hvb; rfl
  subst hbb
  cases r3
  have hlen : ws.size = cells.length := by simpa using readsAll_length hrb
  refine setItem_isL hlb h02 hfit2 (by omega) fun hl3 => ?_
  have hsb : Heap.SameBut b' s3.heap (s3.heap.update b' (Obj.mapSeq (·.setIfInBounds j2.toNat v))) := sameBut_update ..
  have nd := (S3.own i _ e0 rfl).1
  rw [hfp] at nd
  have hab : b' ≠ a := fun q => (List.nodup_cons.mp nd).1 (q ▸ hb)
  have r1' := reads_but hsb (isL_notTup hlb) (by rw [reads_flat r1 hd]; nofun) ((x2.trans x3).reads S1.wf r1)
  rw [reads_flat r1 hd] at r1'
  have hcs := readsAll_flat hrb hcf
  subst hcs
  have hrb2 := readsAll_but hsb (isL_notTup hlb) (by simp) hrb
  obtain ⟨c0, hc0⟩ : ∃ c0, cells[j2.toNat]? = some c0 := ⟨_, List.getElem?_eq_getElem hlt⟩
  have hc0f : flat c0 = true := by
    have : ∀ {l : List PyData}, flats l = true → ∀ y ∈ l, flat y = true := fun {l} => by
      induction l with
      | nil => intro _ y hy; cases hy
      | cons z l ih =>
        intro h y hy
        simp only [flats, Bool.and_eq_true] at h
        rcases List.mem_cons.mp hy with rfl | hy
        · exact h.1
        · exact ih h.2 y hy
    exact this hcf c0 (List.mem_of_getElem? hc0)
  have new : Reads (s3.heap.update b' (Obj.mapSeq (·.setIfInBounds j2.toNat v))) (.ref b') (.list (cells.set j2.toNat d)) [b'] :=
    .list hl3 rfl rfl (by rw [Array.toList_setIfInBounds]; exact readsAll_set hrb2 hc0 hc0f r1')
  refine mut0 (d' := .list (rows.set j1.toNat (.list (cells.set j2.toNat d)))) FS S ((x1.trans x2).trans x3) e0 (by rw [hfp]; exact List.mem_cons_of_mem _ hb) hsb (Pl.of_isL hl3) ?_ hQ
  rw [hva, hfp]
  have hla : IsL (s3.heap.update b' (Obj.mapSeq (·.setIfInBounds j2.toNat v))) a vs n := (hsb.2 a (fun q => hab q.symm)).trans hl
  exact .list hla rfl rfl (readsAll_row hcf hsb.2 (isL_notTup hlb) new hr (List.nodup_cons.mp nd).2 hvb hrow)

end
end Mine

namespace Mine
open PySem PySem.Spec PySem.Calls PyProof.Rows

noncomputable def clOf (env : Env) : List (Str × NameKind) → List (Str × Addr) → List (Str × Addr)
  | [], acc => acc
  | (n, k) :: r, acc => if k == .free then clOf env r ((n, (env.cells.lookup n).getD 0) :: acc) else clOf env r acc

theorem closureFor_eq {scope : Scope} {env : Env} (h : ∀ x ∈ scope.names, x.2 = .free → ∃ a, env.cells.lookup x.1 = some a) : closureFor scope env = pure (clOf env scope.names []) := by
  simp only [closureFor]
  have key : ∀ (l : List (Str × NameKind)) (acc : List (Str × Addr)), (∀ x ∈ l, x.2 = .free → ∃ a, env.cells.lookup x.1 = some a) →
      (forIn l acc fun x (r : List (Str × Addr)) => if (x.2 == NameKind.free) = true then do let a ← cellOf env x.1; pure (ForInStep.yield ((x.1, a) :: r)) else pure (ForInStep.yield r) : Sem (List (Str × Addr))) = pure (clOf env l acc) := by
    intro l
    induction l with
    | nil => intro acc _; rfl
    | cons y l ih =>
      intro acc hy
      obtain ⟨n, kd⟩ := y
      rw [List.forIn_cons, clOf]
      by_cases hk : (kd == NameKind.free) = true
      · obtain ⟨a, ha⟩ := hy (n, kd) (List.mem_cons_self ..) (by simpa using hk)
        simp only at ha
        simp only [hk, if_true, cellOf, ha, pure_bind, Option.getD_some]
        exact ih _ fun x hx => hy x (List.mem_cons_of_mem _ hx)
      · simp only [hk, if_false, pure_bind, Bool.false_eq_true]
        exact ih _ fun x hx => hy x (List.mem_cons_of_mem _ hx)
  have := key scope.names [] h
  first
    | (rw [show (forIn scope.names ([] : List (Str × Addr)) _ : Sem _) = _ from this]; rfl)
    | (simp only [bind_pure]; exact this)
    | (simpa using this)

theorem clOf_lookup {env : Env} {x : Str} {a : Addr} (hx : env.cells.lookup x = some a) : ∀ (names : List (Str × NameKind)) (acc : List (Str × Addr)), ((x, NameKind.free) ∈ names ∨ acc.lookup x = some a) → (∀ b, acc.lookup x = some b → b = a) → (clOf env names acc).lookup x = some a
  | [], acc, h, _ => h.elim (fun q => by cases q) id
  | (n, k) :: r, acc, h, hc => by
    rw [clOf]
    by_cases hk : (k == NameKind.free) = true
    · rw [if_pos hk]
      by_cases hn : x = n
      · subst hn
        refine clOf_lookup hx r _ (.inr ?_) fun b q => ?_
        · rw [List.lookup_cons_self, hx]; rfl
        · rw [List.lookup_cons_self, hx] at q; cases q; rfl
      · have hb : (x == n) = false := beq_eq_false_iff_ne.mpr hn
        refine clOf_lookup hx r _ (h.imp (fun q => ?_) fun q => ?_) fun b q => ?_
        · rcases List.mem_cons.mp q with q | q
          · cases q; exact absurd rfl hn
          · exact q
        · rw [List.lookup_cons, hb]; exact q
        · rw [List.lookup_cons, hb] at q; exact hc b q
    · rw [if_neg hk]
      refine clOf_lookup hx r _ (h.imp (fun q => ?_) id) hc
      rcases List.mem_cons.mp q with q | q
      · cases q; exact absurd rfl hk
      · exact q
theorem clOf_sound {env : Env} {x : Str} {a : Addr} : ∀ (names : List (Str × NameKind)) (acc : List (Str × Addr)), (∀ y ∈ names, y.2 = .free → ∃ a, env.cells.lookup y.1 = some a) → (∀ b, acc.lookup x = some b → env.cells.lookup x = some b) → (clOf env names acc).lookup x = some a → env.cells.lookup x = some a
  | [], acc, _, h, e => h a e
  | (n, k) :: r, acc, hy, h, e => by
    rw [clOf] at e
    have hy' : ∀ y ∈ r, y.2 = .free → ∃ a, env.cells.lookup y.1 = some a := fun y q => hy y (List.mem_cons_of_mem _ q)
    by_cases hk : (k == NameKind.free) = true
    · rw [if_pos hk] at e
      refine clOf_sound r _ hy' (fun b q => ?_) e
      by_cases hn : x = n
      · subst hn
        rw [List.lookup_cons_self] at q
        obtain ⟨a', ha'⟩ := hy (x, k) (List.mem_cons_self ..) (by simpa using hk)
        simp only at ha'
        rw [ha'] at q ⊢; simpa using q
      · have hb : (x == n) = false := beq_eq_false_iff_ne.mpr hn
        rw [List.lookup_cons, hb] at q; exact h b q
    · rw [if_neg hk] at e
      exact clOf_sound r _ hy' h e
theorem cellsFrom_not {x : Str} : ∀ (names : List (Str × NameKind)) (n : Nat) (acc : List (Str × Addr)), (x, NameKind.cell) ∉ names → (cellsFrom n names acc).lookup x = acc.lookup x
  | [], _, _, _ => rfl
  | (y, k) :: r, n, acc, h => by
    rw [cellsFrom]
    have h' : (x, NameKind.cell) ∉ r := fun q => h (List.mem_cons_of_mem _ q)
    by_cases hk : (k == NameKind.cell) = true
    · rw [if_pos hk, cellsFrom_not r _ _ h']
      have hb : (x == y) = false := beq_eq_false_iff_ne.mpr fun q => h (by
        have : k = .cell := by simpa using hk
        rw [q, this]; exact List.mem_cons_self ..)
      rw [List.lookup_cons, hb]
    · rw [if_neg hk, cellsFrom_not r _ _ h']
theorem cellsFrom_own {x : Str} : ∀ (names : List (Str × NameKind)) (h : Heap) (acc : List (Str × Addr)), (x, NameKind.cell) ∈ names →
    ∃ a, (cellsFrom h.objs.size names acc).lookup x = some a ∧ (pushCells h names).IsCell a none ∧ h.get? a = none
  | [], _, _, h => by cases h
  | (y, k) :: r, h, acc, hm => by
    rw [cellsFrom, pushCells]
    by_cases hr : (x, NameKind.cell) ∈ r
    · by_cases hk : (k == NameKind.cell) = true
      · rw [if_pos hk, if_pos hk]
        obtain ⟨a, h1, h2, h3⟩ := cellsFrom_own r (h.push { cls := .type "cell", data := .cell none }) ((y, h.objs.size) :: acc) hr
        rw [Heap.size_push] at h1
        refine ⟨a, h1, h2, ?_⟩
        cases e : h.get? a with
        | none => rfl
        | some o => rw [Heap.get?_push_of_some _ e] at h3; cases h3
      · rw [if_neg hk, if_neg hk]; exact cellsFrom_own r h acc hr
    · rcases List.mem_cons.mp hm with q | q
      · cases q
        have hcc : (NameKind.cell == NameKind.cell) = true := by decide
        rw [if_pos hcc, if_pos hcc]
        refine ⟨h.objs.size, ?_, ?_, get_size_none h⟩
        · rw [cellsFrom_not r _ _ hr, List.lookup_cons_self]
        · exact ⟨_, pushCells_keeps r _ _ _ (Heap.get?_push_size _ rfl), rfl⟩
      · exact absurd q hr

theorem lookup_map {g : Str × NameKind → Str × NameKind} (h1 : ∀ p, (g p).1 = p.1) (h2 : ∀ p, (g p).2 = p.2 ∨ (p.2 = .free ∧ (g p).2 = .cell)) {x : Str} {k : NameKind} {names : List (Str × NameKind)} (h : names.lookup x = some k) :
    (names.map g).lookup x = some k ∨ (k = .free ∧ (names.map g).lookup x = some .cell) := by
  induction names with
  | nil => cases h
  | cons p r ih =>
    rw [List.map_cons, show (g p :: r.map g) = ((g p).1, (g p).2) :: r.map g from rfl, h1, List.lookup_cons]
    rw [show (p :: r) = (p.1, p.2) :: r from rfl, List.lookup_cons] at h
    cases hx : x == p.1 with
    | true =>
      rw [hx] at h
      cases h
      exact (h2 p).imp (fun e => congrArg some e) fun e => ⟨e.1, congrArg some e.2⟩
    | false => rw [hx] at h; exact ih h
theorem relabel_lookup {env : Env} {x : Str} {k : NameKind} {names : List (Str × NameKind)} (h : names.lookup x = some k) :
    ((names.map fun (n, k) => if (k == NameKind.free && env.scope.kind == .function && env.kindOf n == some .cell) then (n, NameKind.cell) else (n, k)).lookup x = some k) ∨
      (k = .free ∧ (names.map fun (n, k) => if (k == NameKind.free && env.scope.kind == .function && env.kindOf n == some .cell) then (n, NameKind.cell) else (n, k)).lookup x = some .cell) := by
  refine lookup_map (fun p => ?_) (fun p => ?_) h
  · dsimp only
    split <;> rfl
  · dsimp only
    split
    · rename_i hc
      exact .inr ⟨beq_iff_eq.mp (Bool.and_eq_true_iff.mp (Bool.and_eq_true_iff.mp hc).1).1, rfl⟩
    · exact .inl rfl

noncomputable def chEnv (scope : Scope) (C : Addr) (env : Env) : Env :=
  { scope := relabel scope env, locals := C, globals := env.globals, cells := cellsFrom (C + 1) scope.names (clOf env scope.names []), qual := env.qual, func := none, code := env.code, frame := env.frame, builtins := env.builtins }

theorem newEnv_comp {M : Model} {A : Around} {E : Value → Shared → Prop} {s : Shared} {scope : Scope} {env : Env} {cl : List (Str × Addr)} {Q : Env → Shared → Prop}
    (h : Q { scope := scope, locals := s.heap.objs.size, globals := env.globals, cells := cellsFrom (s.heap.objs.size + 1) scope.names cl, qual := env.qual, func := none, code := env.code, frame := env.frame, builtins := env.builtins }
      { s with heap := pushCells (s.heap.push { cls := .type "dict", data := .dict #[] }) scope.names }) :
    wpAny M A (newFunctionEnv scope env.globals cl [] env.qual none .none (some env)) Q E s := by
  simp only [newFunctionEnv, Option.isSome_some, if_true]
  refine wpAny_bind (wpAny_alloc ?_)
  refine wpAny_bind (wpAny_layCells _ (fun name kind cells => by cases hkc : kind == NameKind.cell <;> simp [hkc]) _ _ _ _ ?_)
  rw [show ({ s with heap := s.heap.push { cls := .type "dict", data := .dict #[] } } : Shared).heap.objs.size = s.heap.objs.size + 1 from Heap.size_push ..]
  simp only [List.forIn_nil]
  first
    | exact wpAny_bind (wpAny_pure (wpAny_pure h))
    | exact wpAny_pure (wpAny_pure h)
    | exact wpAny_pure h

/-- the frame of a comprehension: its own name, and those that it takes from around -/
noncomputable def chFm (f : Fm) (scope : Scope) (C : Addr) (x : Str) (cp : List Nat) : Fm := ⟨chEnv scope C f.env, f.A, f.h₀, x :: cp.map (fun j => f.xs.getD j default), f.lv⟩
noncomputable def chRho (ρ : Rho) (cp : List Nat) (sl : Slot) : Rho := some sl :: cp.map fun j => (ρ[j]?).join

structure CompOk (c : Cx) (f : Fm) (ρ : Rho) (scope : Scope) (x : Str) (cp : List Nat) : Prop where
  kind : scope.kind = .function
  names : ∀ y ∈ scope.names, y.2 = .local → scope.names.lookup y.1 = some .local
  loopv : scope.names.lookup x = some .local ∨ (scope.names.lookup x = some .cell ∧ (x, NameKind.cell) ∈ scope.names)
  free : ∀ y ∈ scope.names, y.2 = .free → ∃ a, f.env.cells.lookup y.1 = some a
  nd : cp.Nodup
  cap : ∀ j ∈ cp, ∃ y, f.xs[j]? = some y ∧ scope.names.lookup y = some .free ∧ (y, NameKind.free) ∈ scope.names ∧ (y, NameKind.cell) ∉ scope.names ∧ (f.env.kindOf y = some .cell ∨ f.env.kindOf y = some .free)

noncomputable def Ifs (c : Cx) (f : Fm) (ρ : Rho) (ifs : List Expr) (b : Bool) : Prop :=
  ∀ mo val fp s E, St c f ρ mo val fp s → wpAny c.M f.A (forIn ifs true fun c r => if r = true then do let ok ← isTrue c f.env (eval c f.env); pure (ForInStep.yield ok) else pure (ForInStep.yield r))
    (fun ok s' => ok = b ∧ Ext c s s') E s
theorem ifs_nil {c : Cx} {f : Fm} {ρ : Rho} : Ifs c f ρ [] true := fun mo val fp s E S => by
  rw [List.forIn_nil]; exact wpAny_pure ⟨rfl, Ext.refl S.wf⟩
theorem ifs_one {c : Cx} {f : Fm} {ρ : Rho} {e : Expr} {b : Bool} (h : Tst c f ρ e b) : Ifs c f ρ [e] b := fun mo val fp s E S => by
  rw [List.forIn_cons]
  simp only [if_true]
  refine wpAny_bind (wpAny_bind (h.bind S fun s' x S' => wpAny_pure ?_))
  simp only [List.forIn_nil]
  exact wpAny_pure ⟨rfl, x⟩

/-- the value that a comprehension's own name may have: how its slot is filled -/
inductive Fills3 : EK → List PyData → K → Prop
  | sh {ds : List PyData} : Fills3 .sh ds .sh
  | lo {ds : List PyData} : Fills3 .lo ds .lo
  | fr {ds : List PyData} : Fills3 .fr ds .lo
  | flat {k : EK} {ds : List PyData} {sk : K} : (∀ d ∈ ds, flat d = true) → sk ≠ .ow → Fills3 k ds sk
theorem Fills3.ne {k : EK} {ds : List PyData} {sk : K} (h : Fills3 k ds sk) : sk ≠ .ow := by cases h <;> first | assumption | (intro q; cases q)

theorem Wf.but {c : Cx} {s : Shared} {h' : Heap} {tk : Nat} {wr : List Addr} (W : Wf c s) (hk : ∀ b o, b ∉ wr → s.heap.get? b = some o → h'.get? b = some o) (hB : ∀ b ∈ wr, c.hB.get? b = none) (hX : ∀ b ∈ wr, ¬ c.X b) : Wf c { s with heap := h', toks := tk } where
  base := fun b o n e => hk b o (fun q => by rw [hB b q] at e; cases e) (W.base b o n e)
  tab := fun b x => let ⟨ps, e⟩ := W.tab b x; ⟨ps, hk b _ (fun q => hX b q x) e⟩
  old := oldK_but W.old hB hk
  gens := W.gens
  os := W.os

section
variable {c : Cx} {f : Fm} {ρ : Rho} {mo : Addr → Prop} {val : Nat → Value} {fp : Nat → List Addr} {s : Shared} {E : Value → Shared → Prop}

/-- the state of a comprehension's frame -/
theorem child_St {scope : Scope} {x : Str} {cp : List Nat} {C : Addr} {sk : K} {d : PyData} {v : Value} {bs : List Addr} {s' : Shared} (CO : CompOk c f ρ scope x cp) (S : St c f ρ mo val fp s) (x1 : Ext c s s')
    (hC : s.heap.get? C = none) (hns : ∃ m, s'.heap.Ns C m) (hown : ∀ y, (y, NameKind.cell) ∈ scope.names → ∀ a, (chEnv scope C f.env).cells.lookup y = some a → ∃ v, s'.heap.IsCell a v)
    (hld : Loads (chEnv scope C f.env) s'.heap x v) (r : Reads s'.heap v d bs) (hsk : sk ≠ .ow) (hbs : ∀ a ∈ bs, ¬ mo a) (hlo : sk = .lo → ∀ a ∈ bs, f.h₀.get? a = none) (hCb : C ∉ bs) :
    St c (chFm f scope C x cp) (chRho ρ cp ⟨sk, d⟩) mo (fun i => match i with | 0 => v | i + 1 => val (cp.getD i 0)) (fun i => match i with | 0 => bs | i + 1 => fp (cp.getD i 0)) s' := by
  have S' := S.ext x1
  have slot : ∀ i sl, (chRho ρ cp ⟨sk, d⟩)[i]? = some (some sl) → (i = 0 ∧ sl = ⟨sk, d⟩) ∨ ∃ i', i = i' + 1 ∧ ∃ j, cp[i']? = some j ∧ cp.getD i' 0 = j ∧ ρ[j]? = some (some sl) := fun i sl e => by
    cases i with
    | zero => simp [chRho] at e; exact .inl ⟨rfl, e.symm⟩
    | succ i =>
      refine .inr ⟨i, rfl, ?_⟩
      simp only [chRho, List.getElem?_cons_succ, List.getElem?_map] at e
      cases hj : cp[i]? with
      | none => rw [hj] at e; simp at e
      | some j =>
        rw [hj] at e
        simp only [Option.map_some, Option.some.injEq] at e
        refine ⟨j, rfl, by rw [List.getD_eq_getElem?_getD, hj]; rfl, ?_⟩
        cases hr : ρ[j]? with
        | none => rw [hr] at e; simp at e
        | some o => rw [hr] at e; simp at e; rw [e]
  refine ⟨x1.wf, ⟨?_, S.ok.glob, S.ok.bi, S.ok.room, S.ok.base⟩, S'.keep, hns, fun y a e => ?_, fun i sl e => ?_, fun i sl e ho => ?_, fun i sl e ho => ?_, fun i sl e hl => ?_, fun i j sl sl' hne e e' ho ho' => ?_, S'.moNew, S'.moPl, fun h => ?_, fun i sl e => ?_⟩
  · show (relabel scope f.env).kind = .function
    exact CO.kind
  · by_cases hy : (y, NameKind.cell) ∈ scope.names
    · exact hown y hy a e
    · have e' : (cellsFrom (C + 1) scope.names (clOf f.env scope.names [])).lookup y = some a := e
      rw [cellsFrom_not _ _ _ hy] at e'
      have := clOf_sound scope.names [] CO.free (fun b q => by simp at q) e'
      exact S'.cells y a this
  · rcases slot i sl e with ⟨rfl, rfl⟩ | ⟨i', rfl, j, h1, h2, h3⟩
    · exact ⟨x, rfl, hld, r⟩
    · obtain ⟨y, g1, g2, g3⟩ := S'.var j sl h3
      obtain ⟨y', q1, q2, q3, q4, q5⟩ := CO.cap j (List.mem_of_getElem? h1)
      obtain rfl : y' = y := by rw [q1] at g1; exact Option.some.inj g1
      refine ⟨y', ?_, ?_, by simp only [h2]; exact g3⟩
      · simp only [chFm, List.getElem?_cons_succ, List.getElem?_map, h1, Option.map_some, List.getD_eq_getElem?_getD, q1, Option.getD_some]
      · simp only [h2]
        rcases g2 with ⟨k1, _⟩ | ⟨k1, a, k2, k3⟩
        · rcases q5 with q5 | q5 <;> rw [k1] at q5 <;> cases q5
        · refine .inr ⟨?_, a, ?_, k3⟩
          · rcases relabel_lookup (env := f.env) q2 with h | ⟨_, h⟩
            · exact .inr h
            · exact .inl h
          · show (cellsFrom (C + 1) scope.names (clOf f.env scope.names [])).lookup y' = some a
            rw [cellsFrom_not _ _ _ q4]
            exact clOf_lookup k2 scope.names [] (.inl q3) (fun b q => by simp at q)
  · rcases slot i sl e with ⟨rfl, rfl⟩ | ⟨i', rfl, j, h1, h2, h3⟩
    · exact absurd ho hsk
    · simp only [h2]; exact S.own j sl h3 ho
  · rcases slot i sl e with ⟨rfl, rfl⟩ | ⟨i', rfl, j, h1, h2, h3⟩
    · exact hbs
    · simp only [h2]; exact S.shr j sl h3 ho
  · rcases slot i sl e with ⟨rfl, rfl⟩ | ⟨i', rfl, j, h1, h2, h3⟩
    · exact hlo hl
    · simp only [h2]; exact S.loc j sl h3 hl
  · rcases slot i sl e with ⟨rfl, rfl⟩ | ⟨i', rfl, ji, h1, h2, h3⟩ <;> rcases slot j sl' e' with ⟨rfl, rfl⟩ | ⟨j', rfl, jj, h1', h2', h3'⟩
    · exact absurd rfl hne
    · exact absurd ho hsk
    · exact absurd ho' hsk
    · simp only [h2, h2']
      refine S.apart ji jj sl sl' (fun q => hne ?_) h3 h3' ho ho'
      subst q
      have hl1 : i' < cp.length := (List.getElem?_eq_some_iff.mp h1).1
      rw [(List.getElem?_inj hl1 CO.nd).mp (h1.trans h1'.symm)]
  · obtain ⟨o, q, _⟩ := S.moIn C h; rw [hC] at q; cases q
  · rcases slot i sl e with ⟨rfl, rfl⟩ | ⟨i', rfl, j, h1, h2, h3⟩
    · exact hCb
    · simp only [h2]
      intro q
      obtain ⟨_, _, _, rj⟩ := S.var j sl h3
      obtain ⟨o, ho, _⟩ := reads_objs rj _ q
      have : s.heap.get? C = some o := ho
      rw [hC] at this; cases this

end
end Mine

namespace Mine
open PySem PySem.Spec PySem.Calls PyProof.Rows
/-! comprehensions: what stands at every time -/
noncomputable def AOk (s2 : Shared) (as0 : List Addr) (C D : Addr) (fr : Bool) (as : List Addr) (h : Heap) : Prop := (∀ a ∈ as, a ≠ D ∧ a ≠ C) ∧ (fr = true → as.Nodup ∧ ∀ a ∈ as, s2.heap.get? a = none ∧ Pl h a) ∧ (fr = false → ∀ a ∈ as, a ∈ as0)
structure CI (c : Cx) (s2 : Shared) (wr as0 : List Addr) (C D : Addr) (fr : Bool) (dat : PyData) (s' : Shared) : Prop where
  wf : Wf c s'
  kp : ∀ b o, b ∉ wr → ¬ c.X b → s2.heap.get? b = some o → s'.heap.get? b = some o
  th : ∀ b o, b ∉ wr → s2.heap.get? b = some o → ∃ o', s'.heap.get? b = some o'
  ns : ∃ m, s'.heap.Ns C m
  hDC : D ≠ C
  rd : ∃ as, Reads s'.heap (.ref D) dat (D :: as) ∧ Pl s'.heap D ∧ AOk s2 as0 C D fr as s'.heap
theorem ns_data {h : Heap} {C : Addr} (n : ∃ m, h.Ns C m) {o : Obj} (q : h.get? C = some o) : ∃ es ep, o.data = .dict es ep := by
  obtain ⟨m, o2, es, ep, ho, hd, _⟩ := n
  rw [q] at ho; cases ho; exact ⟨es, ep, hd⟩
theorem ns_keep {h h' : Heap} {C : Addr} {m : Str → Option Value} (n : h.Ns C m) (hk : ∀ o, h.get? C = some o → h'.get? C = some o) : h'.Ns C m := by
  obtain ⟨o, es, ep, ho, r⟩ := n
  exact ⟨o, es, ep, hk o ho, r⟩
section
variable {c : Cx} {s s2 s' s'' : Shared} {wr as0 : List Addr} {C D : Addr} {fr : Bool} {dat : PyData}
theorem CI.up (I : CI c s2 wr as0 C D fr dat s') (W : Wf c s'') (ws : Addr → Prop) (hk : ∀ b o, ¬ ws b → s'.heap.get? b = some o → s''.heap.get? b = some o) (hth : ∀ b o, c.X b → s'.heap.get? b = some o → ∃ o', s''.heap.get? b = some o')
    (hw : ∀ b, ws b → b ∈ wr ∨ c.X b ∨ s2.heap.get? b = none) (hns : ∃ m, s''.heap.Ns C m) (ho : ∀ b o, ws b → s'.heap.get? b = some o → (¬ ∃ vs n, o.data = .seq vs n) ∧ (b ≠ C → ¬ ListOrDict o)) : CI c s2 wr as0 C D fr dat s'' := by
  obtain ⟨as, r, pD, a1, a2, a3⟩ := I.rd
  have nl : ∀ b o, s'.heap.get? b = some o → ListOrDict o → b ≠ C → s''.heap.get? b = some o := fun b o q l hc => hk b o (fun w => (ho b o w q).2 hc l) q
  have plk : ∀ b, Pl s'.heap b → b ≠ C → Pl s''.heap b := fun b p hc => by
    obtain ⟨o, q, l, z⟩ := p
    exact ⟨o, nl b o q l hc, l, z⟩
  refine ⟨W, fun b o hb hX q => hk b o (fun w => (hw b w).elim hb fun w => w.elim hX fun w => by rw [w] at q; cases q) (I.kp b o hb hX q), fun b o hb q => ?_, hns, I.hDC, as, ?_, plk D pD I.hDC, a1, fun h => ⟨(a2 h).1, fun a ha => ⟨((a2 h).2 a ha).1, plk a ((a2 h).2 a ha).2 (a1 a ha).2⟩⟩, a3⟩
  · obtain ⟨o', q'⟩ := I.th b o hb q
    by_cases hX : c.X b
    · exact hth b o' hX q'
    · exact ⟨o', hk b o' (fun w => (hw b w).elim hb fun w => w.elim hX fun w => by rw [w] at q; cases q) q'⟩
  · refine reads_upon r (fun b hb o q _ => ?_) (fun b o q _ hd => hk b o (fun w => (ho b o w q).1 hd) q)
    obtain ⟨o', q', l⟩ := reads_objs r b hb
    rw [q] at q'; cases q'
    exact nl b o q l ((List.mem_cons.mp hb).elim (fun e => e ▸ I.hDC) fun hb => (a1 b hb).2)
theorem CI.ext (I : CI c s2 wr as0 C D fr dat s') (x : Ext c s' s'') : CI c s2 wr as0 C D fr dat s'' := by
  refine I.up x.wf c.X (fun b o h q => x.up.kp b o h q) (fun b o _ q => x.up.th b o q) (fun b h => .inr (.inl h)) ?_ fun b o hX q => ?_
  · obtain ⟨m, n⟩ := I.ns; exact ⟨m, Ns.ext I.wf x n⟩
  · obtain ⟨ps, q'⟩ := I.wf.tab b hX
    rw [q] at q'; cases q'
    have := fields_not (o := { cls := .none, data := .fields ps.1 }) rfl
    exact ⟨this.2, fun _ => this.1⟩
/-- a walk's step -/
theorem CI.soft {ws : List Addr} {h' : Heap} {tk : Nat} (I : CI c s2 wr as0 C D fr dat s') (hk : ∀ b o, b ∉ ws → s'.heap.get? b = some o → h'.get? b = some o) (hf : ∀ b ∈ ws, ∃ o vs, s'.heap.get? b = some o ∧ o.data = .fields vs) (hw : ∀ b ∈ ws, b ∈ wr ∨ s2.heap.get? b = none) (hB : ∀ b ∈ ws, c.hB.get? b = none) (hX : ∀ b ∈ ws, ¬ c.X b) :
    CI c s2 wr as0 C D fr dat { s' with heap := h', toks := tk } ∧ ∀ m, s'.heap.Ns C m → h'.Ns C m := by
  have hn : ∀ m, s'.heap.Ns C m → h'.Ns C m := fun m n => ns_keep n fun o q => hk C o (fun hb => by
    obtain ⟨o2, vs, g1, g2⟩ := hf C hb
    rw [q] at g1; cases g1
    obtain ⟨es, ep, g3⟩ := ns_data ⟨m, n⟩ q
    rw [g2] at g3; cases g3) q
  refine ⟨I.up (I.wf.but hk hB hX) (· ∈ ws) hk (fun b o x q => ⟨o, hk b o (fun hb => hX b hb x) q⟩) (fun b hb => (hw b hb).imp id .inr) ?_ fun b o hb q => ?_, hn⟩
  · obtain ⟨m, n⟩ := I.ns; exact ⟨m, hn m n⟩
  · obtain ⟨o2, vs, g1, g2⟩ := hf b hb
    rw [q] at g1; cases g1
    exact ⟨(fields_not g2).2, fun _ => (fields_not g2).1⟩
/-- a store into one place -/
theorem CI.but {pc : Addr} {h' : Heap} {tk : Nat} (I : CI c s2 wr as0 C D fr dat s') (hs : Heap.SameBut pc s'.heap h') (h2 : s2.heap.get? pc = none) (hB : c.hB.get? pc = none) (hX : ¬ c.X pc) (hns : ∃ m, h'.Ns C m) (ho : pc = C ∨ ∃ o v, s'.heap.get? pc = some o ∧ o.data = .cell v) :
    CI c s2 wr as0 C D fr dat { s' with heap := h', toks := tk } := by
  refine I.up (I.wf.sameBut hs hB hX) (· = pc) (fun b o h q => (hs.2 b h).trans q) (fun b o x q => ⟨o, (hs.2 b fun e => hX (e ▸ x)).trans q⟩) (fun b e => .inr (.inr (e ▸ h2))) hns fun b o e q => ?_
  subst e
  rcases ho with rfl | ⟨o2, v, g1, g2⟩
  · obtain ⟨es, ep, g3⟩ := ns_data I.ns q
    exact ⟨fun ⟨_, _, z⟩ => (by rw [g3] at z; cases z), fun z => absurd rfl z⟩
  · rw [q] at g1; cases g1
    exact ⟨fun ⟨_, _, z⟩ => (by rw [g2] at z; cases z), fun _ z => by rcases z with ⟨_, _, _, z⟩ | ⟨_, _, _, z⟩ <;> rw [g2] at z <;> cases z⟩
theorem CI.toExt (I : CI c s2 wr as0 C D fr dat s') (x2 : Ext c s s2) (hn : ∀ b ∈ wr, s.heap.get? b = none) : Ext c s s' :=
  ⟨⟨fun b o hX q => I.kp b o (fun hb => by rw [hn b hb] at q; cases q) hX (x2.up.kp b o hX q), fun b o q => by
      obtain ⟨o', q'⟩ := x2.up.th b o q
      exact I.th b o' (fun hb => by rw [hn b hb] at q; cases q) q'⟩, I.wf⟩
theorem CI.item {v : Value} {d : PyData} {bs : List Addr} (I : CI c s2 wr as0 C D fr dat s') (W2 : Wf c s2) (hf : ∀ b ∈ wr, ∃ o vs, s2.heap.get? b = some o ∧ o.data = .fields vs) (r : Reads s2.heap v d bs) : Reads s'.heap v d bs := by
  refine reads_upon r (fun a ha o q hpp => I.kp a o (fun hb => ?_) (not_tab W2 q (plainish_cls hpp)) q) (fun a o q hc hdd => I.kp a o (fun hb => ?_) (not_tab W2 q (by rw [hc]; nofun)) q)
  · obtain ⟨o2, vs, g3, g4⟩ := hf a hb
    obtain ⟨o1, g1, g2⟩ := reads_objs r a ha
    rw [q] at g3 g1; cases g3; cases g1
    exact (fields_not g4).1 g2
  · obtain ⟨o2, vs, g3, g4⟩ := hf a hb
    rw [q] at g3; cases g3
    exact (fields_not g4).2 hdd
/-- a change of the sum itself -/
theorem CI.sum {dat' : PyData} {h' : Heap} {tk : Nat} {as : List Addr} (I : CI c s2 wr as0 C D fr dat s') (hs : Heap.SameBut D s'.heap h') (h2 : s2.heap.get? D = none) (hB : c.hB.get? D = none) (r : Reads h' (.ref D) dat' (D :: as)) (p : Pl h' D) (a : AOk s2 as0 C D fr as h') : CI c s2 wr as0 C D fr dat' { s' with heap := h', toks := tk } := by
  obtain ⟨_, _, ⟨o, q, l, _⟩, _⟩ := I.rd
  have hX : ¬ c.X D := not_tab I.wf q (by rcases l with ⟨q, _⟩ | ⟨q, _⟩ <;> rw [q] <;> nofun)
  have hk : ∀ b o, b ≠ D → s'.heap.get? b = some o → h'.get? b = some o := fun b o hb q => (hs.2 b hb).trans q
  have n2 : ∀ b o, s2.heap.get? b = some o → b ≠ D := fun b o q e => by rw [e, h2] at q; cases q
  refine ⟨I.wf.sameBut hs hB hX, fun b o hb hX q => hk b o (n2 b o q) (I.kp b o hb hX q), fun b o hb q => ?_, ?_, I.hDC, as, r, p, a⟩
  · obtain ⟨o', q'⟩ := I.th b o hb q; exact ⟨o', hk b o' (n2 b o q) q'⟩
  · obtain ⟨m, n⟩ := I.ns; exact ⟨m, n.sameBut hs I.hDC.symm⟩
/-- list.append -/
theorem CI.push {A : Around} {E : Value → Shared → Prop} {s0 : Shared} {L : List PyData} {d : PyData} {w : Value} {cs : List Addr} {K : Value → Shared → Prop} (I0 : CI c s2 wr as0 C D fr (.list L) s0) (x : Ext c s0 s') (hL : L.length ≤ sizeLine) (r : Reads s'.heap w d cs) (h2 : s2.heap.get? D = none) (hB : c.hB.get? D = none)
    (hwr : ∀ b ∈ wr, ∃ o, s0.heap.get? b = some o) (hc1 : fr = true → cs.Nodup ∧ ∀ a ∈ cs, s0.heap.get? a = none ∧ Pl s'.heap a) (hc2 : fr = false → ∀ a ∈ cs, a ∈ as0 ∧ a ≠ D ∧ a ≠ C)
    (hK : ∀ v h7, CI c s2 wr as0 C D fr (.list (L ++ [d])) { s' with heap := h7 } → Heap.SameBut D s'.heap h7 → K v { s' with heap := h7 }) : wpAny c.M A (call (.builtin "list.append") [.ref D, w]) K E s' := by
  have I := I0.ext x
  obtain ⟨as, rd, pD, a1, a2, a3⟩ := I0.rd
  have rd' := x.reads I0.wf rd
  have pD' := pD.ext I0.wf x
  have nsC := I0.ns
  cases rd' with | list g1 g2 g3 g4 =>
  rename_i o vs n
  have l1 : IsL s'.heap D vs n := Pl.isL pD' g1 g2 g3
  refine wpAny_list_append_plain (hsz := by have := readsAll_length g4; rw [← Array.length_toList]; omega) ⟨n, l1⟩ fun h7 hl7 hs7 => ?_
  obtain ⟨m7, hl7⟩ := hl7
  have cne : ∀ a ∈ cs, a ≠ D ∧ a ≠ C := fun a ha => by
    cases fr with
    | false => exact (hc2 rfl a ha).2
    | true =>
      have h0 := ((hc1 rfl).2 a ha).1
      refine ⟨fun e => ?_, fun e => ?_⟩
      · obtain ⟨o, q, _⟩ := pD; rw [e, q] at h0; cases h0
      · obtain ⟨m, o, _, _, q, _⟩ := nsC; rw [e, q] at h0; cases h0
  have hDas : D ∉ as := fun q => (a1 D q).1 rfl
  have hk : ∀ b, b ≠ D → Pl s'.heap b → Pl h7 b := fun b hb p => by
    obtain ⟨o, q, z⟩ := p
    exact ⟨o, (hs7.2 b hb).trans q, z⟩
  refine hK _ h7 (I.sum (as := as ++ cs) (tk := s'.toks) hs7 h2 hB (.list hl7 rfl rfl ?_) (Pl.of_isL hl7) ⟨fun a ha => (List.mem_append.mp ha).elim (a1 a) (cne a), fun h => ?_, fun h a ha => (List.mem_append.mp ha).elim (a3 h a) fun ha => (hc2 h a ha).1⟩) hs7
  · rw [Array.toList_push]
    exact readsAll_snoc (readsAll_but hs7 (isL_notTup l1) hDas g4) (reads_but hs7 (isL_notTup l1) (fun q => (cne D q).1 rfl) r)
  · obtain ⟨n1, n2⟩ := a2 h
    obtain ⟨m1, m2⟩ := hc1 h
    refine ⟨List.nodup_append.mpr ⟨n1, m1, fun a ha b hb e => ?_⟩, fun a ha => ?_⟩
    · subst e
      obtain ⟨o, q, _⟩ := (n2 a ha).2
      rw [(m2 a hb).1] at q; cases q
    · rcases List.mem_append.mp ha with ha | ha
      · exact ⟨(n2 a ha).1, hk a (a1 a ha).1 ((n2 a ha).2.ext I0.wf x)⟩
      · refine ⟨?_, hk a (cne a ha).1 (m2 a ha).2⟩
        cases q : s2.heap.get? a with
        | none => rfl
        | some o =>
          have : ∃ o', s0.heap.get? a = some o' := by
            by_cases hb : a ∈ wr
            · exact hwr a hb
            · exact I0.th a o hb q
          obtain ⟨o', q'⟩ := this
          rw [(m2 a ha).1] at q'; cases q'
end
end Mine

namespace Mine
open PySem PySem.Spec PySem.Calls PyProof.Rows
section
variable {c : Cx} {f : Fm} {ρ : Rho} {mo : Addr → Prop} {val : Nat → Value} {fp : Nat → List Addr} {s : Shared} {E : Value → Shared → Prop}
noncomputable def Own (scope : Scope) (env : Env) (C D : Addr) (s2 s4 : Shared) : Prop := ∀ y, (y, NameKind.cell) ∈ scope.names → ∃ a, (chEnv scope C env).cells.lookup y = some a ∧ s4.heap.IsCell a none ∧ s2.heap.get? a = none ∧ a ≠ D ∧ a ≠ C
/-- the start of a comprehension: the iterator, the sum, the names of its own -/
theorem comp_open {node iter : Expr} {scope : Scope} {ds : List PyData} {k0 : EK} {fr : Bool} {dat0 : PyData} {oD : Obj} {newAcc : Sem Value} {RR : Value → Addr → Result → Shared → Prop} (h : It c f ρ iter ds k0) (S : St c f ρ mo val fp s)
    (hnew : ∀ (s : Shared) (K : Value → Shared → Prop), K (.ref s.heap.objs.size) { s with heap := s.heap.push oD } → wpAny c.M f.A newAcc K E s)
    (hrd : ∀ s2 : Shared, Wf c s2 → Reads (s2.heap.push oD) (.ref s2.heap.objs.size) dat0 [s2.heap.objs.size] ∧ Pl (s2.heap.push oD) s2.heap.objs.size)
    (hl : ∀ I Fp wr P Sx as0 s2 D C s4, Ext c s s2 → Itr c f mo fp s s2 ds k0 I Fp wr P Sx as0 → s2.heap.get? D = none → s2.heap.get? C = none → CI c s2 wr as0 C D fr dat0 s4 → Sx 0 s4.heap → s4.heap.Ns C (fun _ => none) → Own scope f.env C D s2 s4 →
      codeAny c.M f.A (.compLoop node 0 (.ref I) (.ref D) (chEnv scope C f.env)) (RR (.ref D) C) s4)
    (hst : ∀ {it acc : Value} {env : Env} {R : Result → Shared → Prop} {s : Shared}, codeAny c.M f.A (.compLoop node 0 it acc env) R s → wpAny c.M f.A (pyIter it) (fun it' s' => codeAny c.M f.A (.compLoop node 0 it' acc env) R s') (notedBy c.M f.A env fun x s' => R (.error x) s') s → codeAny c.M f.A (.compStart node 0 it acc env) R s) :
    wpAny c.M f.A (eval iter f.env) (fun xv s₁ => wpAny c.M f.A (pyIter xv) (fun it s₂ => wpAny c.M f.A newAcc (fun acc s₃ =>
      wpAny c.M f.A (newFunctionEnv scope f.env.globals (clOf f.env scope.names []) [] f.env.qual none .none (some f.env)) (fun cenv s₄ =>
        codeAny c.M f.A (.compStart node 0 it acc { cenv with scope := relabel scope f.env }) (RR acc cenv.locals) s₄) E s₃) E s₂) E s₁) E s := by
  refine wpAny_mono (h mo val fp s E S) (fun xv s1 h1 => wpAny_mono h1 (fun it s2 hi => ?_) fun _ _ z => z) fun _ _ z => z
  obtain ⟨x2, I, Fp, wr, P, Sx, as0, e, T⟩ := hi
  subst e
  have S2 := S.ext x2
  refine hnew s2 _ (newEnv_comp ?_)
  obtain ⟨r0, p0⟩ := hrd s2 S2.wf
  have hDs2 := get_size_none s2.heap
  have hk3 : ∀ b o, s2.heap.get? b = some o → (s2.heap.push oD).get? b = some o := fun b o e => Heap.get?_push_of_some _ e
  have hDin : ∃ o, (s2.heap.push oD).get? s2.heap.objs.size = some o := by obtain ⟨o, q, _⟩ := p0; exact ⟨o, q⟩
  have hsz : (s2.heap.push oD).objs.size = s2.heap.objs.size + 1 := Heap.size_push ..
  generalize s2.heap.objs.size = D at *
  generalize hH3 : s2.heap.push oD = H3 at *
  have hCs3 := get_size_none H3
  have nsN : (pushCells (H3.push { cls := .type "dict", data := .dict #[] }) scope.names).Ns H3.objs.size fun _ => none := (Heap.Ns.new H3 (.type "dict")).keeps (pushCells_keeps _ _)
  have cown : ∀ y, (y, NameKind.cell) ∈ scope.names → _ := fun y hy => cellsFrom_own scope.names (H3.push { cls := .type "dict", data := .dict #[] }) (clOf f.env scope.names []) hy
  have hk4 : ∀ b o, H3.get? b = some o → (pushCells (H3.push { cls := .type "dict", data := .dict #[] }) scope.names).get? b = some o := fun b o e => pushCells_keeps _ _ _ _ (Heap.get?_push_of_some _ e)
  have hn3 : ∀ b, (H3.push { cls := .type "dict", data := .dict #[] }).get? b = none → H3.get? b = none := fun b q => by
    cases z : H3.get? b with
    | none => rfl
    | some o => rw [Heap.get?_push_of_some _ z] at q; cases q
  rw [Heap.size_push] at cown
  generalize hC : H3.objs.size = C at *
  generalize pushCells (H3.push { cls := .type "dict", data := .dict #[] }) scope.names = H4 at *
  have hDC : D ≠ C := by rw [hsz]; exact Nat.ne_of_lt (Nat.lt_succ_self _)
  have non2 : ∀ b, H3.get? b = none → s2.heap.get? b = none := fun b q => by
    cases z : s2.heap.get? b with
    | none => rfl
    | some o => rw [hk3 b o z] at q; cases q
  have hk24 : ∀ b o, s2.heap.get? b = some o → H4.get? b = some o := fun b o e => hk4 b o (hk3 b o e)
  have CI0 : CI c s2 wr as0 C D fr dat0 { s2 with heap := H4 } := by
    refine ⟨(Ext.of S2.wf (s' := { s2 with heap := H4 }) hk24).wf, fun b o _ _ q => hk24 b o q, fun b o _ q => ⟨o, hk24 b o q⟩, ⟨_, nsN⟩, hDC, [], reads_upon r0 (fun b _ o q _ => hk4 b o q) (fun b o q _ _ => hk4 b o q), ?_, nofun, fun _ => ⟨.nil, nofun⟩, fun _ => nofun⟩
    obtain ⟨o, q, z⟩ := p0
    exact ⟨o, hk4 _ o q, z⟩
  have loop := hl I Fp wr P Sx as0 s2 D C { s2 with heap := H4 } x2 T hDs2 (non2 C hCs3) CI0 (T.walks.frame _ _ _ T.start fun b _ o q => hk24 b o q) nsN fun y hy => by
    obtain ⟨a, q1, q2, q3⟩ := cown y hy
    have n3 := hn3 a q3
    refine ⟨a, q1, q2, non2 a n3, ?_, ?_⟩
    · rintro rfl
      obtain ⟨o, z⟩ := hDin
      rw [n3] at z; cases z
    · rintro rfl
      obtain ⟨o, ho, hd⟩ := q2
      obtain ⟨o2, es, ep, ho2, hd2, _⟩ := nsN
      rw [ho] at ho2; cases ho2; rw [hd] at hd2; cases hd2
  exact hst loop (T.walks.self 0 _ _ _ (T.walks.frame _ _ _ T.start fun b _ o q => hk24 b o q) loop)
noncomputable abbrev ekOf (fr : Bool) : EK := match fr with | true => .fr | false => .us [0]
/-- a turn: the tests, the item, the append -/
theorem comp_turn {f' : Fm} {ρ' : Rho} {s2 s4 : Shared} {wr as0 : List Addr} {C D : Addr} {fr : Bool} {L : List PyData} {d : PyData} {q : Bool} {elt : Expr} {ifs : List Expr} {G : Shared → Prop} {N : Value → Shared → Prop} (CS : St c f' ρ' mo val fp s4) (I : CI c s2 wr as0 C D fr (.list L) s4) (hL : L.length ≤ sizeLine) (h2 : s2.heap.get? D = none) (hB : c.hB.get? D = none)
    (hwr : ∀ b ∈ wr, (∃ o, s4.heap.get? b = some o) ∧ ¬ c.X b) (ht : Ifs c f' ρ' ifs q) (he : q = true → Ev c f' ρ' elt d (ekOf fr)) (hu : fr = false → ∀ a ∈ fp 0, a ∈ as0 ∧ a ≠ D ∧ a ≠ C)
    (hG : ∀ s5, CI c s2 wr as0 C D fr (.list (L ++ if q = true then [d] else [])) s5 → (∀ b o, b ≠ D → ¬ c.X b → s4.heap.get? b = some o → s5.heap.get? b = some o) → G s5) :
    wpAny c.M f'.A (forIn ifs true fun e r => if r = true then do let ok ← isTrue e f'.env (eval e f'.env); pure (ForInStep.yield ok) else pure (ForInStep.yield r)) (fun ok s₃ =>
      if ok = true then wpAny c.M f'.A (eval elt f'.env) (fun x s₄ => wpAny c.M f'.A (call (.builtin "list.append") [.ref D, x]) (fun _ s₅ => G s₅) N s₄) N s₃ else G s₃) N s4 := by
  refine wpAny_mono (ht _ _ _ _ _ CS) (fun ok s5 h5 => ?_) fun _ _ z => z
  obtain ⟨rfl, x5⟩ := h5
  have I5 := I.ext x5
  cases ok with
  | false =>
    rw [if_neg Bool.false_ne_true]
    refine hG s5 ?_ fun b o _ hX q => x5.up.kp b o hX q
    rw [if_neg Bool.false_ne_true, List.append_nil]; exact I5
  | true =>
    rw [if_pos rfl]
    refine (he rfl).bind (CS.ext x5) fun w s6 cs x6 _ r6 ko6 => ?_
    refine I5.push x6 hL r6 h2 hB (fun b hb => ?_) (fun h => ?_) (fun h => ?_) fun v h7 I7 hs7 => hG _ (by rw [if_pos rfl]; exact I7) fun b o hb hX q => (hs7.2 b hb).trans (x6.up.kp b o hX (x5.up.kp b o hX q))
    · obtain ⟨⟨o, q⟩, hX⟩ := hwr b hb
      exact ⟨o, x5.up.kp b o hX q⟩
    · subst h; exact ⟨ko6.2.1, fun a ha => ⟨ko6.2.2.1 a ha, ko6.2.2.2 a ha⟩⟩
    · subst h
      have e : cs = fp 0 ++ [] := ko6.2
      rw [e, List.append_nil]; exact hu rfl
end
end Mine

namespace Mine
open PySem PySem.Spec PySem.Calls PyProof.Rows
section
variable {c : Cx} {f : Fm} {ρ : Rho} {mo : Addr → Prop} {val : Nat → Value} {fp : Nat → List Addr} {s : Shared} {E : Value → Shared → Prop}
noncomputable def CellsIn (scope : Scope) (env : Env) (C : Addr) (h : Heap) : Prop := ∀ y, (y, NameKind.cell) ∈ scope.names → ∀ a, (chEnv scope C env).cells.lookup y = some a → ∃ v, h.IsCell a v
theorem Fills3.okBs {k0 : EK} {ds : List PyData} {sk : K} {d : PyData} {bs as0 : List Addr} {s2 : Shared} {v : Value} (hk : Fills3 k0 ds sk) (S : St c f ρ mo val fp s) (ko : KOk f mo fp s.heap s2.heap k0 as0) (hbs : bs.Sublist as0) (hd : d ∈ ds) (r : Reads s2.heap v d bs) : (∀ a ∈ bs, ¬ mo a) ∧ (sk = .lo → ∀ a ∈ bs, f.h₀.get? a = none) := by
  cases hk with
  | sh => exact ⟨fun a ha => ko.2 a (hbs.subset ha), by nofun⟩
  | lo => exact ⟨fun a ha => (ko.2 a (hbs.subset ha)).1, fun _ a ha => (ko.2 a (hbs.subset ha)).2⟩
  | fr => exact ⟨fun a ha => ((KOk.fr_lo S ko).2 a (hbs.subset ha)).1, fun _ a ha => ((KOk.fr_lo S ko).2 a (hbs.subset ha)).2⟩
  | flat hf _ => rw [reads_flat r (hf d hd)]; exact ⟨nofun, fun _ => nofun⟩
theorem comp_coreK {elt iter : Expr} {x : Str} {xp : Pos} {ifs : List Expr} {scope : Scope} {pos : Pos} {cp : List Nat} {α : Type} {enc : α → PyData} {xs : List α} {k0 : EK} {sk : K} {p : α → Bool} {g : α → PyData} {fr : Bool}
    (CO : CompOk c f ρ scope x cp) (h : It c f ρ iter (xs.map enc) k0) (hk : Fills3 k0 (xs.map enc) sk) (hsz : xs.length ≤ sizeLine)
    (ht : ∀ C, ∀ el ∈ xs, Ifs c (chFm f scope C x cp) (chRho ρ cp ⟨sk, enc el⟩) ifs (p el))
    (he : ∀ C, ∀ el ∈ xs, p el = true → Ev c (chFm f scope C x cp) (chRho ρ cp ⟨sk, enc el⟩) elt (g el) (ekOf fr))
    {RR : Value → Addr → Result → Shared → Prop} (S : St c f ρ mo val fp s)
    (hRR : ∀ D C s' as s2 as0, Ext c s s' → s.heap.get? D = none → s.heap.get? C = none → D ≠ C → (∃ m, s'.heap.Ns C m) → Reads s'.heap (.ref D) (.list ((xs.filter p).map g)) (D :: as) → Pl s'.heap D → Ext c s s2 → KOk f mo fp s.heap s2.heap k0 as0 → AOk s2 as0 C D fr as s'.heap → RR (.ref D) C (.ok .next) s') :
    wpAny c.M f.A (eval iter f.env) (fun xv s₁ => wpAny c.M f.A (pyIter xv) (fun it s₂ => wpAny c.M f.A (newList []) (fun acc s₃ =>
      wpAny c.M f.A (newFunctionEnv scope f.env.globals (clOf f.env scope.names []) [] f.env.qual none .none (some f.env)) (fun cenv s₄ =>
        codeAny c.M f.A (.compStart (.ListComp elt [⟨.Name x xp, iter, ifs, 0⟩] scope pos) 0 it acc { cenv with scope := relabel scope f.env }) (RR acc cenv.locals) s₄) E s₃) E s₂) E s₁) E s := by
  refine comp_open (dat0 := .list []) (fr := fr) h S (fun s K hK => wpAny_newList hK (by simp)) (fun s2 W => ⟨.list (Heap.get?_push_size _ rfl) rfl rfl .nil, ⟨_, Heap.get?_push_size _ rfl, .inl ⟨rfl, _, _, rfl⟩, rfl, rfl⟩⟩) ?_ (fun h0 h1 => codeAny_compStart_list h0 h1)
  intro I Fp wr P Sx as0 s2 D C s4 x2 T hDs2 hCs2 I0 hSx0 ns0 own
  have hW := T.walks
  rw [List.length_map] at hW
  have S2 := S.ext x2
  have nB : ∀ b, s.heap.get? b = none → c.hB.get? b = none := fun b q => S.ok.base.none (S.keep.none q)
  have wrX : ∀ b ∈ wr, ¬ c.X b := fun b hb => T.nX b (hW.sub b hb)
  have soft : ∀ {j dat s' h3 tk}, CI c s2 wr as0 C D fr dat s' → Sx j s'.heap → (∀ b o, b ∉ wr → s'.heap.get? b = some o → h3.get? b = some o) → CI c s2 wr as0 C D fr dat { s' with heap := h3, toks := tk } ∧ ∀ m, s'.heap.Ns C m → h3.Ns C m := fun hI hSx hk3 =>
    hI.soft hk3 (T.fld _ _ hSx) (fun b hb => .inl hb) (fun b hb => nB b (T.new b hb)) wrX
  refine codeAny_compLoop_tests (fun n s' => ∃ j, j ≤ xs.length ∧ n = xs.length + 1 - j ∧ CI c s2 wr as0 C D fr (.list (((xs.take j).filter p).map g)) s' ∧ Sx j s'.heap ∧ CellsIn scope f.env C s'.heap) ?_ (xs.length + 1)
    ⟨0, Nat.zero_le _, rfl, I0, hSx0, fun y hy a q => by obtain ⟨a', q1, q2, _⟩ := own y hy; rw [q] at q1; cases q1; exact ⟨_, q2⟩⟩
  intro n s' h
  refine cps fun G K => ?_
  obtain ⟨j, hj, e, hI, hSx, hcl⟩ := h
  refine K ?_
  clear K
  subst e
  by_cases hlt : j < xs.length
  · refine hW.item j s' _ _ hlt hSx fun v h3 tk hP hSx3 hk3 => ?_
    refine cps fun G K => ?_
    obtain ⟨el, hel⟩ : ∃ el, xs[j]? = some el := ⟨_, List.getElem?_eq_getElem hlt⟩
    have hdm := List.mem_of_getElem? hel
    obtain ⟨bs, hbs, r2⟩ := T.val j v (enc el) hP (by rw [List.getElem?_map, hel]; rfl)
    have okBs := hk.okBs S T.ok hbs (List.mem_map_of_mem hdm) r2
    obtain ⟨I3, n3⟩ := soft (tk := tk) hI hSx hk3
    obtain ⟨mC, hmC⟩ := hI.ns
    have ns3 := n3 mC hmC
    refine K ?_
    clear K
    have cl3 : CellsIn scope f.env C h3 := fun y hy a q => by
      obtain ⟨v, o, ho, hd⟩ := hcl y hy a q
      refine ⟨v, o, hk3 a o (fun hb => ?_) ho, hd⟩
      obtain ⟨o2, vs, g1, g2⟩ := T.fld j _ hSx a hb
      rw [ho] at g1; cases g1; rw [hd] at g2; cases g2
    have in2 : ∀ a ∈ bs, ∃ o, s2.heap.get? a = some o := fun a ha => by obtain ⟨o, q, _⟩ := T.asIn a (hbs.subset ha); exact ⟨o, q⟩
    have bsne : ∀ a ∈ bs, a ≠ D ∧ a ≠ C := fun a ha => by
      obtain ⟨o, q⟩ := in2 a ha
      exact ⟨fun e => (by rw [e, hDs2] at q; cases q), fun e => (by rw [e, hCs2] at q; cases q)⟩
    have eL : ((xs.take (j + 1)).filter p).map g = ((xs.take j).filter p).map g ++ if p el = true then [g el] else [] := by
      rw [List.take_add_one, hel, Option.toList_some, List.filter_append, List.map_append, List.filter_cons]
      split <;> rfl
    have after : ∀ pc h4 tk4, (pc = C ∨ ((x, NameKind.cell) ∈ scope.names ∧ (chEnv scope C f.env).cells.lookup x = some pc)) → Heap.SameBut pc h3 h4 → (∃ m, h4.Ns C m) → CellsIn scope f.env C h4 → Loads (chEnv scope C f.env) h4 x v → ∀ (G : Shared → Prop) (N : Value → Shared → Prop),
        (∀ s5, CI c s2 wr as0 C D fr (.list (((xs.take (j + 1)).filter p).map g)) s5 → Sx (j + 1) s5.heap → CellsIn scope f.env C s5.heap → G s5) →
        wpAny c.M f.A (forIn ifs true fun e r => if r = true then do let ok ← isTrue e (chEnv scope C f.env) (eval e (chEnv scope C f.env)); pure (ForInStep.yield ok) else pure (ForInStep.yield r)) (fun ok s₃ =>
          if ok = true then wpAny c.M f.A (eval elt (chEnv scope C f.env)) (fun x s₄ => wpAny c.M f.A (call (.builtin "list.append") [.ref D, x]) (fun _ s₅ => G s₅) N s₄) N s₃ else G s₃) N { s' with heap := h4, toks := tk4 } := by
      intro pc h4 tk4 hpc hsb hn4 cl4 ld4 G N hG
      have pc2 : s2.heap.get? pc = none := by
        rcases hpc with rfl | ⟨hx, hl⟩
        · exact hCs2
        · obtain ⟨a, q1, _, q3, _⟩ := own x hx; rw [hl] at q1; cases q1; exact q3
      have pcO : pc = C ∨ ∃ o v, ({ s' with heap := h3, toks := tk } : Shared).heap.get? pc = some o ∧ o.data = .cell v := hpc.imp id fun h => by
        obtain ⟨v0, o, ho, hd⟩ := cl3 x h.1 pc h.2
        exact ⟨o, v0, ho, hd⟩
      have pcX : ¬ c.X pc := fun hX => by
        obtain ⟨ps, q⟩ := I3.wf.tab pc hX
        rcases pcO with rfl | ⟨o, v0, ho, hd⟩
        · obtain ⟨es, ep, z⟩ := ns_data ⟨_, ns3⟩ q; cases z
        · rw [q] at ho; cases ho; cases hd
      have I4 : CI c s2 wr as0 C D fr (.list (((xs.take j).filter p).map g)) { s' with heap := h4, toks := tk4 } := I3.but (s' := { s' with heap := h3, toks := tk }) hsb pc2 (nB pc (x2.up.none pc2)) pcX hn4 pcO
      have FpC : ∀ b ∈ Fp, b ≠ pc := fun b hb e => by obtain ⟨o, q⟩ := T.inH b hb; rw [e, pc2] at q; cases q
      have FpD : ∀ b ∈ Fp, b ≠ D := fun b hb e => by obtain ⟨o, q⟩ := T.inH b hb; rw [e, hDs2] at q; cases q
      have hSx4 : Sx (j + 1) h4 := hW.frame _ _ _ hSx3 fun b hb o q => (hsb.2 b (FpC b hb)).trans q
      have CS := child_St (sk := sk) CO S (I4.toExt x2 T.new) (x2.up.none hCs2) hn4 cl4 ld4 (I4.item S2.wf (T.fld 0 s2.heap T.start) r2) hk.ne okBs.1 okBs.2 fun q => (bsne C q).2 rfl
      refine comp_turn CS I4 ?_ hDs2 (nB D (x2.up.none hDs2)) (fun b hb => ⟨?_, wrX b hb⟩) (ht C el hdm) (he C el hdm) (fun _ a ha => ⟨hbs.subset ha, bsne a ha⟩) fun s5 I5 k5 => hG s5 (eL ▸ I5) (hW.frame _ _ _ hSx4 fun b hb o q => k5 b o (FpD b hb) (T.nX b hb) q) fun y hy a q => ?_
      · rw [List.length_map]
        exact Nat.le_trans (List.length_filter_le ..) (Nat.le_trans (by rw [List.length_take]; exact Nat.min_le_right _ _) hsz)
      · obtain ⟨o, vs, q, _⟩ := T.fld (j + 1) h4 hSx4 b hb; exact ⟨o, q⟩
      · obtain ⟨v0, o, ho, hd⟩ := cl4 y hy a q
        obtain ⟨a', q1, _, _, q4, _⟩ := own y hy
        rw [q] at q1; cases q1
        exact ⟨v0, o, k5 a o q4 (fun hX => by obtain ⟨ps, z⟩ := I4.wf.tab a hX; rw [show ({ s' with heap := h4, toks := tk4 } : Shared).heap.get? a = some o from ho] at z; cases z; cases hd) ho, hd⟩
    have fin : ∀ s5, CI c s2 wr as0 C D fr (.list (((xs.take (j + 1)).filter p).map g)) s5 → Sx (j + 1) s5.heap → CellsIn scope f.env C s5.heap → ∃ m, m < xs.length + 1 - j ∧ ∃ j, j ≤ xs.length ∧ m = xs.length + 1 - j ∧ CI c s2 wr as0 C D fr (.list (((xs.take j).filter p).map g)) s5 ∧ Sx j s5.heap ∧ CellsIn scope f.env C s5.heap :=
      fun s5 i1 i2 i3 => ⟨_, Nat.sub_lt_sub_left (Nat.lt_succ_of_lt hlt) (Nat.lt_succ_self j), j + 1, hlt, rfl, i1, i2, i3⟩
    rcases CO.loopv with hxl | ⟨hxl, hxm⟩
    · have hkl : (chEnv scope C f.env).kindOf x = some .local := lookup_relabel_local hxl
      refine wpAny_assign_Name (wpAny_storeName_local hkl ns3 (fun h4 hn4 hs4 => ?_) (by show ((relabel scope f.env).kind == .class || ((relabel scope f.env).kind == .module && _)) = false; rw [show (relabel scope f.env).kind = .function from CO.kind]; rfl))
      refine after C h4 _ (.inl rfl) hs4 ⟨_, hn4⟩ (fun y hy a q => ?_) (.inl ⟨hkl, _, hn4, by simp⟩) _ _ fin
      obtain ⟨v0, n0⟩ := cl3 y hy a q
      obtain ⟨a', q1, _, _, _, q5⟩ := own y hy
      rw [q] at q1; cases q1
      exact ⟨v0, n0.sameBut hs4 q5⟩
    · have hkl : (chEnv scope C f.env).kindOf x = some .cell := by
        rcases relabel_lookup (env := f.env) hxl with h | ⟨_, h⟩ <;> exact h
      obtain ⟨a, q1, _, _, q4, q5⟩ := own x hxm
      obtain ⟨v0, n0⟩ := cl3 x hxm a q1
      refine wpAny_assign_Name (wpAny_storeName_cell (show (relabel scope f.env).kind = .function from CO.kind) hkl q1 n0 fun h4 hv4 hs4 => ?_)
      refine after a h4 _ (.inr ⟨hxm, q1⟩) hs4 ⟨_, ns3.sameBut hs4 q5.symm⟩ (fun y hy b q => ?_) (.inr ⟨.inl hkl, a, q1, hv4⟩) _ _ fin
      by_cases hb : b = a
      · subst hb; exact ⟨_, hv4⟩
      · obtain ⟨v1, n1⟩ := cl3 y hy b q
        exact ⟨v1, n1.sameBut hs4 hb⟩
  · have hj' : j = xs.length := Nat.le_antisymm hj (Nat.le_of_not_lt hlt)
    subst hj'
    refine hW.done s' _ _ hSx fun h3 tk hk3 => ?_
    have I3 := (soft (tk := tk) hI hSx hk3).1
    rw [List.take_length] at I3
    exact I3.rd.elim fun as h => hRR D C _ as s2 as0 (I3.toExt x2 T.new) (x2.up.none hDs2) (x2.up.none hCs2) I3.hDC I3.ns h.1 h.2.1 x2 T.ok h.2.2
theorem comp_core {elt iter : Expr} {x : Str} {xp : Pos} {ifs : List Expr} {scope : Scope} {pos : Pos} {cp : List Nat} {α : Type} {enc : α → PyData} {xs : List α} {k0 : EK} {sk : K} {p : α → Bool} {g : α → PyData}
    (CO : CompOk c f ρ scope x cp) (h : It c f ρ iter (xs.map enc) k0) (hk : Fills3 k0 (xs.map enc) sk) (hsz : xs.length ≤ sizeLine)
    (ht : ∀ C, ∀ el ∈ xs, Ifs c (chFm f scope C x cp) (chRho ρ cp ⟨sk, enc el⟩) ifs (p el))
    (he : ∀ C, ∀ el ∈ xs, p el = true → Ev c (chFm f scope C x cp) (chRho ρ cp ⟨sk, enc el⟩) elt (g el) .fr)
    {RR : Value → Addr → Result → Shared → Prop} (S : St c f ρ mo val fp s)
    (hRR : ∀ D C s' as, Ext c s s' → s.heap.get? D = none → s.heap.get? C = none → D ≠ C → (∃ m, s'.heap.Ns C m) → Reads s'.heap (.ref D) (.list ((xs.filter p).map g)) (D :: as) → (D :: as).Nodup → (∀ a ∈ D :: as, s.heap.get? a = none) → (∀ a ∈ D :: as, Pl s'.heap a) → C ∉ as →
      RR (.ref D) C (.ok .next) s') :
    wpAny c.M f.A (eval iter f.env) (fun xv s₁ => wpAny c.M f.A (pyIter xv) (fun it s₂ => wpAny c.M f.A (newList []) (fun acc s₃ =>
      wpAny c.M f.A (newFunctionEnv scope f.env.globals (clOf f.env scope.names []) [] f.env.qual none .none (some f.env)) (fun cenv s₄ =>
        codeAny c.M f.A (.compStart (.ListComp elt [⟨.Name x xp, iter, ifs, 0⟩] scope pos) 0 it acc { cenv with scope := relabel scope f.env }) (RR acc cenv.locals) s₄) E s₃) E s₂) E s₁) E s :=
  comp_coreK (fr := true) CO h hk hsz ht he S fun D C s' as s2 as0 x1 hD hC hDC hn r pD x2 ko a => hRR D C s' as x1 hD hC hDC hn r (List.nodup_cons.mpr ⟨fun q => (a.1 D q).1 rfl, (a.2.1 rfl).1⟩) (fun b hb => (List.mem_cons.mp hb).elim (fun e => e ▸ hD) fun hb => x2.up.none ((a.2.1 rfl).2 b hb).1) (fun b hb => (List.mem_cons.mp hb).elim (fun e => e ▸ pD) fun hb => ((a.2.1 rfl).2 b hb).2) fun q => (a.1 C q).2 rfl

theorem ns_notSeq {h : Heap} {C : Addr} {m : Str → Option Value} (n : h.Ns C m) {o : Obj} (q : h.get? C = some o) : ¬ ∃ vs n, o.data = .seq vs n := by
  obtain ⟨o2, es, ep, ho, hd, _⟩ := n
  rw [q] at ho; cases ho
  rintro ⟨vs, n, h⟩; rw [hd] at h; cases h

theorem ev_comp {elt iter : Expr} {x : Str} {xp : Pos} {ifs : List Expr} {scope : Scope} {pos : Pos} {cp : List Nat} {α : Type} {enc : α → PyData} {xs : List α} {k0 : EK} {sk : K} {p : α → Bool} {g : α → PyData}
    (CO : CompOk c f ρ scope x cp) (h : It c f ρ iter (xs.map enc) k0) (hk : Fills3 k0 (xs.map enc) sk) (hsz : xs.length ≤ sizeLine)
    (ht : ∀ C, ∀ el ∈ xs, Ifs c (chFm f scope C x cp) (chRho ρ cp ⟨sk, enc el⟩) ifs (p el))
    (he : ∀ C, ∀ el ∈ xs, p el = true → Ev c (chFm f scope C x cp) (chRho ρ cp ⟨sk, enc el⟩) elt (g el) .fr)
    (hs : ∀ env x, foldedSetIterable iter env x = pure x := by intro _ _; rfl) :
    Ev c f ρ (.ListComp elt [⟨.Name x xp, iter, ifs, 0⟩] scope pos) (.list ((xs.filter p).map g)) .fr := fun mo val fp s E S => by
  rw [eval_ListComp]
  refine wpAny_comprehension_free (use := none) rfl (hs _) (closureFor_eq CO.free) CO.kind CO.names (comp_core (RR := fun acc C => compPost c.M f.A E none _ acc C) CO h hk hsz ht he S ?_)
  intro D C s' as x1 hD hC hDC hns r nd fr pl hCas
  obtain ⟨m, hm⟩ := hns
  refine ⟨m, hm, fun h' hs' => ?_⟩
  have hCD : C ∉ D :: as := fun q => (List.mem_cons.mp q).elim (fun h => hDC h.symm) hCas
  have hX : ¬ c.X C := fun hx => by
    obtain ⟨ps, q⟩ := x1.wf.tab C hx
    obtain ⟨o, es, ep, ho, hd, _⟩ := hm
    rw [q] at ho; cases ho; cases hd
  refine ⟨⟨⟨fun b o hXb q => (hs'.2 b fun h => by rw [h, hC] at q; cases q).trans (x1.up.kp b o hXb q), fun b o q => by
      obtain ⟨o', q'⟩ := x1.up.th b o q
      exact ⟨o', (hs'.2 b fun h => by rw [h, hC] at q; cases q).trans q'⟩⟩, x1.wf.sameBut hs' (S.ok.base.none (S.keep.none hC)) hX⟩, D :: as, ?_, frOk S nd fr fun a ha => ?_⟩
  · exact reads_upon r (fun b hb o q _ => (hs'.2 b fun h => hCD (h ▸ hb)).trans q) (fun b o q _ hdd => (hs'.2 b fun h => ns_notSeq hm (h ▸ q) hdd).trans q)
  · obtain ⟨o, q, r⟩ := pl a ha
    exact ⟨o, (hs'.2 a fun h => hCD (h ▸ ha)).trans q, r⟩

/-- x = [..]: the store comes ahead of the comprehension's end -/
theorem ex_assign_comp {elt iter : Expr} {x y : Str} {xp yp : Pos} {ifs : List Expr} {scope : Scope} {pos spos : Pos} {cp : List Nat} {α : Type} {enc : α → PyData} {xs : List α} {k0 : EK} {sk : K} {p : α → Bool} {g : α → PyData} {i : Nat} {Q : Fl → Rho → Prop}
    (FS : FmS c f) (hy : f.xs[i]? = some y) (hi : i < ρ.length) (CO : CompOk c f ρ scope x cp) (h : It c f ρ iter (xs.map enc) k0) (hk : Fills3 k0 (xs.map enc) sk) (hsz : xs.length ≤ sizeLine)
    (ht : ∀ C, ∀ el ∈ xs, Ifs c (chFm f scope C x cp) (chRho ρ cp ⟨sk, enc el⟩) ifs (p el))
    (he : ∀ C, ∀ el ∈ xs, p el = true → Ev c (chFm f scope C x cp) (chRho ρ cp ⟨sk, enc el⟩) elt (g el) .fr)
    (hsw : swapsWith (.ListComp elt [⟨.Name x xp, iter, ifs, 0⟩] scope pos) (some (.Name y yp)) spos.line f.env = pure true)
    (hQ : Q .next (ρ.set i (some ⟨.ow, .list ((xs.filter p).map g)⟩)))
    (hs : ∀ env x, foldedSetIterable iter env x = pure x := by intro _ _; rfl) :
    Ex1 c f (.Assign [.Name y yp] (.ListComp elt [⟨.Name x xp, iter, ifs, 0⟩] scope pos) spos) ρ Q := fun mo val fp s S => by
  rw [exec_Assign_Name_used _ _ _ _ hsw]
  refine wpAny_bind (wpAny_standAt (wpAny_bind ?_))
  show wpAny _ f.A (do let _ ← comprehension (.ListComp elt [⟨.Name x xp, iter, ifs, 0⟩] scope pos) scope f.env _ (newList []) false (eval iter f.env) (some (assign (.Name y yp) f.env))) _ _ s
  refine wpAny_bind (wpAny_mono (wpAny_comprehension_free (use := some (assign (.Name y yp) f.env)) (Q := fun _ s' => Post c f mo s Q .next s') rfl (hs _) (closureFor_eq CO.free) CO.kind CO.names
    (comp_core (RR := fun acc C => compPost c.M f.A _ (some (assign (.Name y yp) f.env)) _ acc C) CO h hk hsz ht he S ?_)) (fun _ s' hq => wpAny_pure (wpAny_pure hq)) fun _ _ z => z)
  intro D C s' as x1 hD hC hDC hns r nd fr pl hCas
  obtain ⟨m, hm⟩ := hns
  have S1 := S.ext x1
  have hCD : C ∉ D :: as := fun q => (List.mem_cons.mp q).elim (fun h => hDC h.symm) hCas
  have fpIn : ∀ j sl, ρ[j]? = some (some sl) → ∀ a ∈ fp j, ∃ o, s.heap.get? a = some o := fun j sl e a ha => by
    obtain ⟨_, _, _, r⟩ := S.var j sl e
    obtain ⟨o, ho, _⟩ := reads_objs r a ha; exact ⟨o, ho⟩
  have hCL : C ≠ f.env.locals := fun q => by obtain ⟨_, o, _, _, ho, _⟩ := S.ns; rw [← q, hC] at ho; cases ho
  have hCP : ¬ Pv f C := fun hp => by obtain ⟨o, q, _⟩ := pv_obj S hp; rw [hC] at q; cases q
  have hL : f.env.locals ∉ D :: as := fun q => by obtain ⟨_, o, _, _, ho, _⟩ := S.ns; rw [fr _ q] at ho; cases ho
  have hX : ¬ c.X C := fun hx => by
    obtain ⟨ps, q⟩ := x1.wf.tab C hx
    obtain ⟨o, es, ep, ho, hd, _⟩ := hm
    rw [q] at ho; cases ho; cases hd
  show wpAny c.M f.A (assign (.Name y yp) f.env (.ref D)) _ _ _
  refine wpAny_assign_Name (store_step (sl := ⟨.ow, .list ((xs.filter p).map g)⟩) FS S1 hy hi r hL ?_ fun s2 S2 hk2 th2 => ?_)
  · refine ⟨nd, fun a ha => ⟨fun hm => ?_, S.keep.none (fr a ha)⟩, fun j sl _ e a ha q => ?_, pl⟩
    · obtain ⟨o, q, _⟩ := S.moIn a hm; rw [fr a ha] at q; cases q
    · obtain ⟨o, q'⟩ := fpIn j sl e a ha; rw [fr a q] at q'; cases q'
  · obtain ⟨oC, esC, epC, hoC, hdC, rC⟩ := hm
    have hoC2 := hk2 C oC hCP hoC
    refine ⟨m, ⟨oC, esC, epC, hoC2, hdC, rC⟩, fun h' hs' => ?_⟩
    have nm : (C : Addr) ∉ D :: as := hCD
    have notSeq : ∀ {b o}, s2.heap.get? b = some o → (∃ vs n, o.data = .seq vs n) → b ≠ C := fun {b o} q hd h => by
      rw [h, hoC2] at q; cases q; obtain ⟨_, _, hd⟩ := hd; rw [hdC] at hd; cases hd
    have mo2 : ∀ a, moWith mo .ow (D :: as) a → a ≠ C := fun a ha h => by
      rcases ha with ha | ⟨_, ha⟩
      · obtain ⟨o, q, _⟩ := S.moIn a ha; rw [h, hC] at q; cases q
      · exact hCD (h ▸ ha)
    have fp2 : ∀ j sl, (ρ.set i (some ⟨.ow, .list ((xs.filter p).map g)⟩))[j]? = some (some sl) → C ∉ upd fp i (D :: as) j := fun j sl e => by
      by_cases hj : j = i
      · subst hj; rw [upd_self]; exact hCD
      · rw [upd_ne _ _ _ hj]
        rw [List.getElem?_set, if_neg (fun q => hj q.symm)] at e
        intro q; obtain ⟨o, q'⟩ := fpIn j sl e C q; rw [hC] at q'; cases q'
    have keep' : ∀ b o, b ≠ C → s2.heap.get? b = some o → h'.get? b = some o := fun b o hb q => (hs'.2 b hb).trans q
    have cellNe : ∀ {a v}, s2.heap.IsCell a v → a ≠ C := fun ⟨o, ho, hd⟩ q => by
      rw [q, hoC2] at ho; cases ho; rw [hdC] at hd; cases hd
    refine ⟨.next, _, _, _, _, trivial, (?_ : St c f (ρ.set i (some ⟨.ow, .list ((xs.filter p).map g)⟩)) (moWith mo .ow (D :: as)) (upd val i (.ref D)) (upd fp i (D :: as)) { s2 with heap := h' }), ⟨fun b o h1 h2 h3 q => ?_, fun b o q => ?_, fun b h => ?_⟩, hQ⟩
    · refine ⟨S2.wf.sameBut (tk := s2.toks) hs' (S.ok.base.none (S.keep.none hC)) hX, S2.ok, ⟨fun b o hXb q => ?_, fun b o q => ?_⟩, ?_, fun z a q => ?_, fun j sl e => ?_, S2.own, S2.shr, S2.loc, S2.apart, S2.moNew, fun a ha => ?_, S2.moL, S2.fpL⟩
      · exact keep' b o (fun h => by have := S.keep.none hC; rw [← h, q] at this; cases this) (S2.keep.kp b o hXb q)
      · obtain ⟨o', q'⟩ := S2.keep.th b o q
        exact ⟨o', keep' b o' (fun h => by have := S.keep.none hC; rw [← h, q] at this; cases this) q'⟩
      · obtain ⟨m2, o, es, ep, ho, q⟩ := S2.ns
        exact ⟨m2, o, es, ep, keep' _ o hCL.symm ho, q⟩
      · obtain ⟨v0, n0⟩ := S2.cells z a q
        have hne := cellNe n0
        obtain ⟨o, ho, hd⟩ := n0
        exact ⟨v0, o, keep' a o hne ho, hd⟩
      · obtain ⟨z, g1, g2, g3⟩ := S2.var j sl e
        refine ⟨z, g1, ?_, reads_upon g3 (fun b hb o q _ => keep' b o (fun h => fp2 j sl e (h ▸ hb)) q) (fun b o q _ hdd => keep' b o (notSeq q hdd) q)⟩
        rcases g2 with ⟨k1, m2, ⟨o, es, ep, ho, q⟩, k3⟩ | ⟨k1, a, k2, k3⟩
        · exact .inl ⟨k1, m2, ⟨o, es, ep, keep' _ o hCL.symm ho, q⟩, k3⟩
        · have hne := cellNe k3
          obtain ⟨o, ho, hd⟩ := k3
          exact .inr ⟨k1, a, k2, o, keep' a o hne ho, hd⟩
      · obtain ⟨o, q, r⟩ := S2.moPl a ha
        exact ⟨o, keep' a o (mo2 a ha) q, r⟩
    · exact keep' b o (fun h => by rw [h, hC] at q; cases q) (hk2 b o h2 (x1.up.kp b o h1 q))
    · obtain ⟨o1, q1⟩ := x1.up.th b o q
      obtain ⟨o2, q2⟩ := th2 b o1 q1
      exact ⟨o2, keep' b o2 (fun h => by rw [h, hC] at q; cases q) q2⟩
    · exact h.imp id fun q => fr b q.2
end
end Mine

namespace Mine
open PySem PySem.Spec PySem.Calls PyProof.Rows

noncomputable def fnAt (p : Program) (i : Nat) : FnD :=
  match p.main.body[i]? with
  | some (.FunctionDef name args body _ _ _ scope _ _ _) => ⟨name, args, body, scope⟩
  | _ => ⟨"", ⟨[], [], none, [], [], none, []⟩, [], { kind := .function, names := [], isGenerator := false, isCoroutine := false, more := [] }⟩

end Mine

namespace Mine
open PySem PySem.W PySem.Spec PySem.Calls PyProof.Rows

/-- the context of a law: the heap at its call -/
noncomputable def cxOf (prog : Program) (w : World) (s₁ : Shared) (mg mb : Str → Option Value) : Cx := ⟨prog, w, s₁.heap, fun _ => False, mg, mb, s₁.os⟩

section
variable {p prog : Program} {loose : List Str} {mean : ExcName → Option Value} {mg mb : Str → Option Value} {w : World} {s₁ : Shared}

theorem bi_of (T : Top p loose mean mg mb s₁.heap) {x : Str} {v : Value} (hb : bootBuiltins x = some v) (hne : x ≠ "__name__")
    (h : (decide (x ∉ startupNames) && decide (x ∉ loose) && decide (x ∉ (recsOf p).map (·.name)) && decide (x ∉ (litsOf p).map (·.1)) && decide (x ∉ (clssOf p loose).map (·.name))) = true) : Bi (cxOf prog w s₁ mg mb) x v := by
  simp only [Bool.and_eq_true, decide_eq_true_eq] at h
  exact ⟨T.free x h.1.1.1.1 h.1.1.1.2 h.1.1.2 h.1.2 h.2, hb, hne⟩
end

end Mine

namespace Mine
open PySem PySem.Spec PySem.Calls PyProof.Rows

noncomputable def typeNm : PyData → String
  | .none => "NoneType"
  | .bool _ => "bool"
  | .int _ => "int"
  | .str _ => "str"
  | .list _ => "list"
  | .tuple _ => "tuple"
  | .dict _ => "dict"

section
variable {c : Cx} {f : Fm} {ρ : Rho} {mo : Addr → Prop} {val : Nat → Value} {fp : Nat → List Addr} {s : Shared} {E : Value → Shared → Prop}
  {e l r : Expr} {d : PyData} {k k1 k2 : EK} {pos np np2 p2 : Pos} {a b : Int} {xs ys : List PyData}

/-! a loop over a typed list -/
theorem ex_forT {α : Type} {enc : α → PyData} {ls : List α} {Q : Fl → Rho → Prop} {body : List Stmt} {x : Str} {xp : Pos} {iter : Expr} {i : Nat} {sk : K} (FS : FmS c f) (hx : f.xs[i]? = some x) (h : It c f ρ iter (ls.map enc) k) (hk : Fills2 k (ls.map enc) sk)
    (J : Nat → Rho → Prop) (h0 : J 0 ρ)
    (hb : ∀ j el ρ', ls[j]? = some el → J j ρ' → i < ρ'.length ∧ Ex c f body (ρ'.set i (some ⟨sk, enc el⟩)) (loopQ (J (j + 1)) Q))
    (hend : ∀ ρ', J ls.length ρ' → Q .next ρ') (hs : ∀ env x, foldedSetIterable iter env x = pure x := by intro _ _; rfl) : Ex1 c f (.For (.Name x xp) iter body [] pos) ρ Q := by
  refine ex_for FS hx h hk J h0 (fun j d ρ' hd hJ => ?_) (fun ρ' hJ => hend ρ' (by simpa [intsL_length] using hJ)) hs
  rw [List.getElem?_map] at hd
  cases hel : ls[j]? with
  | none => rw [hel] at hd; cases hd
  | some el => rw [hel] at hd; cases hd; exact hb j el ρ' hel hJ
/-- a loop over range(..) -/
theorem ex_forR {Q : Fl → Rho → Prop} {body : List Stmt} {x : Str} {xp : Pos} {iter : Expr} {i n : Nat} {a : Int} (FS : FmS c f) (hx : f.xs[i]? = some x) (h : It c f ρ iter (intsL a n) .fr)
    (J : Nat → Rho → Prop) (h0 : J 0 ρ)
    (hb : ∀ j ρ', j < n → J j ρ' → i < ρ'.length ∧ Ex c f body (ρ'.set i (some ⟨.lo, .int (a + j)⟩)) (loopQ (J (j + 1)) Q))
    (hend : ∀ ρ', J n ρ' → Q .next ρ') (hs : ∀ env x, foldedSetIterable iter env x = pure x := by intro _ _; rfl) : Ex1 c f (.For (.Name x xp) iter body [] pos) ρ Q := by
  refine ex_for (sk := .lo) FS hx h (.flat rfl intsL_flat) J h0 (fun j d ρ' hd hJ => ?_) (fun ρ' hJ => hend ρ' (by simpa [intsL_length] using hJ)) hs
  obtain ⟨h1, rfl⟩ := intsL_get hd
  exact hb j ρ' h1 hJ

/-! list + list -/
end
end Mine
namespace Mine
open PySem PySem.Spec PySem.Calls PyProof.Rows
/-- a frame whose scope, names and level are known -/
noncomputable abbrev mkFm (sc : Scope) (xs : List Str) (lv : Nat) (g : Fm) : Fm := ⟨⟨sc, g.env.locals, g.env.globals, g.env.cells, g.env.qual, g.env.func, g.env.code, g.env.frame, g.env.builtins⟩, g.A, g.h₀, xs, lv⟩
theorem mkFm_of {sc : Scope} {xs : List Str} {lv : Nat} {M : Fm → Prop} (h : ∀ g, M (mkFm sc xs lv g)) (f : Fm) (h1 : f.env.scope = sc) (h2 : f.xs = xs) (h3 : f.lv = lv) : M f := by
  subst h1 h2 h3
  exact h f
theorem fn_go {c : Cx} {d : FnD} {args : List PyData} {res : PyData} {u : Bool} {lv : Nat} (ps rest xs : List Str) (C : CxOk c)
    (hbind : ∀ pm cd doc (vals : List Value), vals.length = args.length → bindArgs (docDef d.name d.params d.body d.scope pm cd doc) ⟨vals, []⟩ = pure (ps.zip vals))
    (hlen : ps.length = args.length) (nd : (ps ++ rest).Nodup)
    (hk : ((ps ++ rest).all fun x => d.scope.names.lookup x == some .local || d.scope.names.lookup x == some .cell) = true)
    (h1 : d.scope.isCoroutine = false) (h2 : d.scope.isGenerator = false) (h3 : d.scope.kind = .function) (ρ0 : Rho)
    (h : ∀ g, FmS c (mkFm d.scope xs lv g) → Ex c (mkFm d.scope xs lv g) d.body ρ0 (RetQ res u)) (hxs : ps ++ rest = xs := by rfl) (hρ : startRho args rest = ρ0 := by rfl) : Fn c (lv + 1) d args res u := by
  subst hxs hρ
  exact fn_enter ps rest C hbind hlen nd hk h1 h2 h3 (mkFm_of h)
theorem fn_goC {c : Cx} {d : FnD} {args : List PyData} {res : PyData} {u : Bool} {lv : Nat} (ps rest xs : List Str) (C : CxOk c)
    (hbind : ∀ pm cd doc (vals : List Value), vals.length = args.length → bindArgs (docDef d.name d.params d.body d.scope pm cd doc) ⟨vals, []⟩ = pure (ps.zip vals))
    (hlen : ps.length = args.length) (nd : (ps ++ rest).Nodup)
    (hk : ((ps ++ rest).all fun x => d.scope.names.lookup x == some .local || d.scope.names.lookup x == some .cell) = true)
    (h1 : d.scope.isCoroutine = false) (h2 : d.scope.isGenerator = false) (h3 : d.scope.kind = .function) (ρ0 : Rho)
    (h : ∀ g, (∃ fa o pm doc, Has c d fa o pm (mkFm d.scope xs lv g).env.code doc) → FmS c (mkFm d.scope xs lv g) → Ex c (mkFm d.scope xs lv g) d.body ρ0 (RetQ res u)) (hxs : ps ++ rest = xs := by rfl) (hρ : startRho args rest = ρ0 := by rfl) : Fn c (lv + 1) d args res u := by
  subst hxs hρ
  exact fn_enterC ps rest C hbind hlen nd hk h1 h2 h3 (mkFm_of h)
end Mine

namespace Mine
open PySem PySem.Spec PySem.Calls PyProof.Rows

/-- names that stand in cells -/
noncomputable def HasCells (f : Fm) (ys : List Str) : Prop := ∀ y ∈ ys, (f.env.kindOf y = some .cell ∨ f.env.kindOf y = some .free) ∧ ∃ a, f.env.cells.lookup y = some a
theorem HasCells.nil {f : Fm} : HasCells f [] := nofun
theorem HasCells.of {c : Cx} {f : Fm} (FS : FmS c f) {ys : List Str} (h : ∀ y ∈ ys, y ∈ f.xs ∧ f.env.kindOf y = some .cell) : HasCells f ys := fun y hy => by
  obtain ⟨h1, h2⟩ := h y hy
  obtain ⟨i, hi, rfl⟩ := List.mem_iff_getElem.mp h1
  rcases FS.kinds i _ (List.getElem?_eq_getElem hi) with q | ⟨q, a, ha⟩
  · rw [h2] at q; cases q
  · exact ⟨.inl q, a, ha⟩
theorem HasCells.ofs {c : Cx} {f : Fm} (FS : FmS c f) {ys : List Str} (sc : Scope) (hsc : f.env.scope = sc) (xs : List Str) (hxs : f.xs = xs) (h : (ys.all fun y => xs.contains y && sc.names.lookup y == some .cell) = true) : HasCells f ys :=
  HasCells.of FS fun y hy => by
    have := List.all_eq_true.mp h y hy
    simp only [Bool.and_eq_true, beq_iff_eq, List.contains_iff_mem] at this
    exact ⟨hxs ▸ this.1, by show f.env.scope.names.lookup y = _; rw [hsc]; exact this.2⟩

noncomputable def compChk (scope : Scope) (x : Str) (cp : List Nat) (capn cells : List Str) : Bool :=
  scope.kind == .function && (scope.names.all fun y => y.2 != .local || scope.names.lookup y.1 == some .local) &&
  (scope.names.lookup x == some .local || (scope.names.lookup x == some .cell && scope.names.contains (x, NameKind.cell))) &&
  (scope.names.all fun y => y.2 != .free || cells.contains y.1) && decide cp.Nodup &&
  (capn.all fun y => scope.names.lookup y == some .free && scope.names.contains (y, NameKind.free) && !scope.names.contains (y, NameKind.cell) && cells.contains y)

theorem compOk_mk {c : Cx} {f : Fm} {ρ : Rho} {scope : Scope} {x : Str} {cp : List Nat} {capn cells : List Str} (H : HasCells f cells) (hn : cp.map (fun j => f.xs[j]?) = capn.map some) (h : compChk scope x cp capn cells = true) : CompOk c f ρ scope x cp := by
  unfold compChk at h
  simp only [Bool.and_eq_true, decide_eq_true_eq, List.all_eq_true, beq_iff_eq, Bool.or_eq_true, bne_iff_ne, ne_eq, List.contains_iff_mem, Bool.not_eq_true'] at h
  obtain ⟨⟨⟨⟨⟨h1, h2⟩, h3⟩, h4⟩, h5⟩, h6⟩ := h
  refine ⟨h1, fun y hy hl => ?_, ?_, fun y hy hf => ?_, h5, fun j hj => ?_⟩
  · exact (h2 y hy).resolve_left fun q => q hl
  · exact h3.imp id fun q => ⟨q.1, q.2⟩
  · exact (H y.1 ((h4 y hy).resolve_left fun q => q hf)).2
  · have hm : f.xs[j]? ∈ capn.map some := hn ▸ List.mem_map_of_mem hj
    obtain ⟨y, hy, e⟩ := List.mem_map.mp hm
    obtain ⟨⟨⟨q1, q2⟩, q3⟩, q4⟩ := h6 y hy
    refine ⟨y, e.symm, q1, q2, fun q => ?_, (H y q4).1⟩
    have q' := List.contains_iff_mem.mpr q
    rw [q3] at q'; cases q'

noncomputable def chChk (scope : Scope) (cells names : List Str) : Bool :=
  names.all fun y => (scope.names.contains (y, NameKind.cell) && scope.names.lookup y == some .cell) ||
    (scope.names.contains (y, NameKind.free) && scope.names.lookup y == some .free && !scope.names.contains (y, NameKind.cell) && cells.contains y)
theorem child_cells {f : Fm} {scope : Scope} {C : Addr} {x : Str} {cp : List Nat} {cells names : List Str} (H : HasCells f cells) (h : chChk scope cells names = true) : HasCells (chFm f scope C x cp) names := fun y hy => by
  have := List.all_eq_true.mp h y hy
  simp only [Bool.and_eq_true, beq_iff_eq, Bool.or_eq_true, List.contains_iff_mem, Bool.not_eq_true'] at this
  rcases this with ⟨h1, h2⟩ | ⟨⟨⟨h1, h2⟩, h3⟩, h4⟩
  · refine ⟨.inl ?_, Option.isSome_iff_exists.mp (cellsFrom_has _ _ _ (.inl h2))⟩
    rcases relabel_lookup (env := f.env) h2 with q | ⟨q, _⟩
    · exact q
    · cases q
  · refine ⟨?_, ?_⟩
    · rcases relabel_lookup (env := f.env) h2 with q | ⟨_, q⟩
      · exact .inr q
      · exact .inl q
    · obtain ⟨a, ha⟩ := (H y h4).2
      refine ⟨a, ?_⟩
      show (cellsFrom (C + 1) scope.names (clOf f.env scope.names [])).lookup y = some a
      rw [cellsFrom_not _ _ _ (fun q => by have := List.contains_iff_mem.mpr q; rw [h3] at this; cases this)]
      exact clOf_lookup ha scope.names [] (.inl h1) (fun b q => by simp at q)

section
variable {c : Cx} {f : Fm} {ρ : Rho}
/-- the frame within a comprehension, its names written out -/
noncomputable abbrev cf (f : Fm) (scope : Scope) (C : Addr) (x : Str) (names : List Str) : Fm := ⟨chEnv scope C f.env, f.A, f.h₀, x :: names, f.lv⟩

/-- a comprehension; capn: the names taken from around, slots: what they hold; cells: the names that stand in cells -/
theorem ev_compX {elt iter : Expr} {x : Str} {xp : Pos} {ifs : List Expr} {scope : Scope} {pos : Pos} {α : Type} {enc : α → PyData} {xs : List α} {k0 : EK} (sk : K) {p : α → Bool} {g : α → PyData}
    {cells : List Str} (H : HasCells f cells) (cp : List Nat) (capn : List Str) (slots : Rho) (cells' : List Str) (h : It c f ρ iter (xs.map enc) k0) (hk : Fills3 k0 (xs.map enc) sk) (hsz : xs.length ≤ sizeLine)
    (ht : ∀ C, HasCells (cf f scope C x capn) cells' → ∀ el ∈ xs, Ifs c (cf f scope C x capn) (some ⟨sk, enc el⟩ :: slots) ifs (p el))
    (he : ∀ C, HasCells (cf f scope C x capn) cells' → ∀ el ∈ xs, p el = true → Ev c (cf f scope C x capn) (some ⟨sk, enc el⟩ :: slots) elt (g el) .fr)
    (hchk : (compChk scope x cp capn cells && chChk scope cells cells') = true := by decide +kernel)
    (hn : cp.map (fun j => f.xs[j]?) = capn.map some := by rfl) (hn2 : cp.map (fun j => f.xs.getD j default) = capn := by rfl) (hsl : cp.map (fun j => (ρ[j]?).join) = slots := by rfl)
    (hs : ∀ env x, foldedSetIterable iter env x = pure x := by intro _ _; rfl) :
    Ev c f ρ (.ListComp elt [⟨.Name x xp, iter, ifs, 0⟩] scope pos) (.list ((xs.filter p).map g)) .fr := by
  obtain ⟨h1, h2⟩ := Bool.and_eq_true_iff.mp hchk
  have CO : CompOk c f ρ scope x cp := compOk_mk H hn h1
  have e1 : ∀ C, chFm f scope C x cp = cf f scope C x capn := fun C => by unfold chFm; rw [hn2]
  have e2 : ∀ d, chRho ρ cp ⟨sk, d⟩ = some ⟨sk, d⟩ :: slots := fun d => by unfold chRho; rw [hsl]
  have HC : ∀ C, HasCells (cf f scope C x capn) cells' := fun C => e1 C ▸ child_cells H h2
  exact ev_comp CO h hk hsz (fun C el hel => by rw [e1, e2]; exact ht C (HC C) el hel) (fun C el hel hp => by rw [e1, e2]; exact he C (HC C) el hel hp) hs

theorem ex_assign_compX {elt iter : Expr} {x y : Str} {xp yp : Pos} {ifs : List Expr} {scope : Scope} {pos spos : Pos} {α : Type} {enc : α → PyData} {xs : List α} {k0 : EK} (sk : K) {p : α → Bool} {g : α → PyData} {i : Nat} {Q : Fl → Rho → Prop}
    {cells : List Str} (FS : FmS c f) (hy : f.xs[i]? = some y) (hi : i < ρ.length) (H : HasCells f cells) (cp : List Nat) (capn : List Str) (slots : Rho) (cells' : List Str) (h : It c f ρ iter (xs.map enc) k0) (hk : Fills3 k0 (xs.map enc) sk) (hsz : xs.length ≤ sizeLine)
    (ht : ∀ C, HasCells (cf f scope C x capn) cells' → ∀ el ∈ xs, Ifs c (cf f scope C x capn) (some ⟨sk, enc el⟩ :: slots) ifs (p el))
    (he : ∀ C, HasCells (cf f scope C x capn) cells' → ∀ el ∈ xs, p el = true → Ev c (cf f scope C x capn) (some ⟨sk, enc el⟩ :: slots) elt (g el) .fr)
    (hQ : Q .next (ρ.set i (some ⟨.ow, .list ((xs.filter p).map g)⟩)))
    (hsw : swapsWith (.ListComp elt [⟨.Name x xp, iter, ifs, 0⟩] scope pos) (some (.Name y yp)) spos.line f.env = pure true := by with_unfolding_all rfl)
    (hchk : (compChk scope x cp capn cells && chChk scope cells cells') = true := by decide +kernel)
    (hn : cp.map (fun j => f.xs[j]?) = capn.map some := by rfl) (hn2 : cp.map (fun j => f.xs.getD j default) = capn := by rfl) (hsl : cp.map (fun j => (ρ[j]?).join) = slots := by rfl)
    (hs : ∀ env x, foldedSetIterable iter env x = pure x := by intro _ _; rfl) :
    Ex1 c f (.Assign [.Name y yp] (.ListComp elt [⟨.Name x xp, iter, ifs, 0⟩] scope pos) spos) ρ Q := by
  obtain ⟨h1, h2⟩ := Bool.and_eq_true_iff.mp hchk
  have CO : CompOk c f ρ scope x cp := compOk_mk H hn h1
  have e1 : ∀ C, chFm f scope C x cp = cf f scope C x capn := fun C => by unfold chFm; rw [hn2]
  have e2 : ∀ d, chRho ρ cp ⟨sk, d⟩ = some ⟨sk, d⟩ :: slots := fun d => by unfold chRho; rw [hsl]
  have HC : ∀ C, HasCells (cf f scope C x capn) cells' := fun C => e1 C ▸ child_cells H h2
  exact ex_assign_comp FS hy hi CO h hk hsz (fun C el hel => by rw [e1, e2]; exact ht C (HC C) el hel) (fun C el hel hp => by rw [e1, e2]; exact he C (HC C) el hel hp) hsw hQ hs

/-- a range as a typed list -/
noncomputable abbrev encR (a : Int) (i : Nat) : PyData := .int (a + i)
theorem it_r {e : Expr} {a : Int} {n : Nat} {k : EK} (h : It c f ρ e (intsL a n) k) : It c f ρ e ((List.range n).map (encR a)) k := h
theorem filter_tt {α : Type} (l : List α) : l.filter (fun _ => true) = l := List.filter_eq_self.mpr (fun _ _ => rfl)
theorem encR_flat {a : Int} {n : Nat} : ∀ d ∈ (List.range n).map (encR a), flat d = true := intsL_flat
end
end Mine

namespace Mine
open PySem PySem.Spec PySem.Calls PyProof.Rows

/-! plain data: lists of ints, tables of ints -/
noncomputable abbrev il (r : List Int) : PyData := .list (r.map .int)
noncomputable abbrev tb (rows : List (List Int)) : PyData := .list (rows.map il)

theorem canAll {xs : List PyData} (h : ∀ d ∈ xs, d.canLay0 = true) : PyData.canLayAll0 xs = true := by
  induction xs with
  | nil => rfl
  | cons x xs ih => rw [PyData.canLayAll0, h x (List.mem_cons_self ..), ih fun d hd => h d (List.mem_cons_of_mem _ hd)]; rfl
theorem depthAll_le {xs : List PyData} {n : Nat} (h : ∀ d ∈ xs, d.depth ≤ n) : PyData.depthAll xs ≤ n := by
  induction xs with
  | nil => exact Nat.zero_le _
  | cons x xs ih => rw [PyData.depthAll]; exact Nat.max_le.mpr ⟨h x (List.mem_cons_self ..), ih fun d hd => h d (List.mem_cons_of_mem _ hd)⟩
/-- small data: may be laid, at most n deep -/
noncomputable def Sm (n : Nat) (d : PyData) : Prop := d.canLay0 = true ∧ d.depth ≤ n
theorem Sm.int {n : Nat} {i : Int} : Sm n (.int i) := ⟨rfl, Nat.zero_le _⟩
theorem Sm.list {n : Nat} {xs : List PyData} (h : ∀ d ∈ xs, Sm n d) : Sm (n + 1) (.list xs) :=
  ⟨by rw [PyData.canLay0]; exact canAll fun d hd => (h d hd).1, by rw [PyData.depth]; exact Nat.succ_le_succ (depthAll_le fun d hd => (h d hd).2)⟩
theorem Sm.tuple {n : Nat} {xs : List PyData} (h : ∀ d ∈ xs, Sm n d) : Sm (n + 1) (.tuple xs) :=
  ⟨by rw [PyData.canLay0]; exact canAll fun d hd => (h d hd).1, by rw [PyData.depth]; exact Nat.succ_le_succ (depthAll_le fun d hd => (h d hd).2)⟩
theorem Sm.map {α : Type} {n : Nat} {xs : List α} {g : α → PyData} (h : ∀ a, Sm n (g a)) : Sm (n + 1) (.list (xs.map g)) :=
  Sm.list fun d hd => by obtain ⟨a, _, rfl⟩ := List.mem_map.mp hd; exact h a
theorem Sm.shaped {n : Nat} {d : PyData} (h : Sm n d) (hn : n ≤ 64 := by decide) : SeqAt.shaped d = true := by
  unfold SeqAt.shaped; rw [h.1, decide_eq_true (Nat.le_trans h.2 hn)]; rfl
theorem Sm.eqv {n : Nat} {d : PyData} (h : Sm n d) : PyData.eqv d d = true := PySem.SeqAt.eqv_refl d h.1

theorem il_get {r : List Int} {i : Nat} (h : i < r.length) : (r.map PyData.int)[i]? = some (.int (r.getD i 0)) := by
  rw [List.getElem?_map, List.getElem?_eq_getElem h, List.getD_eq_getElem?_getD, List.getElem?_eq_getElem h]; rfl
end Mine

namespace Mine
open PySem PySem.Spec PySem.Calls PyProof.Rows

/-- a name's slot is filled anew -/
inductive Upd : List Str → Rho → Str → Option Slot → Rho → Nat → Prop
  | here {x : Str} {xs : List Str} {o sl : Option Slot} {ρ : Rho} : Upd (x :: xs) (o :: ρ) x sl (sl :: ρ) 0
  | there {x y : Str} {xs : List Str} {o sl : Option Slot} {ρ ρ' : Rho} {i : Nat} : Upd xs ρ x sl ρ' i → Upd (y :: xs) (o :: ρ) x sl (o :: ρ') (i + 1)
theorem Upd.get {xs : List Str} {ρ ρ' : Rho} {x : Str} {sl : Option Slot} {i : Nat} (h : Upd xs ρ x sl ρ' i) : xs[i]? = some x ∧ i < ρ.length ∧ ρ' = ρ.set i sl := by
  induction h with
  | here => exact ⟨rfl, by simp, rfl⟩
  | there _ ih => obtain ⟨h1, h2, h3⟩ := ih; exact ⟨by simpa using h1, by simpa using h2, by rw [h3]; rfl⟩
/-- where a name stands -/
inductive Nm : List Str → Str → Nat → Prop
  | here {x : Str} {xs : List Str} : Nm (x :: xs) x 0
  | there {x y : Str} {xs : List Str} {i : Nat} : Nm xs x i → Nm (y :: xs) x (i + 1)
theorem Nm.get {xs : List Str} {x : Str} {i : Nat} (h : Nm xs x i) : xs[i]? = some x := by
  induction h with
  | here => rfl
  | there _ ih => simpa using ih

section
variable {c : Cx} {f : Fm} {ρ ρ' : Rho} {st : Stmt} {rest body orelse : List Stmt} {Q : Fl → Rho → Prop} {e ei er : Expr} {d d0 : PyData} {k k2 k3 : EK} {pos xp ap cp sp sp2 : Pos} {x y : Str} {i : Nat} {sk : K} {xs : List PyData}

theorem s_asg (FS : FmS c f) (h : Ev c f ρ e d k) (hk : Fills k d sk) (hU : Upd f.xs ρ x (some ⟨sk, d⟩) ρ' i) (hQ : Ex c f rest ρ' Q) (hs : ∀ env, swapsWith e (some (.Name x xp)) pos.line env = pure false := by intro _; rfl) :
    Ex c f (.Assign [.Name x xp] e pos :: rest) ρ Q := by
  obtain ⟨h1, h2, rfl⟩ := hU.get
  exact ex_cons (ex_assign FS h1 h2 h hk hQ hs)
/-- an if with no else -/
theorem s_when {t : Expr} {q : Bool} (ht : Tst c f ρ t q) (h1 : q = true → Ex c f body ρ (seqQ c f rest Q)) (h2 : q = false → Ex c f rest ρ Q) : Ex c f (.If t body [] pos :: rest) ρ Q := ex_cons (ex_if ht h1 fun h => ex_nil (h2 h))
theorem s_end (h : Q .next ρ) : Ex c f [] ρ Q := ex_nil h
theorem s_ret {u : Bool} (h : Ev c f ρ e d k) (hQ : Q (.ret d u) ρ) (hk : (k = .fr) ∨ (k = .lo ∧ u = false) ∨ (flat d = true) ∨ (∃ is : List Nat, k = .us is ∧ is.Nodup ∧ ∀ i ∈ is, ∃ sl : Slot, ρ[i]? = some (some sl) ∧ sl.k = .ow)) : Ex c f (.Return (some e) pos :: rest) ρ Q :=
  ex_cons (ex_return h hk hQ)
theorem s_append (FS : FmS c f) (hat : At f.xs ρ x ⟨.ow, .list xs⟩ i) (h : Ev c f ρ e d k) (hk : k = .fr ∨ flat d = true) (hsz : xs.length ≤ sizeLine) (hU : Upd f.xs ρ x (some ⟨.ow, .list (xs ++ [d])⟩) ρ' i) (hQ : Ex c f rest ρ' Q)
    (hd : (x == ("__debug__" : Str)) = false := by decide +kernel) (hn : (x == ("__classdict__" : Str)) = false := by decide +kernel)
    (hbase : ∀ env, attributeBase (.Name x xp) "append" env (eval (.Name x xp) env) = eval (.Name x xp) env := by intro _; rfl) (hline : (ap.endLine == cp.line) = true := by rfl)
    (htrees : ∀ env, backTo cp (starEach [e] env) = [(false, eval e env)] := by intro _; rfl)
    (hsw : ∀ env, swapsWith (.Call (.Attribute (.Name x xp) "append" ap) [e] [] cp) none pos.line env = pure false := by intro _; rfl) :
    Ex c f (.Expr (.Call (.Attribute (.Name x xp) "append" ap) [e] [] cp) pos :: rest) ρ Q := by
  obtain ⟨h1, h2, rfl⟩ := hU.get
  exact ex_cons (ex_append FS hat h hk hsz hQ hd hn hbase hline htrees (by intros; trivial) hsw)
theorem s_set {j : Int} (FS : FmS c f) (hat : At f.xs ρ x ⟨.ow, .list xs⟩ i) (hv : Ev c f ρ e d k) (hi : Ev c f ρ ei (.int j) k2) (hd : flat d = true) (h0 : 0 ≤ j) (hfit : j < 2 ^ 63) (hx : xs[j.toNat]? = some d0) (hd0 : flat d0 = true)
    (hU : Upd f.xs ρ x (some ⟨.ow, .list (xs.set j.toNat d)⟩) ρ' i) (hQ : Ex c f rest ρ' Q)
    (hdb : (x == ("__debug__" : Str)) = false := by decide +kernel) (hn : (x == ("__classdict__" : Str)) = false := by decide +kernel)
    (hs : ∀ env, swapsWith e (some (.Subscript (.Name x xp) ei sp)) pos.line env = pure false := by intro _; rfl) : Ex c f (.Assign [.Subscript (.Name x xp) ei sp] e pos :: rest) ρ Q := by
  obtain ⟨h1, h2, rfl⟩ := hU.get
  exact ex_cons (ex_setitem FS hat hv hi hd h0 hfit hx hd0 hQ hdb hn hs)
theorem s_set2 {j1 j2 : Int} {rows cells : List PyData} (FS : FmS c f) (hat : At f.xs ρ x ⟨.ow, .list rows⟩ i) (hv : Ev c f ρ e d k) (hi1 : Ev c f ρ er (.int j1) k2) (hi2 : Ev c f ρ ei (.int j2) k3) (hd : flat d = true)
    (h01 : 0 ≤ j1) (hfit1 : j1 < 2 ^ 63) (hrow : rows[j1.toNat]? = some (.list cells)) (hcf : flats cells = true) (h02 : 0 ≤ j2) (hfit2 : j2 < 2 ^ 63) (hlt : j2.toNat < cells.length)
    (hU : Upd f.xs ρ x (some ⟨.ow, .list (rows.set j1.toNat (.list (cells.set j2.toNat d)))⟩) ρ' i) (hQ : Ex c f rest ρ' Q)
    (hdb : (x == ("__debug__" : Str)) = false := by decide +kernel) (hn : (x == ("__classdict__" : Str)) = false := by decide +kernel) (hs2 : ∀ o i, subscripted er false o i = operate [o, i] (getItem o i) := by intros; rfl)
    (hs : ∀ env, swapsWith e (some (.Subscript (.Subscript (.Name x xp) er sp) ei sp2)) pos.line env = pure false := by intro _; rfl) : Ex c f (.Assign [.Subscript (.Subscript (.Name x xp) er sp) ei sp2] e pos :: rest) ρ Q := by
  obtain ⟨h1, h2, rfl⟩ := hU.get
  exact ex_cons (ex_setitem2 (xs := cells) FS hat hv hi1 hi2 hd h01 hfit1 hrow hcf h02 hfit2 rfl hlt hQ hdb hn hs2 hs)
theorem s_forT {α : Type} {enc : α → PyData} {ls : List α} {iter : Expr} (FS : FmS c f) (hx : Nm f.xs x i) (h : It c f ρ iter (ls.map enc) k) (hk : Fills2 k (ls.map enc) sk)
    (J : Nat → Rho → Prop) (h0 : J 0 ρ)
    (hb : ∀ j el ρ', ls[j]? = some el → J j ρ' → ∃ ρ1, Upd f.xs ρ' x (some ⟨sk, enc el⟩) ρ1 i ∧ Ex c f body ρ1 (loopQ (J (j + 1)) (seqQ c f rest Q)))
    (hend : ∀ ρ', J ls.length ρ' → Ex c f rest ρ' Q) (hs : ∀ env x, foldedSetIterable iter env x = pure x := by intro _ _; rfl) : Ex c f (.For (.Name x xp) iter body [] pos :: rest) ρ Q :=
  ex_cons (ex_forT FS hx.get h hk J h0 (fun j d ρ' hd hJ => by obtain ⟨ρ1, hU, h⟩ := hb j d ρ' hd hJ; obtain ⟨h1, h2, rfl⟩ := hU.get; exact ⟨h2, h⟩) hend hs)
theorem s_forR {iter : Expr} {n : Nat} {a : Int} (FS : FmS c f) (hx : Nm f.xs x i) (h : It c f ρ iter (intsL a n) .fr)
    (J : Nat → Rho → Prop) (h0 : J 0 ρ)
    (hb : ∀ j ρ', j < n → J j ρ' → ∃ ρ1, Upd f.xs ρ' x (some ⟨.lo, .int (a + j)⟩) ρ1 i ∧ Ex c f body ρ1 (loopQ (J (j + 1)) (seqQ c f rest Q)))
    (hend : ∀ ρ', J n ρ' → Ex c f rest ρ' Q) (hs : ∀ env x, foldedSetIterable iter env x = pure x := by intro _ _; rfl) : Ex c f (.For (.Name x xp) iter body [] pos :: rest) ρ Q :=
  ex_cons (ex_forR FS hx.get h J h0 (fun j ρ' hd hJ => by obtain ⟨ρ1, hU, h⟩ := hb j ρ' hd hJ; obtain ⟨h1, h2, rfl⟩ := hU.get; exact ⟨h2, h⟩) hend hs)
theorem s_while {t : Expr} (J : Nat → Rho → Prop) {n : Nat} (h0 : J n ρ)
    (hb : ∀ n ρ', J n ρ' → ∃ q, Tst c f ρ' t q ∧ (q = true → Ex c f body ρ' (loopQ (fun ρ'' => ∃ m, m < n ∧ J m ρ'') (seqQ c f rest Q))) ∧ (q = false → Ex c f rest ρ' Q)) : Ex c f (.While t body [] pos :: rest) ρ Q :=
  ex_cons (ex_while J h0 hb)
theorem s_comp {elt iter : Expr} {yp : Pos} {ifs : List Expr} {scope : Scope} {spos : Pos} {α : Type} {enc : α → PyData} {ls : List α} {k0 : EK} (sk : K) {p : α → Bool} {g : α → PyData}
    {cells : List Str} (FS : FmS c f) (H : HasCells f cells) (cp : List Nat) (capn : List Str) (slots : Rho) (cells' : List Str) (h : It c f ρ iter (ls.map enc) k0) (hk : Fills3 k0 (ls.map enc) sk) (hsz : ls.length ≤ sizeLine)
    (ht : ∀ C, HasCells (cf f scope C x capn) cells' → ∀ el ∈ ls, Ifs c (cf f scope C x capn) (some ⟨sk, enc el⟩ :: slots) ifs (p el))
    (he : ∀ C, HasCells (cf f scope C x capn) cells' → ∀ el ∈ ls, p el = true → Ev c (cf f scope C x capn) (some ⟨sk, enc el⟩ :: slots) elt (g el) .fr)
    (hU : Upd f.xs ρ y (some ⟨.ow, .list ((ls.filter p).map g)⟩) ρ' i) (hQ : Ex c f rest ρ' Q)
    (hsw : swapsWith (.ListComp elt [⟨.Name x xp, iter, ifs, 0⟩] scope pos) (some (.Name y yp)) spos.line f.env = pure true := by with_unfolding_all rfl)
    (hchk : (compChk scope x cp capn cells && chChk scope cells cells') = true := by decide +kernel)
    (hn : cp.map (fun j => f.xs[j]?) = capn.map some := by rfl) (hn2 : cp.map (fun j => f.xs.getD j default) = capn := by rfl) (hsl : cp.map (fun j => (ρ[j]?).join) = slots := by rfl)
    (hs : ∀ env x, foldedSetIterable iter env x = pure x := by intro _ _; rfl) :
    Ex c f (.Assign [.Name y yp] (.ListComp elt [⟨.Name x xp, iter, ifs, 0⟩] scope pos) spos :: rest) ρ Q := by
  obtain ⟨h1, h2, rfl⟩ := hU.get
  exact ex_cons (ex_assign_compX sk FS h1 h2 H cp capn slots cells' h hk hsz ht he hQ hsw hchk hn hn2 hsl hs)
end
end Mine

namespace Mine
open PySem PySem.Spec PySem.Calls PyProof.Rows

theorem ra_drop {h : Heap} {vs : List Value} {ds : List PyData} {as : List Addr} (r : ReadsAll h vs ds as) (hf : flats ds = true) : ∀ n, ReadsAll h (vs.drop n) (ds.drop n) []
  | 0 => by have := readsAll_flat r hf; subst this; exact r
  | n + 1 => by
    cases r with
    | nil => exact .nil
    | cons r1 r2 => exact ra_drop r2 (Bool.and_eq_true_iff.mp hf).2 n
theorem ra_take {h : Heap} {vs : List Value} {ds : List PyData} {as : List Addr} (r : ReadsAll h vs ds as) (hf : flats ds = true) : ∀ n, ReadsAll h (vs.take n) (ds.take n) []
  | 0 => .nil
  | n + 1 => by
    cases r with
    | nil => exact .nil
    | cons r1 r2 =>
      have h1 := reads_flat r1 (Bool.and_eq_true_iff.mp hf).1
      subst h1
      exact .cons r1 (ra_take r2 (Bool.and_eq_true_iff.mp hf).2 n)
theorem flats_drop {ds : List PyData} (hf : flats ds = true) : ∀ n, flats (ds.drop n) = true
  | 0 => hf
  | n + 1 => by cases ds with | nil => rfl | cons d ds => exact flats_drop (Bool.and_eq_true_iff.mp hf).2 n
theorem ra_app {h : Heap} {vs ws : List Value} {ds es : List PyData} {as bs : List Addr} (r : ReadsAll h vs ds as) (r' : ReadsAll h ws es bs) : ReadsAll h (vs ++ ws) (ds ++ es) (as ++ bs) := by
  induction r using ReadsAll.rec (motive_1 := fun _ _ _ _ => True) with
  | nil => exact r'
  | cons r1 r2 _ ih => rw [List.append_assoc]; exact .cons r1 ih
  | _ => trivial

/-- what a plain slice picks -/
noncomputable def pick {α : Type} (xs : List α) (lo hi : Option Int) : List α := (xs.drop (lo.elim 0 (clipAt xs.length))).take (hi.elim xs.length (clipAt xs.length) - lo.elim 0 (clipAt xs.length))
theorem pick_run {α : Type} (xs : List α) (a b : Nat) : pick xs (some (a : Int)) (some (b : Int)) = (xs.drop a).take (b - a) := by
  unfold pick; simp only [Option.elim, clipAt_nat]
  rcases Nat.le_total a xs.length with h | h
  · rw [Nat.min_eq_left h]
    rcases Nat.le_total b xs.length with h' | h'
    · rw [Nat.min_eq_left h']
    · rw [Nat.min_eq_right h', List.take_of_length_le (by simp), List.take_of_length_le (by simp; omega)]
  · rw [Nat.min_eq_right h, List.drop_of_length_le (by simp), List.drop_of_length_le h]; simp
theorem pick_map {α β : Type} (g : α → β) (xs : List α) (lo hi : Option Int) : pick (xs.map g) lo hi = (pick xs lo hi).map g := by
  unfold pick; rw [List.map_take, List.map_drop, List.length_map]

section
variable {c : Cx} {f : Fm} {ρ : Rho} {mo : Addr → Prop} {val : Nat → Value} {fp : Nat → List Addr} {s : Shared} {E : Value → Shared → Prop}
  {e l r : Expr} {d d1 d2 d3 : PyData} {k k1 k2 k3 : EK} {pos sp : Pos} {a b : Int} {xs ys : List PyData}

/-- a bound of a slice -/
inductive Part (c : Cx) (f : Fm) (ρ : Rho) : Option Expr → Option Int → Prop
  | none : Part c f ρ none none
  | some {e : Expr} {i : Int} {k : EK} : Ev c f ρ e (.int i) k → Part c f ρ (some e) (some i)
theorem Part.bind {o : Option Expr} {i : Option Int} {Q : Value → Shared → Prop} (h : Part c f ρ o i) (S : St c f ρ mo val fp s) (hn : ∀ v s', Ext c s s' → St c f ρ mo val fp s' → IsPart v i → Q v s') :
    wpAny c.M f.A (evalPart o f.env) Q E s := by
  cases h with
  | none => exact wpAny_evalPart_none (hn _ s (Ext.refl S.wf) S .none)
  | some h => exact wpAny_evalPart_some (h.bind S fun v s' as x S' r _ => by cases r; exact hn _ s' x S' (.int _ _))

theorem ev_slice {lo up : Option Expr} {li ui : Option Int} (h : Ev c f ρ l (.list xs) k) (hl : Part c f ρ lo li) (hu : Part c f ρ up ui) (hf : flats xs = true) (hsz : xs.length ≤ sizeLine) (hp : pick xs li ui = ys) : Ev c f ρ (.Subscript l (.Slice lo up none sp) pos) (.list ys) .fr := by
  intro mo val fp s E S
  refine Subscript_ (h.bind S fun v s1 as x1 S1 r1 _ => wpAny_Slice (hl.bind S1 fun vl s2 x2 S2 p1 => hu.bind S2 fun vu s3 x3 S3 p2 => wpAny_evalPart_none ?_))
  have r3 := (x2.trans x3).reads S1.wf r1
  cases r3 with | list g1 g2 g3 g4 =>
  rename_i a o vs m bs _
  have hl : vs.size = xs.length := by simpa using readsAll_length g4
  have hL : s3.heap.IsList a vs := ⟨_, g1, g2, _, g3⟩
  refine tail_any (T := "list") (ops := [_, _]) (hL.push _).typeIs list_getitem_lookup (wpAny_getItem_list_slice (hL.push _) (Heap.IsSliceOf.new ..) p1 p2 .none (by simp) ?_ (by omega)) rfl
  rw [Heap.size_push]
  have y1 : Ext c s3 { s3 with heap := s3.heap.push { cls := .type "slice", data := .fields #[vl, vu, .none] } } := Ext.push S3.wf _ _
  have y2 := y1.trans (Ext.push (y1.wf) { cls := .type "list", data := .seq (slicePick vs li ui none) } s3.toks)
  refine ⟨((x1.trans x2).trans x3).trans y2, [s3.heap.objs.size + 1], ?_, frOk S (by simp) (fun b hb => ?_) fun b hb => ?_⟩
  · have : s3.heap.objs.size + 1 = (s3.heap.push { cls := .type "slice", data := .fields #[vl, vu, .none] }).objs.size := (Heap.size_push ..).symm
    rw [this]
    refine .list (Heap.get?_push_size _ rfl) rfl rfl ?_
    refine y2.readsAll S3.wf ?_
    rw [slicePick_plain, List.toList_toArray, ← hp, pick, hl]
    exact ra_take (ra_drop g4 hf _) (flats_drop hf _) _
  · rw [List.mem_singleton.mp hb]; exact ((x1.trans x2).trans x3).up.none (y1.up.none (by rw [← Heap.size_push]; exact get_size_none _))
  · rw [List.mem_singleton.mp hb]; exact ⟨_, by rw [← Heap.size_push]; exact Heap.get?_push_size _ rfl, .inl ⟨rfl, _, _, rfl⟩, rfl, rfl⟩

/-! edges: tuples of three ints -/
noncomputable abbrev encI (e : Int × Int × Int) : PyData := .tuple [.int e.1, .int e.2.1, .int e.2.2]
noncomputable abbrev encE (e : Nat × Nat × Int) : PyData := .tuple [.int e.1, .int e.2.1, .int e.2.2]
theorem flats_of {xs : List PyData} (h : ∀ d ∈ xs, flat d = true) : flats xs = true := by
  induction xs with
  | nil => rfl
  | cons x xs ih => exact Bool.and_eq_true_iff.mpr ⟨h x (List.mem_cons_self ..), ih fun d hd => h d (List.mem_cons_of_mem _ hd)⟩
theorem flats_map {α : Type} {g : α → PyData} (h : ∀ a, flat (g a) = true) (ls : List α) : flats (ls.map g) = true := flats_of fun d hd => by obtain ⟨a, _, rfl⟩ := List.mem_map.mp hd; exact h a
theorem flat_map {α : Type} {g : α → PyData} (h : ∀ a, flat (g a) = true) (ls : List α) : ∀ d ∈ ls.map g, flat d = true := fun d hd => by obtain ⟨a, _, rfl⟩ := List.mem_map.mp hd; exact h a
theorem Sm.edges {n : Nat} {es : List (Nat × Nat × Int)} : Sm (n + 2) (.list (es.map encE)) := Sm.map fun e => Sm.tuple fun d hd => by simp at hd; rcases hd with rfl | rfl | rfl <;> exact Sm.int
theorem ev_t0 {ds : List PyData} (h : Ev c f ρ l (.tuple (d :: ds)) k1) (h2 : Ev c f ρ r (.int 0) k2) (hd : flat d = true) (hs : ∀ o i, subscripted r false o i = operate [o, i] (getItem o i) := by intros; rfl) : Ev c f ρ (.Subscript l r pos) d .fr :=
  Ev.ofFlat (ev_tupitem h h2 (by decide) (by decide) rfl hs) hd
theorem ev_t1 {ds : List PyData} (h : Ev c f ρ l (.tuple (d1 :: d :: ds)) k1) (h2 : Ev c f ρ r (.int 1) k2) (hd : flat d = true) (hs : ∀ o i, subscripted r false o i = operate [o, i] (getItem o i) := by intros; rfl) : Ev c f ρ (.Subscript l r pos) d .fr :=
  Ev.ofFlat (ev_tupitem h h2 (by decide) (by decide) rfl hs) hd
theorem ev_t2 {ds : List PyData} (h : Ev c f ρ l (.tuple (d1 :: d2 :: d :: ds)) k1) (h2 : Ev c f ρ r (.int 2) k2) (hd : flat d = true) (hs : ∀ o i, subscripted r false o i = operate [o, i] (getItem o i) := by intros; rfl) : Ev c f ρ (.Subscript l r pos) d .fr :=
  Ev.ofFlat (ev_tupitem h h2 (by decide) (by decide) rfl hs) hd
/-- an item of a list, the item given with its index as a Nat -/
theorem ev_at {i : Nat} (h1 : Ev c f ρ l (.list xs) k1) (h2 : Ev c f ρ r (.int i) k2) (hx : xs[i]? = some d) (hl : xs.length ≤ sizeLine) 
    (hs : ∀ o i, subscripted r false o i = operate [o, i] (getItem o i) := by intros; rfl) : Ev c f ρ (.Subscript l r pos) d k1.sub :=
  ev_item h1 h2 (by omega) (by have : i < xs.length := (List.getElem?_eq_some_iff.mp hx).1; have : sizeLine < 2 ^ 62 := by decide +kernel
                               omega) hx hs
end

/-! square tables, written by a function -/
noncomputable def mkT (n : Nat) (g : Nat → Nat → PyData) : List PyData := (List.range n).map fun u => .list ((List.range n).map (g u))
theorem mkT_row {n u : Nat} {g : Nat → Nat → PyData} (h : u < n) : (mkT n g)[u]? = some (.list ((List.range n).map (g u))) := by
  rw [mkT, List.getElem?_map, List.getElem?_range h]; rfl
theorem rangeMap_at {α : Type} {n v : Nat} {g : Nat → α} (h : v < n) : ((List.range n).map g)[v]? = some (g v) := by
  rw [List.getElem?_map, List.getElem?_range h]; rfl
theorem rangeMap_set {α : Type} {n v : Nat} {g : Nat → α} {x : α} : ((List.range n).map g).set v x = (List.range n).map fun i => if i = v then x else g i := by
  apply List.ext_getElem?
  intro i
  by_cases hi : i < n
  · rw [rangeMap_at hi, List.getElem?_set]
    by_cases h : v = i
    · subst h; simp [hi]
    · rw [if_neg h, rangeMap_at hi, if_neg (fun q => h q.symm)]
  · rw [List.getElem?_eq_none (by simp; omega), List.getElem?_eq_none (by simp; omega)]
theorem mkT_set {n a b : Nat} {g : Nat → Nat → PyData} {x : PyData} (ha : a < n) : (mkT n g).set a (.list (((List.range n).map (g a)).set b x)) = mkT n fun u v => if u = a ∧ v = b then x else g u v := by
  rw [mkT, rangeMap_set, rangeMap_set, mkT]
  refine List.map_congr_left fun u _ => ?_
  by_cases h : u = a
  · subst h; simp
  · simp [h]
theorem mkT_congr {n : Nat} {g g' : Nat → Nat → PyData} (h : ∀ u v, u < n → v < n → g u v = g' u v) : mkT n g = mkT n g' := by
  unfold mkT
  refine List.map_congr_left fun u hu => ?_
  rw [List.map_congr_left fun v hv => h u v (by simpa using hu) (by simpa using hv)]
end Mine

namespace Mine
open PySem PySem.Spec PySem.Calls PyProof.Rows

noncomputable def cutQ (P : Rho → Prop) (Q : Fl → Rho → Prop) : Fl → Rho → Prop
  | .next, ρ => P ρ
  | fl, ρ => Q fl ρ
section
variable {c : Cx} {f : Fm} {ρ ρ' : Rho} {st : Stmt} {rest body orelse : List Stmt} {Q : Fl → Rho → Prop} {e t : Expr} {pos : Pos} {q : Bool}
theorem s_cut (P : Rho → Prop) (h1 : Ex1 c f st ρ (cutQ P Q)) (h2 : ∀ ρ', P ρ' → Ex c f rest ρ' Q) : Ex c f (st :: rest) ρ Q :=
  ex_cons (h1.mono fun fl ρ' h => by cases fl <;> first | exact h2 _ h | exact h)
theorem s_whenc (P : Rho → Prop) (ht : Tst c f ρ t q) (h1 : q = true → Ex c f body ρ (cutQ P Q)) (h2 : q = false → P ρ) (h3 : ∀ ρ', P ρ' → Ex c f rest ρ' Q) : Ex c f (.If t body [] pos :: rest) ρ Q :=
  s_cut P (ex_if ht h1 fun h => ex_nil (h2 h)) h3
theorem s_retO {x : Str} {xp : Pos} {d : PyData} {i : Nat} (hat : At f.xs ρ x ⟨.ow, d⟩ i) (hQ : Q (.ret d true) ρ) (hd : (x == ("__debug__" : Str)) = false := by decide +kernel) (hn : (x == ("__classdict__" : Str)) = false := by decide +kernel) :
    Ex c f (.Return (some (.Name x xp)) pos :: rest) ρ Q :=
  s_ret (ev_name_us hat hd hn) hQ (.inr (.inr (.inr ⟨[i], rfl, by simp, fun j hj => ⟨⟨.ow, d⟩, by rw [List.mem_singleton.mp hj]; exact hat.slot, rfl⟩⟩)))
end
/-- the cells of a law's script -/
noncomputable def cellD (ns : List Int) (i d : Int) : Int := if i < (ns.length : Int) then ns.getD i.toNat 0 else d
end Mine

namespace Mine
open PySem PySem.Spec PySem.Calls PyProof.Rows

/-! ranges with a step -/
noncomputable def intsS (a c : Int) (n : Nat) : List PyData := (List.range n).map fun i : Nat => .int (a + i * c)
section
variable {c : Cx} {f : Fm} {ρ : Rho} {mo : Addr → Prop} {val : Nat → Value} {fp : Nat → List Addr} {s : Shared} {E : Value → Shared → Prop} {pos : Pos} {k : EK}
end
/-! range(n) as Nats -/
noncomputable abbrev encN (i : Nat) : PyData := .int (i : Int)
section
variable {c : Cx} {f : Fm} {ρ : Rho} {pos : Pos} {k : EK}
theorem intsL0 (n : Nat) : intsL 0 n = (List.range n).map encN := by
  unfold intsL; exact List.map_congr_left fun i _ => by rw [Int.zero_add]
theorem it_n {e : Expr} {n : Nat} (h : It c f ρ e (intsL 0 n) k) : It c f ρ e ((List.range n).map encN) k := intsL0 n ▸ h
theorem encN_flat {n : Nat} : ∀ d ∈ (List.range n).map encN, flat d = true := flat_map (fun _ => rfl) _
theorem s_forN {x : Str} {xp : Pos} {i : Nat} {body rest : List Stmt} {Q : Fl → Rho → Prop} {iter : Expr} {n : Nat} (FS : FmS c f) (hx : Nm f.xs x i) (h : It c f ρ iter (intsL 0 n) .fr)
    (J : Nat → Rho → Prop) (h0 : J 0 ρ)
    (hb : ∀ j ρ', j < n → J j ρ' → ∃ ρ1, Upd f.xs ρ' x (some ⟨.lo, .int (j : Int)⟩) ρ1 i ∧ Ex c f body ρ1 (loopQ (J (j + 1)) (seqQ c f rest Q)))
    (hend : ∀ ρ', J n ρ' → Ex c f rest ρ' Q) (hs : ∀ env x, foldedSetIterable iter env x = pure x := by intro _ _; rfl) : Ex c f (.For (.Name x xp) iter body [] pos :: rest) ρ Q :=
  s_forR FS hx h J h0 (fun j ρ' hj hJ => by rw [Int.zero_add]; exact hb j ρ' hj hJ) hend hs
end
/-- membership of a Nat in a list of Nats, as python sees it -/
noncomputable abbrev nl (F : List Nat) : List PyData := F.map fun x : Nat => .int (x : Int)
theorem nl_any (F : List Nat) (a : Nat) : ((nl F).any fun y => PyData.eqv y (.int (a : Int))) = decide (a ∈ F) := by
  induction F with
  | nil => rfl
  | cons x F ih =>
    rw [nl, List.map_cons, List.any_cons]
    rw [nl] at ih
    rw [ih, PyData.eqv]
    by_cases h : x = a
    · subst h; simp
    · have h1 : ¬ (x : Int) = (a : Int) := by omega
      have h2 : ¬ a = x := fun q => h q.symm
      simp [h1, h2]
theorem nl_snoc (F : List Nat) (x : Nat) : nl (F ++ [x]) = nl F ++ [.int (x : Int)] := by simp [nl]
theorem nl_can (F : List Nat) : PyData.canLayAll0 (nl F) = true := canAll fun d hd => by obtain ⟨a, _, rfl⟩ := List.mem_map.mp hd; rfl
end Mine

namespace Mine
open PySem PySem.Spec PySem.Calls PyProof.Rows

section
variable {c : Cx} {f : Fm} {ρ : Rho} {e l r : Expr} {d : PyData} {k k1 k2 : EK} {pos : Pos} {a b : Int} {x y : Str} {n : Nat}
theorem ev_pow (h1 : Ev c f ρ l (.int a) k1) (h2 : Ev c f ρ r (.int b) k2) (ha : 2 ≤ a) (hb : 0 < b) (hs : Builtin.Int.intTooBig (↑(Builtin.Int.intBits a) * b) = false) : Ev c f ρ (.BinOp l .Pow r pos) (.int (a ^ b.toNat)) .fr :=
  ev_bin h1 h2 fun s v1 v2 as1 as2 E W _ r1 r2 => by
    cases r1; cases r2
    refine AutoIntOps.pow_4 (by omega) (by simp; omega) (by simp; omega) (by simp; omega) (by rw [hs]; decide) ?_
    show (fun v s' => _) _ _
    exact ⟨Ext.toks W _, [], .int _ _, .nil, nofun, nofun⟩
theorem ev_adds (h1 : Ev c f ρ l (.str x) k1) (h2 : Ev c f ρ r (.str y) k2) (hs : x.length + y.length ≤ sizeLine) : Ev c f ρ (.BinOp l .Add r pos) (.str (x ++ y)) .fr :=
  ev_bin h1 h2 fun s v1 v2 as1 as2 E W _ r1 r2 => by
    cases r1; cases r2
    exact SB.add (fun t' k => ⟨Ext.toks W _, [], .str _ _, .nil, nofun, nofun⟩) hs
theorem vc_stri (ha : a.natAbs.log2 < 1920) : VC c n (.type "str") [.int a] (.str (Str.ofString (toString a))) := fun A s vals ass E R W r => by
  cases r with | cons r1 r2 => cases r2; cases r1 with
  | int i t => exact P.str_of_int ha ⟨Ext.toks W _, [], .str _ _, .nil, nofun, nofun⟩
end
theorem strOk_ofString (s : String) : PyData.strOk (Str.ofString s) = true := by
  rw [Str.ofString_eq_toList, PyData.strOk]
  simp only [Array.all_eq_true', List.mem_toArray, List.mem_map]
  rintro x ⟨ch, _, rfl⟩
  have := ch.valid
  rcases this with h | ⟨_, h⟩
  · have : ch.toNat < 0xd800 := h
    simp; omega
  · have : ch.toNat < 0x110000 := h
    simp; omega
/-- the decimal digits of a number, as code points -/
noncomputable def dg (n : Nat) : List Nat := (Nat.toDigits 10 n).map Char.toNat
theorem digitChar_nat : ∀ d : Nat, d < 10 → (Nat.digitChar d).toNat = 48 + d := by decide
theorem dg_small {n : Nat} (h : n < 10) : dg n = [48 + n] := by rw [dg, Nat.toDigits_of_lt_base h, List.map_cons, List.map_nil, digitChar_nat n h]
theorem dg_step {n : Nat} (h : 10 ≤ n) : dg n = dg (n / 10) ++ [48 + n % 10] := by
  rw [dg, Nat.toDigits_of_base_le (by decide) h, List.map_append, List.map_cons, List.map_nil, digitChar_nat _ (Nat.mod_lt _ (by decide)), dg]
theorem text_nat (n : Nat) : Str.ofString (toString (n : Int)) = ⟨(dg n).toArray⟩ := by
  rw [Str.ofString_eq_toList]
  show Str.mk ((Nat.repr n).toList.map Char.toNat).toArray = _
  rw [Nat.toList_repr]; rfl
theorem text_neg {n : Nat} (h : 0 < n) : Str.ofString (toString (-(n : Int))) = ⟨(45 :: dg n).toArray⟩ := by
  obtain ⟨m, rfl⟩ : ∃ m, n = m + 1 := ⟨n - 1, by omega⟩
  rw [Str.ofString_eq_toList]
  show Str.mk (("-" ++ Nat.repr (m + 1)).toList.map Char.toNat).toArray = _
  rw [String.toList_append, List.map_append, Nat.toList_repr]; rfl
end Mine

namespace Mine
open PySem PySem.Spec PySem.Calls PyProof.Rows
theorem ra_rev {h : Heap} {vs : List Value} {ds : List PyData} {as : List Addr} (r : ReadsAll h vs ds as) (hf : flats ds = true) : ReadsAll h vs.reverse ds.reverse [] := by
  induction ds generalizing vs as with
  | nil => cases r; exact .nil
  | cons d ds ih =>
    cases r with
    | cons q1 q2 =>
      have f1 := Bool.and_eq_true_iff.mp hf
      have z1 := reads_flat q1 f1.1
      subst z1
      rw [List.reverse_cons, List.reverse_cons]
      exact ra_app (as := []) (bs := []) (ih q2 f1.2) (.cons (as := []) (bs := []) q1 .nil)
section
variable {c : Cx} {f : Fm} {ρ ρ' : Rho} {Q : Fl → Rho → Prop} {rest : List Stmt} {x : Str} {xs : List PyData} {i : Nat} {xp ap cp pos : Pos}
/-- x.reverse(), a list of flat items -/
theorem s_reverse (FS : FmS c f) (hat : At f.xs ρ x ⟨.ow, .list xs⟩ i) (hf : flats xs = true) (hsz : xs.length ≤ sizeLine) (hU : Upd f.xs ρ x (some ⟨.ow, .list xs.reverse⟩) ρ' i) (hQ : Ex c f rest ρ' Q)
    (hd : (x == ("__debug__" : Str)) = false := by decide +kernel) (hn : (x == ("__classdict__" : Str)) = false := by decide +kernel)
    (hbase : ∀ env, attributeBase (.Name x xp) "reverse" env (eval (.Name x xp) env) = eval (.Name x xp) env := by intro _; rfl) (hline : (ap.endLine == cp.line) = true := by rfl)
    (hsw : ∀ env, swapsWith (.Call (.Attribute (.Name x xp) "reverse" ap) [] [] cp) none pos.line env = pure false := by intro _; rfl) :
    Ex c f (.Expr (.Call (.Attribute (.Name x xp) "reverse" ap) [] [] cp) pos :: rest) ρ Q := by
  obtain ⟨h1, h2, rfl⟩ := hU.get
  refine ex_cons fun mo val fp s S => ?_
  have hint : interactive f.env = false := by unfold interactive; rw [S.ok.kind]; rfl
  refine wpAny_Expr_any ?_ hint (hsw _)
  refine wpAny_Call_method0_late (hbase _) hline (name_step S hat (fun _ => ?_) hd hn)
  have e0 := hat.slot
  obtain ⟨a, vs, n, as, hv, hfp, hl, hr, hma⟩ := owned_list S e0
  have has : as = [] := readsAll_flat hr hf
  subst has
  rw [hv]
  refine ⟨"list", "list.reverse", F.plainAttrs_list, F.slot_list_reverse, F.type_list_reverse, ⟨_, hl, rfl⟩, fun a' q => by cases q; exact ⟨_, hl, rfl⟩, ?_⟩
  have hlen : vs.size = xs.length := by simpa using readsAll_length hr
  refine P.reverse_list hl ?_ (by omega)
  have hl2 := hl.update (fun xs => xs.reverse)
  have hsb : Heap.SameBut a s.heap (s.heap.update a (Obj.mapSeq fun xs => xs.reverse)) := sameBut_update ..
  have hr2 := readsAll_but hsb (isL_notTup hl) (by simp) hr
  refine mut0 (tk := s.toks) FS S (Ext.refl S.wf) e0 (by rw [hfp]; exact List.mem_cons_self ..) hsb (Pl.of_isL hl2) ?_ hQ
  rw [hv, hfp]
  refine .list hl2 rfl rfl ?_
  rw [Array.toList_reverse]
  exact ra_rev hr2 hf

end
end Mine

namespace Mine
open PySem PySem.Spec PySem.Calls PyProof.Rows
section
variable {c : Cx} {f : Fm} {ρ : Rho} {l r : Expr} {k1 k2 : EK} {pos : Pos}
end
end Mine

namespace Mine
open PySem PySem.Spec PySem.Calls PyProof.Rows

/-- what slot a part of a value of a kind may fill -/
inductive Fills4 : EK → PyData → K → Prop
  | lo {d : PyData} : Fills4 .lo d .lo
  | fr {d : PyData} : Fills4 .fr d .lo
  | sh {d : PyData} : Fills4 .sh d .sh
  | flat {k : EK} {d : PyData} {sk : K} : flat d = true → sk ≠ .ow → Fills4 k d sk

section
variable {c : Cx} {f : Fm} {ρ ρ1 ρ2 : Rho} {mo : Addr → Prop} {val : Nat → Value} {fp : Nat → List Addr} {s s' : Shared} {E : Value → Shared → Prop}
  {Q : Fl → Rho → Prop} {rest : List Stmt} {e ei ei2 : Expr} {d d0 d1 d2 d01 d02 : PyData} {k k1 k2 : EK} {pos xp yp tp sp sp2 : Pos} {x y : Str} {i j n : Nat} {xs : List PyData} {sk sk1 sk2 : K}

theorem slotOk_of {as : List Addr} {h : Heap} (h1 : sk ≠ .ow) (h2 : ∀ a ∈ as, ¬ mo a) (h3 : sk = .lo → ∀ a ∈ as, f.h₀.get? a = none) : SlotOk f ρ i mo fp h sk as := by
  cases sk with
  | sh => exact h2
  | lo => exact fun a ha => ⟨h2 a ha, h3 rfl a ha⟩
  | ow => exact absurd rfl h1
theorem moWith_not {as : List Addr} {a : Addr} (h : sk ≠ .ow) (q : moWith mo sk as a) : mo a := q.elim id fun r => absurd r.1 h
theorem reads_keep (S : St c f ρ mo val fp s) (hk : ∀ b o, ¬ Pv f b → s.heap.get? b = some o → s'.heap.get? b = some o) {v : Value} {as : List Addr} (hL : f.env.locals ∉ as) (r : Reads s.heap v d as) : Reads s'.heap v d as := by
  refine reads_upon r (fun a ha o e _ => ?_) (fun a o e ht hd => ?_)
  · obtain ⟨o', e', hl⟩ := reads_objs r a ha
    exact hk a o (pv_ld S e' hl (fun q => hL (q ▸ ha))) e
  · refine hk a o (fun hp => ?_) e
    obtain ⟨o2, h2, h3⟩ := pv_obj S hp
    rw [e] at h2; cases h2
    obtain ⟨_, _, hd⟩ := hd
    rcases h3 with ⟨_, _, h⟩ | ⟨_, h⟩ <;> rw [hd] at h <;> cases h
theorem two_of {vs : Array Value} (h : vs.size = 2) : ∃ v1 v2, vs.toList = [v1, v2] := by
  rw [← Array.length_toList] at h
  generalize vs.toList = l at h
  cases l with
  | nil => cases h
  | cons a l =>
    obtain ⟨b, e⟩ := List.length_eq_one_iff.mp (Nat.succ.inj h)
    exact ⟨a, b, congrArg (a :: ·) e⟩
end
end Mine

namespace Mine
open PySem PySem.Spec PySem.Calls PyProof.Rows

/-- the module of the builtins, as a frame of its own needs it -/
noncomputable def BMok (c : Cx) : Prop := ∃ bm ob, c.mg "__builtins__" = some (.ref bm) ∧ bm ≠ builtinsNs ∧ c.hB.get? bm = some ob ∧ ob.cls = .type "module" ∧ ob.dict = some builtinsNs ∧ ob.data = .plain ∧ ¬ c.X bm
/-- the running function's code has a table of inner codes, which may grow -/
noncomputable def CodeTab (c : Cx) (f : Fm) : Prop := ∃ cd P, f.env.code = .ref cd ∧ c.X P ∧ ¬ c.X cd ∧ P ≠ cStatics ∧ c.hB.IsCode cd P #[] ∧ c.hB.TableAt cd P #[]

theorem oldK_on {h₀ h h' : Heap} (K : OldK h₀ h) (hs : ∀ b o o', h₀.get? b = some o → h.get? b = some o' → h'.get? b = some o') : OldK h₀ h' := by
  refine ⟨fun b o e => ?_, fun b o e => let ⟨o', ho'⟩ := K.there b o e; ⟨o', hs b o o' e ho'⟩⟩
  rcases K.old b o e with x | ⟨t, hc, vs, more, hv, x⟩ | ⟨rfl, hc, ⟨o', es, n, ho', r⟩, z⟩
  · exact .inl (hs b o _ e x)
  · exact .inr (.inl ⟨t, hc, vs, more, hv, hs b o _ e x⟩)
  · exact .inr (.inr ⟨rfl, hc, ⟨o', es, n, hs _ o _ e ho', r⟩, fun key => by rw [OldK.staticOf_congr ((hs _ o _ e ho').trans ho'.symm) key]; exact z key⟩)

section
variable {c : Cx} {f : Fm} {ρ : Rho} {mo : Addr → Prop} {val : Nat → Value} {fp : Nat → List Addr} {s : Shared} {E : Value → Shared → Prop}

theorem gen_code {A : Around} {pos : Pos} {q : Str} {scope : Scope} {K : Value → Shared → Prop} (W : Wf c s) (HT : CodeTab c f)
    (hK : ∀ code h' tk, Ext c s { s with heap := h', toks := tk } → s.heap.objs.size ≤ h'.objs.size → K code { s with heap := h', toks := tk }) : wpAny c.M A (genexprCode f.env pos q scope) K E s := by
  obtain ⟨cd, P, hcode, hX, hcX, hPs, hI, hT⟩ := HT
  obtain ⟨⟨ps, htr⟩, hP⟩ := W.tab P hX
  have hT' : s.heap.TableAt cd P ps := by
    obtain ⟨⟨o, vs, a, r⟩, _⟩ := hT
    exact ⟨⟨o, vs, W.base _ _ hcX a, r⟩, hP⟩
  obtain ⟨o, vs, file, tf, flags, tg, inF, text, tt, op, ho, hd, h11, h2, h7, h9, h10, hop, hpd, _, hne⟩ := hI
  have ho' := W.base _ _ hcX ho
  have hI' : s.heap.IsCode cd P ps := ⟨o, vs, file, tf, flags, tg, inF, text, tt, _, ho', hd, h11, h2, h7, h9, h10, hP, rfl, htr, hne⟩
  cases hnf : codeAmong pos ps.toList with
  | none =>
    refine wpAny_genexprCodeX hcode hI' hT' hnf fun c' h' tk hx hge hlt hc' _ ht' _ => ?_
    refine hK _ h' tk ⟨⟨fun b o hb e => hx b o (fun q => hb (q ▸ hX)) e, fun b o e => ?_⟩, ⟨fun b o hb e => ?_, fun b hb => ?_, ?_, W.gens, W.os⟩⟩ (by omega)
    · by_cases hb : b = P
      · exact ⟨_, hb ▸ ht'.2⟩
      · exact ⟨o, hx b o hb e⟩
    · exact hx b o (fun q => hb (q ▸ hX)) (W.base b o hb e)
    · by_cases hbP : b = P
      · subst hbP
        refine ⟨⟨ps ++ #[rawInt pos.line, rawInt pos.col, .ref c'], ?_⟩, ht'.2⟩
        have : (ps ++ #[rawInt pos.line, rawInt pos.col, Value.ref c']).toList = ps.toList ++ [rawInt pos.line, rawInt pos.col, .ref c'] := by simp
        rw [this]; exact TriplesOk_snoc _ _ _ _ htr
      · obtain ⟨ps2, e⟩ := W.tab b hb; exact ⟨ps2, hx b _ hbP e⟩
    · exact W.old.step_table hT hT' ht' hx hPs
  | some cv =>
    unfold genexprCode codeAt
    rw [hcode, if_neg (show ¬ ((Value.ref cd == Value.none) = true) from Bool.false_ne_true)]
    refine wpAny_bind (wpAny_fieldsOf ho' hd ?_)
    rw [h11]
    refine wpAny_bind (wpAny_fieldsOf hP rfl ?_)
    rw [hnf]
    exact wpAny_pure (hK cv s.heap s.toks (Ext.refl W) (Nat.le_refl _))

end
end Mine

namespace Mine
open PySem PySem.Spec PySem.Calls PyProof.Rows
noncomputable def HasTab (c : Cx) (d : FnD) : Prop := ∃ fa o fd cd P, c.mg d.name = some (.ref fa) ∧ c.hB.get? fa = some o ∧ o.data = .func fd ∧ fd.code = .ref cd ∧ c.X P ∧ ¬ c.X cd ∧ P ≠ cStatics ∧ c.hB.IsCode cd P #[] ∧ c.hB.TableAt cd P #[]
theorem codeTab_of {c : Cx} {d : FnD} {f : Fm} (HT : HasTab c d) (H : ∃ fa o pm doc, Has c d fa o pm f.env.code doc) : CodeTab c f := by
  obtain ⟨fa, o, fd, cd, P, h1, h2, h3, h4, h5, h6, h7, h8, h9⟩ := HT
  obtain ⟨fa', o', pm, doc, H⟩ := H
  have e1 := H.at_
  rw [h1] at e1; cases e1
  have e2 := H.obj
  rw [h2] at e2; cases e2
  have e3 := H.data
  rw [h3] at e3
  injection e3 with e3
  refine ⟨cd, P, ?_, h5, h6, h7, h8, h9⟩
  rw [e3] at h4; exact h4

end Mine

namespace Mine
open PySem PySem.W PySem.Spec PySem.Calls PyProof.Rows

/-- the context of a law with inner codes: the table at P may grow -/
noncomputable def cxG (prog : Program) (w : World) (s₁ : Shared) (mg mb : Str → Option Value) (P : Addr) : Cx := ⟨prog, w, s₁.heap, fun a => a = P, mg, mb, s₁.os⟩

section
variable {p prog : Program} {loose : List Str} {mean : ExcName → Option Value} {mg mb : Str → Option Value} {w : World} {s₁ : Shared} {P : Addr}

theorem ns_ne {h : Heap} {a : Addr} {m : Str → Option Value} (n : h.Ns a m) (hP : h.get? P = some { cls := .none, data := .fields #[] }) : a ≠ P := fun e => by
  obtain ⟨o, es, ep, ho, hd, _⟩ := n
  rw [e, hP] at ho; cases ho; cases hd
theorem cxOkG (T : Top p loose mean mg mb s₁.heap) (hP : s₁.heap.get? P = some { cls := .none, data := .fields #[] }) : CxOk (cxG prog w s₁ mg mb P) :=
  ⟨T.g, ns_ne T.g hP, T.b, ns_ne T.b hP, T.nolimit, (by obtain ⟨mc, n, _⟩ := T.nolimit; exact ns_ne n hP), T.nodigits, T.builtins⟩
theorem wfG (hg : s₁.gens = #[]) (hP : s₁.heap.get? P = some { cls := .none, data := .fields #[] }) : Wf (cxG prog w s₁ mg mb P) s₁ :=
  ⟨fun _ _ _ e => e, fun b h => ⟨⟨#[], trivial⟩, by rw [show b = P from h]; exact hP⟩, OldK.refl _, AllBare.of_eq hg, rfl⟩
theorem standsG (T : Top p loose mean mg mb s₁.heap) (hP : s₁.heap.get? P = some { cls := .none, data := .fields #[] }) (i : Nat) {d : FnD} {r : DefRec} (hr : (recsOf p)[i]? = some r) (e : r.name = d.name ∧ r.params = d.params ∧ r.body = d.body ∧ r.scope = d.scope) : Stands (cxG prog w s₁ mg mb P) d := by
  obtain ⟨a, o, pm, code, doc, h1, h2, h3, h4⟩ := T.fn r (List.mem_of_getElem? hr)
  obtain ⟨e1, e2, e3, e4⟩ := e
  rw [e1] at h1 h4
  rw [e1, e2, e3, e4] at h3
  refine ⟨a, o, pm, code, doc, h1, h2, fun q => ?_, h3, h4, fun b q1 q2 => ?_⟩
  · rw [show a = P from q, hP] at h2; cases h2; cases h3
  · obtain ⟨c', o', vs, t, q3, q4, q5, q6⟩ := h4
    rw [q1] at q3; cases q3
    rw [show b = P from q2, hP] at q4; cases q4; cases q5
    simp at q6
theorem biG (T : Top p loose mean mg mb s₁.heap) {x : Str} {v : Value} (hb : bootBuiltins x = some v) (hne : x ≠ "__name__")
    (h : (decide (x ∉ startupNames) && decide (x ∉ loose) && decide (x ∉ (recsOf p).map (·.name)) && decide (x ∉ (litsOf p).map (·.1)) && decide (x ∉ (clssOf p loose).map (·.name))) = true) : Bi (cxG prog w s₁ mg mb P) x v :=
  let B := bi_of (prog := prog) (w := w) T hb hne h; ⟨B.no, B.is, B.ne⟩
theorem bmG (T : Top p loose mean mg mb s₁.heap) (hP : s₁.heap.get? P = some { cls := .none, data := .fields #[] }) : BMok (cxG prog w s₁ mg mb P) := by
  obtain ⟨bm, ob, h1, h2, h3, h4, h5, h6⟩ := T.bmain
  exact ⟨bm, ob, h1, h2, h3, h4, h5, h6, fun q => by rw [show bm = P from q, hP] at h3; cases h3; cases h4⟩
end

end Mine

namespace Mine
open PySem PySem.W PySem.Spec PySem.Calls PyProof.Rows
/-- as law_endG, where the inner codes lie in another function than the law -/
theorem law_endH {p prog : Program} {loose : List Str} {mean' : ExcName → Option Value} {w : World} {s₁ : Shared} {mg mb : Str → Option Value} {cl : ClaimW} {cls : Str → Option Addr} {mean : ExcName → Option Value} {args : List WData} {d d2 : FnD} {r r2 : DefRec} {ds : List PyData} {vals : List Value} {as : List Addr} {fa : Addr} {lv : Nat} {u : Bool}
    (T : Top p loose mean' mg mb s₁.heap) (hg : s₁.gens = #[]) (hf : mg d.name = some (.ref fa)) (i : Nat) (hr : (recsOf p)[i]? = some r) (e : r.name = d.name ∧ r.params = d.params ∧ r.body = d.body ∧ r.scope = d.scope)
    (i2 : Nat) (hr2 : (recsOf p)[i2]? = some r2) (e2 : r2.name = d2.name ∧ r2.params = d2.params ∧ r2.body = d2.body ∧ r2.scope = d2.scope)
    (h : ∀ P, s₁.heap.get? P = some { cls := .none, data := .fields #[] } → HasTab (cxG prog w s₁ mg mb P) d2 → Fn (cxG prog w s₁ mg mb P) lv d ds (.bool true) u) (hlv : lv ≤ 60) (rd : ReadsAll s₁.heap vals ds as)
    (hn : ∀ c, cl.raises args c = false) (hp : cl.post args (.bool true) args = true) :
    wpAny (model prog w) callerA (PySem.call (.ref fa) vals) (fun v s' => GoodWG cl cls mean args s₁ (.ok (.ret v)) s') (fun e s' => GoodWG cl cls mean args s₁ (.error e) s') s₁ := by
  obtain ⟨a, o, fd, cd, P, t1, t2, t3, t4, t5, t6⟩ := T.tab r2 (List.mem_of_getElem? hr2)
  have hP := t6.2
  have hcd : cd ≠ P := by
    obtain ⟨_, _, _, _, _, _, _, _, _, _, _, _, _, _, _, _, _, _, _, _, q⟩ := t5; exact q
  have hPs : P ≠ cStatics := fun q => by
    obtain ⟨mc, n, _⟩ := T.nolimit
    exact ns_ne n hP q.symm
  have HT : HasTab (cxG prog w s₁ mg mb P) d2 := ⟨a, o, fd, cd, P, by rw [← e2.1]; exact t1, t2, t3, t4, rfl, hcd, hPs, t5, t6⟩
  obtain ⟨fa', o', pm, code, doc, H⟩ := standsG (prog := prog) (w := w) T hP i hr e
  have : fa' = fa := by have := H.at_; rw [show (cxG prog w s₁ mg mb P).mg = mg from rfl, hf] at this; cases this; rfl
  subst this
  refine wpAny_mono (h P hP HT callerA s₁ vals as _ fa' o' pm code doc H ⟨rfl, ?_, ?_, rfl⟩ (wfG hg hP) rd) (fun v s' ⟨x, bs, r1, _, _⟩ => ?_) fun _ _ z => z
  · show 1 + claimMargin + 10 * lv + 10 < recursionLimit
    have h1 : claimMargin = 300 := rfl
    have h2 : recursionLimit = 1000 := rfl
    omega
  · show 4 + 100 * lv + 200 < cLine
    have h2 : cLine = 9900 := rfl
    omega
  · cases r1
    exact ⟨.inl ⟨_, .bool true, [], rfl, hn, .bool _, hp, fun _ => ⟨.nil, nofun⟩⟩, x.wf.old, x.wf.os, x.wf.gens⟩
/-- as standsG and law_endH; the record is not written out in the term -/
theorem rec_of {p : Program} {i : Nat} {d : FnD} (h : (recsOf p)[i]?.map (fun r => (r.name, r.params, r.body, r.scope)) = some (d.name, d.params, d.body, d.scope)) : ∃ r, (recsOf p)[i]? = some r ∧ r.name = d.name ∧ r.params = d.params ∧ r.body = d.body ∧ r.scope = d.scope := by
  cases q : (recsOf p)[i]? with
  | none => rw [q] at h; cases h
  | some r =>
    rw [q] at h
    have h := Option.some.inj h
    refine ⟨r, rfl, ?_, ?_, ?_, ?_⟩
    · exact congrArg (·.1) h
    · exact congrArg (·.2.1) h
    · exact congrArg (·.2.2.1) h
    · exact congrArg (·.2.2.2) h
theorem standsM {p prog : Program} {loose : List Str} {mean : ExcName → Option Value} {mg mb : Str → Option Value} {w : World} {s₁ : Shared} {P : Addr} (T : Top p loose mean mg mb s₁.heap) (hP : s₁.heap.get? P = some { cls := .none, data := .fields #[] }) (i : Nat) {d : FnD} (h : (recsOf p)[i]?.map (fun r => (r.name, r.params, r.body, r.scope)) = some (d.name, d.params, d.body, d.scope)) : Stands (cxG prog w s₁ mg mb P) d := by
  obtain ⟨r, h1, h2⟩ := rec_of h
  exact standsG T hP i h1 h2
theorem law_endM {p prog : Program} {loose : List Str} {mean' : ExcName → Option Value} {w : World} {s₁ : Shared} {mg mb : Str → Option Value} {cl : ClaimW} {cls : Str → Option Addr} {mean : ExcName → Option Value} {args : List WData} {d d2 : FnD} {ds : List PyData} {vals : List Value} {as : List Addr} {fa : Addr} {lv : Nat} {u : Bool}
    (T : Top p loose mean' mg mb s₁.heap) (hg : s₁.gens = #[]) (hf : mg d.name = some (.ref fa)) (i : Nat) (hr : (recsOf p)[i]?.map (fun r => (r.name, r.params, r.body, r.scope)) = some (d.name, d.params, d.body, d.scope))
    (i2 : Nat) (hr2 : (recsOf p)[i2]?.map (fun r => (r.name, r.params, r.body, r.scope)) = some (d2.name, d2.params, d2.body, d2.scope))
    (h : ∀ P, s₁.heap.get? P = some { cls := .none, data := .fields #[] } → HasTab (cxG prog w s₁ mg mb P) d2 → Fn (cxG prog w s₁ mg mb P) lv d ds (.bool true) u) (hlv : lv ≤ 60) (rd : ReadsAll s₁.heap vals ds as)
    (hn : ∀ c, cl.raises args c = false) (hp : cl.post args (.bool true) args = true) :
    wpAny (model prog w) callerA (PySem.call (.ref fa) vals) (fun v s' => GoodWG cl cls mean args s₁ (.ok (.ret v)) s') (fun e s' => GoodWG cl cls mean args s₁ (.error e) s') s₁ := by
  obtain ⟨r, h1, h2⟩ := rec_of hr
  obtain ⟨r2, h3, h4⟩ := rec_of hr2
  exact law_endH T hg hf i h1 h2 i2 h3 h4 h hlv rd hn hp
end Mine

namespace Mine
open PySem

/-! the search in breadth, as the program makes it -/
noncomputable abbrev Pv1 := Nat → Option Nat
noncomputable def updP (P : Pv1) (v u : Nat) : Pv1 := fun x => if x = v then some u else P x
noncomputable def bstep (R : Nat → Nat → Int) (s u : Nat) (st : Pv1 × List Nat) (v : Nat) : Pv1 × List Nat := if 0 < R u v ∧ v ≠ s ∧ st.1 v = none then (updP st.1 v u, st.2 ++ [v]) else st
noncomputable def bvis (R : Nat → Nat → Int) (s n u : Nat) (st : Pv1 × List Nat) : Pv1 × List Nat := (List.range n).foldl (bstep R s u) st
noncomputable def brun (R : Nat → Nat → Int) (s n : Nat) : Nat → Nat → Pv1 × List Nat → Pv1 × List Nat
  | 0, _, st => st
  | m + 1, pl, st => if pl < st.2.length then brun R s n m (pl + 1) (bvis R s n (st.2.getD pl 0) st) else st

structure BI (R : Nat → Nat → Int) (s n : Nat) (st : Pv1 × List Nat) : Prop where
  nd : st.2.Nodup
  hd : st.2[0]? = some s
  lt : ∀ x ∈ st.2, x < n
  mem : ∀ v, v ≠ s → (v ∈ st.2 ↔ st.1 v ≠ none)
  src : st.1 s = none
  par : ∀ v u, st.1 v = some u → u ∈ st.2 ∧ 0 < R u v ∧ st.2.idxOf u < st.2.idxOf v
theorem idx_app {q : List Nat} {w a : Nat} (h : a ∈ q) : (q ++ [w]).idxOf a = q.idxOf a := by rw [List.idxOf_append, if_pos h]
theorem idx_new {q : List Nat} {w : Nat} (h : w ∉ q) : (q ++ [w]).idxOf w = q.length := by rw [List.idxOf_append, if_neg h]; simp
theorem BI.step {R : Nat → Nat → Int} {s n u : Nat} {st : Pv1 × List Nat} (B : BI R s n st) (hu : u ∈ st.2) {v : Nat} (hv : v < n) : BI R s n (bstep R s u st v) ∧ (∃ l, (bstep R s u st v).2 = st.2 ++ l) ∧ (0 < R u v → v ∈ (bstep R s u st v).2) := by
  unfold bstep
  split
  · rename_i h
    obtain ⟨h1, h2, h3⟩ := h
    have hn : v ∉ st.2 := fun q => (B.mem v h2).mp q h3
    refine ⟨⟨?_, ?_, ?_, ?_, ?_, ?_⟩, ⟨_, rfl⟩, fun _ => by simp⟩
    · exact List.nodup_append.mpr ⟨B.nd, by simp, fun a ha b hb e => hn (by rw [← List.mem_singleton.mp hb, ← e]; exact ha)⟩
    · rw [List.getElem?_append_left (List.length_pos_of_mem hu)]; exact B.hd
    · intro x hx
      rcases List.mem_append.mp hx with hx | hx
      · exact B.lt x hx
      · rw [List.mem_singleton.mp hx]; exact hv
    · intro x hx
      show x ∈ st.2 ++ [v] ↔ updP st.1 v u x ≠ none
      rw [List.mem_append, List.mem_singleton, B.mem x hx, updP]
      by_cases q : x = v
      · rw [if_pos q]; simp [q]
      · rw [if_neg q]; simp [q]
    · show updP st.1 v u s = none
      rw [updP, if_neg (fun q => h2 q.symm)]; exact B.src
    · intro x y hxy
      show y ∈ st.2 ++ [v] ∧ 0 < R y x ∧ (st.2 ++ [v]).idxOf y < (st.2 ++ [v]).idxOf x
      simp only [updP] at hxy
      split at hxy
      · rename_i q
        cases hxy
        subst q
        exact ⟨List.mem_append_left _ hu, h1, by rw [idx_app hu, idx_new hn]; exact List.idxOf_lt_length_iff.mpr hu⟩
      · rename_i q
        obtain ⟨a1, a2, a3⟩ := B.par x y hxy
        have hxm : x ∈ st.2 := by
          have hxs : x ≠ s := fun e => by rw [e, B.src] at hxy; cases hxy
          exact (B.mem x hxs).mpr (by rw [hxy]; simp)
        exact ⟨List.mem_append_left _ a1, a2, by rw [idx_app a1, idx_app hxm]; exact a3⟩
  · rename_i h
    refine ⟨B, ⟨[], by simp⟩, fun h1 => ?_⟩
    by_cases h2 : v = s
    · subst h2; exact List.mem_of_getElem? B.hd
    · exact (B.mem v h2).mpr fun q => h ⟨h1, h2, q⟩
theorem BI.fold {R : Nat → Nat → Int} {s n u : Nat} : ∀ (l : List Nat) {st : Pv1 × List Nat}, BI R s n st → u ∈ st.2 → (∀ v ∈ l, v < n) → BI R s n (l.foldl (bstep R s u) st) ∧ (∃ l', (l.foldl (bstep R s u) st).2 = st.2 ++ l') ∧ ∀ v ∈ l, 0 < R u v → v ∈ (l.foldl (bstep R s u) st).2 := by
  intro l
  induction l with
  | nil => intro st B _ _; exact ⟨B, ⟨[], (List.append_nil _).symm⟩, nofun⟩
  | cons v l ih =>
    intro st B hu hl
    obtain ⟨B1, ⟨l1, e1⟩, m1⟩ := B.step hu (hl v (List.mem_cons_self ..))
    obtain ⟨B2, ⟨l2, e2⟩, m2⟩ := ih B1 (by rw [e1]; exact List.mem_append_left _ hu) (fun x hx => hl x (List.mem_cons_of_mem _ hx))
    refine ⟨B2, ⟨l1 ++ l2, by rw [List.foldl_cons, e2, e1, List.append_assoc]⟩, fun x hx h => ?_⟩
    rcases List.mem_cons.mp hx with rfl | hx
    · rw [List.foldl_cons, e2]; exact List.mem_append_left _ (m1 h)
    · exact m2 x hx h
theorem BI.vis {R : Nat → Nat → Int} {s n u : Nat} {st : Pv1 × List Nat} (B : BI R s n st) (hu : u ∈ st.2) : BI R s n (bvis R s n u st) ∧ (∃ l', (bvis R s n u st).2 = st.2 ++ l') ∧ ∀ v, v < n → 0 < R u v → v ∈ (bvis R s n u st).2 := by
  obtain ⟨h1, h2, h3⟩ := BI.fold (u := u) (List.range n) B hu (fun v hv => by simpa using hv)
  exact ⟨h1, h2, fun v hv => h3 v (by simpa using hv)⟩
theorem nodup_le : ∀ {n : Nat} {F : List Nat}, F.Nodup → (∀ x ∈ F, x < n) → F.length ≤ n
  | 0, F, _, h => by cases F with | nil => exact Nat.le_refl _ | cons x F => exact absurd (h x (List.mem_cons_self ..)) (Nat.not_lt_zero _)
  | n + 1, F, hd, h => by
    have h1 : (F.erase n).length ≤ n := nodup_le (hd.erase n) fun x hx => by
      have h2 := h x (List.mem_of_mem_erase hx)
      have h3 : x ≠ n := fun q => by subst q; exact (List.Nodup.not_mem_erase hd) hx
      omega
    have := List.length_erase (a := n) (l := F)
    split at this <;> omega
theorem BI.len {R : Nat → Nat → Int} {s n : Nat} {st : Pv1 × List Nat} (B : BI R s n st) : st.2.length ≤ n := nodup_le B.nd B.lt
/-- what is done when the queue has been walked -/
theorem brun_spec {R : Nat → Nat → Int} {s n : Nat} : ∀ (m pl : Nat) (st : Pv1 × List Nat), BI R s n st → n ≤ m + pl → (∀ i u, i < pl → st.2[i]? = some u → ∀ v, v < n → 0 < R u v → v ∈ st.2) →
    BI R s n (brun R s n m pl st) ∧ ∀ u ∈ (brun R s n m pl st).2, ∀ v, v < n → 0 < R u v → v ∈ (brun R s n m pl st).2 := by
  intro m
  induction m with
  | zero =>
    intro pl st B hm hc
    refine ⟨B, fun u hu v hv h => ?_⟩
    obtain ⟨i, hi, rfl⟩ := List.mem_iff_getElem.mp hu
    have hi' : i < st.2.length := hi
    exact hc i _ (by have := B.len; omega) (List.getElem?_eq_getElem hi') v hv h
  | succ m ih =>
    intro pl st B hm hc
    unfold brun
    split
    · rename_i hpl
      have hg : st.2.getD pl 0 ∈ st.2 := by
        rw [List.getD_eq_getElem?_getD, List.getElem?_eq_getElem hpl]; exact List.getElem_mem hpl
      obtain ⟨B1, ⟨l, e⟩, h3⟩ := B.vis hg
      refine ih (pl + 1) _ B1 (by omega) fun i u hi hu v hv h => ?_
      rcases Nat.lt_succ_iff_lt_or_eq.mp hi with hi | rfl
      · rw [e, List.getElem?_append_left (by omega)] at hu
        rw [e]; exact List.mem_append_left _ (hc i u hi hu v hv h)
      · rw [e, List.getElem?_append_left hpl, List.getElem?_eq_getElem hpl] at hu
        cases hu
        refine h3 v hv ?_
        rw [List.getD_eq_getElem?_getD, List.getElem?_eq_getElem hpl]; exact h
    · rename_i hpl
      refine ⟨B, fun u hu v hv h => ?_⟩
      obtain ⟨i, hi, rfl⟩ := List.mem_iff_getElem.mp hu
      exact hc i _ (by omega) (List.getElem?_eq_getElem hi) v hv h
theorem BI.init {R : Nat → Nat → Int} {s n : Nat} (hs : s < n) : BI R s n (fun _ => none, [s]) :=
  ⟨by simp, rfl, by simpa using hs, fun v hv => by simp [hv], rfl, nofun⟩

/-! the way back -/
noncomputable def pstep (P : Pv1) (s : Nat) (w : Nat × List Nat) : Nat × List Nat := if w.1 ≠ s then ((P w.1).getD 0, w.2 ++ [(P w.1).getD 0]) else w
noncomputable def pwalk (P : Pv1) (s : Nat) : Nat → Nat × List Nat → Nat × List Nat
  | 0, w => w
  | k + 1, w => pwalk P s k (pstep P s w)
noncomputable def augP (n : Nat) (R : Nat → Nat → Int) (s t : Nat) : List Nat :=
  if s = t then [s] else
  match (brun R s n n 0 (fun _ => none, [s])).1 t with
  | none => []
  | some _ => (pwalk (brun R s n n 0 (fun _ => none, [s])).1 s n (t, [t])).2.reverse

/-- a way along rooms, from back to front: the list starts at t and each next item is a forerunner -/
structure PI (R : Nat → Nat → Int) (q : List Nat) (n t : Nat) (w : Nat × List Nat) : Prop where
  hd : w.2[0]? = some t
  last : w.2[w.2.length - 1]? = some w.1
  pos : 1 ≤ w.2.length
  mem : ∀ x ∈ w.2, x ∈ q
  edge : ∀ i a b, w.2[i]? = some a → w.2[i + 1]? = some b → 0 < R b a
  low : ∀ x ∈ w.2, q.idxOf w.1 ≤ q.idxOf x
  nd : w.2.Nodup
theorem PI.step {R : Nat → Nat → Int} {s n t : Nat} {st : Pv1 × List Nat} (B : BI R s n st) {w : Nat × List Nat} (I : PI R st.2 n t w) : PI R st.2 n t (pstep st.1 s w) ∧ (w.1 ≠ s → st.2.idxOf (pstep st.1 s w).1 < st.2.idxOf w.1) := by
  unfold pstep
  split
  · rename_i h
    have hm : w.1 ∈ st.2 := I.mem _ (List.mem_of_getElem? I.last)
    have hne := (B.mem w.1 h).mp hm
    obtain ⟨u, hu⟩ := Option.ne_none_iff_exists'.mp hne
    obtain ⟨h1, h2, h3⟩ := B.par _ _ hu
    rw [hu, Option.getD_some]
    have hp := I.pos
    have hlow : ∀ x ∈ w.2, st.2.idxOf u < st.2.idxOf x := fun x hx => Nat.lt_of_lt_of_le h3 (I.low x hx)
    refine ⟨⟨?_, ?_, ?_, ?_, ?_, ?_, ?_⟩, fun _ => h3⟩
    · show (w.2 ++ [u])[0]? = some t
      rw [List.getElem?_append_left (by omega)]; exact I.hd
    · show (w.2 ++ [u])[(w.2 ++ [u]).length - 1]? = some u
      simp
    · show 1 ≤ (w.2 ++ [u]).length
      simp
    · intro x hx
      rcases List.mem_append.mp hx with hx | hx
      · exact I.mem x hx
      · rw [List.mem_singleton.mp hx]; exact h1
    · intro i a b ha hb
      have ha : (w.2 ++ [u])[i]? = some a := ha
      have hb : (w.2 ++ [u])[i + 1]? = some b := hb
      have hil : i + 1 < (w.2 ++ [u]).length := (List.getElem?_eq_some_iff.mp hb).1
      rw [List.length_append, List.length_singleton] at hil
      rw [List.getElem?_append_left (by omega)] at ha
      by_cases q : i + 1 < w.2.length
      · rw [List.getElem?_append_left q] at hb
        exact I.edge i a b ha hb
      · have e : i = w.2.length - 1 := by omega
        rw [List.getElem?_append_right (by omega), show i + 1 - w.2.length = 0 by omega] at hb
        cases hb
        rw [e, I.last] at ha
        cases ha
        exact h2
    · intro x hx
      show st.2.idxOf u ≤ st.2.idxOf x
      rcases List.mem_append.mp hx with hx | hx
      · exact Nat.le_of_lt (hlow x hx)
      · rw [List.mem_singleton.mp hx]; exact Nat.le_refl _
    · refine List.nodup_append.mpr ⟨I.nd, by simp, fun a ha b hb e => ?_⟩
      rw [List.mem_singleton.mp hb] at e
      have := hlow a ha
      rw [e] at this; exact Nat.lt_irrefl _ this
  · rename_i h
    exact ⟨I, fun q => absurd q (by simpa using h)⟩
theorem pwalk_spec {R : Nat → Nat → Int} {s n t : Nat} {st : Pv1 × List Nat} (B : BI R s n st) : ∀ (k : Nat) (w : Nat × List Nat), PI R st.2 n t w → st.2.idxOf w.1 ≤ k → PI R st.2 n t (pwalk st.1 s k w) ∧ (pwalk st.1 s k w).1 = s := by
  intro k
  induction k with
  | zero =>
    intro w I hk
    refine ⟨I, ?_⟩
    show w.1 = s
    have hm : w.1 ∈ st.2 := I.mem _ (List.mem_of_getElem? I.last)
    have h0 : st.2.idxOf w.1 = 0 := by omega
    have hh := B.hd
    cases hq : st.2 with
    | nil => rw [hq] at hh; cases hh
    | cons a l =>
      rw [hq] at hh h0; cases hh
      rw [List.idxOf_cons] at h0
      by_cases q : s = w.1
      · exact q.symm
      · rw [show (s == w.1) = false from beq_eq_false_iff_ne.mpr q] at h0; simp at h0
  | succ k ih =>
    intro w I hk
    obtain ⟨I1, h1⟩ := I.step B
    unfold pwalk
    by_cases h : w.1 = s
    · refine ih _ I1 ?_
      have e : pstep st.1 s w = w := by unfold pstep; rw [if_neg (by simpa using h)]
      rw [e, h]
      have : st.2.idxOf s = 0 := by
        have hh := B.hd
        cases hq : st.2 with
        | nil => rw [hq] at hh; cases hh
        | cons a l => rw [hq] at hh; cases hh; simp
      omega
    · exact ih _ I1 (by have := h1 h; omega)
/-- the way that the search finds -/
structure Way (R : Nat → Nat → Int) (n s t : Nat) (p : List Nat) : Prop where
  hd : p[0]? = some s
  last : p[p.length - 1]? = some t
  len : 2 ≤ p.length
  lt : ∀ x ∈ p, x < n
  nd : p.Nodup
  edge : ∀ i a b, p[i]? = some a → p[i + 1]? = some b → 0 < R a b
theorem rev_ix {i l : Nat} (h : i + 1 < l) : l - 1 - (i + 1) + 1 = l - 1 - i := by omega
theorem aug_spec {R : Nat → Nat → Int} {n s t : Nat} (hs : s < n) (hst : s ≠ t) :
    (augP n R s t = [] ∧ ∃ S : Nat → Prop, S s ∧ ¬ S t ∧ ∀ u v, S u → v < n → 0 < R u v → S v) ∨ Way R n s t (augP n R s t) := by
  obtain ⟨B, hc⟩ := brun_spec n 0 (fun _ => none, [s]) (BI.init (R := R) hs) (by omega) (fun i _ hi => absurd hi (Nat.not_lt_zero _))
  unfold augP
  rw [if_neg hst]
  generalize brun R s n n 0 (fun _ => none, [s]) = st at B hc
  cases hP : st.1 t with
  | none => exact .inl ⟨rfl, (· ∈ st.2), List.mem_of_getElem? B.hd, fun q => (B.mem t (fun e => hst e.symm)).mp q hP, fun u v hu hv h => hc u hu v hv h⟩
  | some u =>
    right
    have ht : t ∈ st.2 := (B.mem t (fun e => hst e.symm)).mpr (by rw [hP]; simp)
    have I0 : PI R st.2 n t (t, [t]) := ⟨rfl, rfl, by simp, by simpa using ht, fun i a b _ hb => by simp at hb, by simp, by simp⟩
    obtain ⟨I, he⟩ := pwalk_spec B n (t, [t]) I0 (by have := List.idxOf_lt_length_iff.mpr ht; have := B.len; show st.2.idxOf t ≤ n; omega)
    simp only
    generalize pwalk st.1 s n (t, [t]) = w at I he
    have hp := I.pos
    have hl := I.last
    have hh := I.hd
    have h2 : 2 ≤ w.2.length := by
      rcases Nat.lt_or_ge w.2.length 2 with q | q
      · exfalso
        have e1 : w.2.length = 1 := Nat.le_antisymm (Nat.le_of_lt_succ q) hp
        rw [e1] at hl
        rw [show 1 - 1 = 0 from rfl, hh, he] at hl
        cases hl; exact hst rfl
      · exact q
    refine ⟨?_, ?_, by simpa using h2, ?_, ?_, ?_⟩
    · rw [List.getElem?_reverse hp]; simpa [he] using hl
    · rw [List.length_reverse, List.getElem?_reverse (Nat.sub_lt hp Nat.one_pos), Nat.sub_self]; exact hh
    · intro x hx; exact B.lt x (I.mem x (List.mem_reverse.mp hx))
    · exact List.pairwise_reverse.mpr (I.nd.imp fun h => h.symm)
    · intro i a b ha hb
      have hil : i + 1 < w.2.length := by have := (List.getElem?_eq_some_iff.mp hb).1; simpa using this
      rw [List.getElem?_reverse (Nat.lt_of_succ_lt hil)] at ha
      rw [List.getElem?_reverse hil] at hb
      exact I.edge (w.2.length - 1 - (i + 1)) b a hb (by rw [rev_ix hil]; exact ha)

theorem pwalk_succ (P : Pv1) (s : Nat) : ∀ k w, pwalk P s (k + 1) w = pstep P s (pwalk P s k w)
  | 0, _ => rfl
  | k + 1, w => by rw [pwalk, pwalk_succ P s k]; rfl
noncomputable def ptoP (n : Nat) (P : Pv1) (s t : Nat) : List Nat :=
  if s = t then [s] else
  match P t with
  | none => []
  | some _ => (pwalk P s n (t, [t])).2.reverse
theorem augP_eq (n : Nat) (R : Nat → Nat → Int) (s t : Nat) : augP n R s t = ptoP n (brun R s n n 0 (fun _ => none, [s])).1 s t := rfl
/-- the way back never leaves the tree -/
noncomputable def Safe (n : Nat) (P : Pv1) (s t : Nat) : Prop := P t ≠ none → ∀ k, (pwalk P s k (t, [t])).1 < n ∧ ((pwalk P s k (t, [t])).1 ≠ s → ∃ u, P (pwalk P s k (t, [t])).1 = some u) ∧ (pwalk P s k (t, [t])).2.length ≤ n
theorem BI.safe {R : Nat → Nat → Int} {s n t : Nat} {st : Pv1 × List Nat} (B : BI R s n st) : Safe n st.1 s t := by
  intro hP k
  have hts : t ≠ s := fun e => hP (by rw [e]; exact B.src)
  have ht : t ∈ st.2 := (B.mem t hts).mpr hP
  have I : PI R st.2 n t (pwalk st.1 s k (t, [t])) := by
    induction k with
    | zero => exact ⟨rfl, rfl, by simp [pwalk], by simpa [pwalk] using ht, fun i a b _ hb => by simp [pwalk] at hb, by simp [pwalk], by simp [pwalk]⟩
    | succ k ih => rw [pwalk_succ]; exact (ih.step B).1
  have hm := I.mem _ (List.mem_of_getElem? I.last)
  exact ⟨B.lt _ hm, fun h => Option.ne_none_iff_exists'.mp ((B.mem _ h).mp hm), nodup_le I.nd fun x hx => B.lt x (I.mem x hx)⟩
theorem brun_done {R : Nat → Nat → Int} {s n m pl : Nat} {st : Pv1 × List Nat} (h : ¬ pl < st.2.length) : brun R s n m pl st = st := by
  cases m with
  | zero => rfl
  | succ m => rw [brun, if_neg h]

/-! lists of points or None -/
noncomputable def optN : Option Nat → PyData
  | none => .none
  | some a => .int (a : Int)
noncomputable def mkP (n : Nat) (P : Pv1) : List PyData := (List.range n).map fun v => optN (P v)
theorem mkP_at {n v : Nat} {P : Pv1} (h : v < n) : (mkP n P)[v]? = some (optN (P v)) := rangeMap_at h
theorem mkP_set {n v u : Nat} {P : Pv1} : (mkP n P).set v (.int (u : Int)) = mkP n (updP P v u) := by
  rw [mkP, rangeMap_set, mkP]
  refine List.map_congr_left fun i _ => ?_
  unfold updP; split <;> rfl
end Mine

namespace Mine

/-! sums over 0 .. n - 1 -/
noncomputable def sm : Nat → (Nat → Int) → Int
  | 0, _ => 0
  | n + 1, f => sm n f + f n
theorem sm_list (n : Nat) (f : Nat → Int) : ((List.range n).map f).sum = sm n f := by
  induction n with
  | zero => rfl
  | succ n ih => rw [List.range_succ, List.map_append, List.sum_append, ih]; simp [sm]
theorem sm_congr {n : Nat} {f g : Nat → Int} (h : ∀ i, i < n → f i = g i) : sm n f = sm n g := by
  induction n with
  | zero => rfl
  | succ n ih => rw [sm, sm, ih fun i hi => h i (by omega), h n (by omega)]
theorem sm_add (n : Nat) (f g : Nat → Int) : sm n (fun i => f i + g i) = sm n f + sm n g := by
  induction n with
  | zero => rfl
  | succ n ih => rw [sm, sm, sm, ih]; omega
theorem sm_sub (n : Nat) (f g : Nat → Int) : sm n (fun i => f i - g i) = sm n f - sm n g := by
  induction n with
  | zero => rfl
  | succ n ih => rw [sm, sm, sm, ih]; omega
theorem sm_zero (n : Nat) : sm n (fun _ => 0) = 0 := by
  induction n with
  | zero => rfl
  | succ n ih => rw [sm, ih]; rfl
theorem sm_nonneg {n : Nat} {f : Nat → Int} (h : ∀ i, i < n → 0 ≤ f i) : 0 ≤ sm n f := by
  induction n with
  | zero => exact Int.le_refl _
  | succ n ih => rw [sm]; have := ih fun i hi => h i (by omega); have := h n (by omega); omega
theorem sm_one {n v : Nat} {e : Int} (h : v < n) : sm n (fun i => if i = v then e else 0) = e := by
  induction n with
  | zero => exact absurd h (Nat.not_lt_zero _)
  | succ n ih =>
    rw [sm]
    by_cases q : v = n
    · subst q
      rw [sm_congr (g := fun _ => 0) fun i hi => if_neg (by omega), sm_zero, if_pos rfl]; omega
    · rw [ih (by omega), if_neg (fun e => q e.symm)]; omega
theorem sm_swap (n m : Nat) (g : Nat → Nat → Int) : sm n (fun i => sm m (g i)) = sm m (fun j => sm n fun i => g i j) := by
  induction n with
  | zero => rw [show (fun j => sm 0 fun i => g i j) = fun _ => 0 from rfl, sm_zero]; rfl
  | succ n ih => rw [sm, ih, ← sm_add]; rfl
theorem sm_anti {n : Nat} {g : Nat → Nat → Int} (h : ∀ i j, i < n → j < n → g i j = - g j i) : sm n (fun i => sm n (g i)) = 0 := by
  have h1 := sm_swap n n g
  have h2 : sm n (fun j => sm n fun i => g i j) = 0 - sm n (fun i => sm n (g i)) := by
    rw [show (0 : Int) = sm n (fun _ => 0) from (sm_zero n).symm, ← sm_sub]
    refine sm_congr fun j hj => ?_
    rw [show (0 : Int) = sm n (fun _ => 0) from (sm_zero n).symm, ← sm_sub]
    exact sm_congr fun i hi => by rw [h i j hi hj]; omega
  omega

noncomputable abbrev Tb := Nat → Nat → Int
/-- a push of d along one pipe -/
noncomputable def push1 (R : Tb) (d : Int) (u v : Nat) : Tb := fun a b => if a = v ∧ b = u then R v u + d else if a = u ∧ b = v then R u v - d else R a b
theorem push1_row {R : Tb} {d : Int} {u v n : Nat} (hu : u < n) (hv : v < n) (hne : u ≠ v) (x : Nat) : sm n (push1 R d u v x) = sm n (R x) - (if x = u then d else 0) + (if x = v then d else 0) := by
  by_cases h1 : x = u
  · subst h1
    have : sm n (push1 R d x v x) = sm n (fun b => R x b - (if b = v then d else 0)) := sm_congr fun b _ => by
      unfold push1
      rw [if_neg (fun q => hne q.1)]
      by_cases q : b = v
      · subst q; simp
      · rw [if_neg (fun h => q h.2), if_neg q]; omega
    rw [this, sm_sub, sm_one hv, if_pos rfl, if_neg hne]; omega
  · by_cases h2 : x = v
    · subst h2
      have : sm n (push1 R d u x x) = sm n (fun b => R x b + (if b = u then d else 0)) := sm_congr fun b _ => by
        unfold push1
        by_cases q : b = u
        · subst q; simp
        · rw [if_neg (fun h => q h.2), if_neg (fun h => h1 h.1), if_neg q]; omega
      rw [this, sm_add, sm_one hu, if_pos rfl, if_neg h1]; omega
    · have : sm n (push1 R d u v x) = sm n (R x) := sm_congr fun b _ => by
        unfold push1
        rw [if_neg (fun h => h2 h.1), if_neg (fun h => h1 h.1)]
      rw [this, if_neg h1, if_neg h2]; omega
noncomputable def pushN (R : Tb) (d : Int) (p : List Nat) : Nat → Tb
  | 0 => R
  | j + 1 => push1 (pushN R d p j) d (p.getD j 0) (p.getD (j + 1) 0)
/-- what holds of the rooms all along -/
structure FI (C R : Tb) (n s t : Nat) : Prop where
  nn : ∀ u v, u < n → v < n → 0 ≤ R u v
  sym : ∀ u v, u < n → v < n → R u v + R v u = C u v + C v u
  con : ∀ x, x < n → x ≠ s → x ≠ t → sm n (R x) = sm n (C x)
theorem FI.init {C : Tb} {n s t : Nat} (h : ∀ u v, u < n → v < n → 0 ≤ C u v) : FI C C n s t := ⟨h, fun _ _ _ _ => rfl, fun _ _ _ _ => rfl⟩
section
variable {R : Tb} {n s t : Nat} {p : List Nat}
theorem way_at (W : Way R n s t p) {i : Nat} (h : i < p.length) : p[i]? = some (p.getD i 0) := by
  rw [List.getD_eq_getElem?_getD, List.getElem?_eq_getElem h]; rfl
theorem way_lt (W : Way R n s t p) {i : Nat} (h : i < p.length) : p.getD i 0 < n := W.lt _ (List.mem_of_getElem? (way_at W h))
theorem way_ne (W : Way R n s t p) {i j : Nat} (hi : i < p.length) (hj : j < p.length) (hne : i ≠ j) : p.getD i 0 ≠ p.getD j 0 := fun e => by
  have h1 := way_at W hi
  have h2 := way_at W hj
  rw [← e] at h2
  exact hne ((List.getElem?_inj hi W.nd).mp (h1.trans h2.symm))
theorem pushN_far (W : Way R n s t p) {d : Int} : ∀ j a b, (∀ i, i ≤ j → a ≠ p.getD i 0) ∨ (∀ i, i ≤ j → b ≠ p.getD i 0) → pushN R d p j a b = R a b
  | 0, _, _, _ => rfl
  | j + 1, a, b, h => by
    unfold pushN push1
    have h1 : ¬ (a = p.getD (j + 1) 0 ∧ b = p.getD j 0) := fun q => h.elim (fun k => k (j + 1) (by omega) q.1) (fun k => k j (by omega) q.2)
    have h2 : ¬ (a = p.getD j 0 ∧ b = p.getD (j + 1) 0) := fun q => h.elim (fun k => k j (by omega) q.1) (fun k => k (j + 1) (by omega) q.2)
    rw [if_neg h1, if_neg h2]
    exact pushN_far W j a b (h.imp (fun k i hi => k i (by omega)) (fun k i hi => k i (by omega)))
theorem pushN_fwd (W : Way R n s t p) {d : Int} {j : Nat} (hj : j + 1 < p.length) : pushN R d p j (p.getD j 0) (p.getD (j + 1) 0) = R (p.getD j 0) (p.getD (j + 1) 0) :=
  pushN_far W j _ _ (.inr fun i hi => way_ne W hj (by omega) (by omega))
theorem pushN_bwd (W : Way R n s t p) {d : Int} {j : Nat} (hj : j + 1 < p.length) : pushN R d p j (p.getD (j + 1) 0) (p.getD j 0) = R (p.getD (j + 1) 0) (p.getD j 0) :=
  pushN_far W j _ _ (.inl fun i hi => way_ne W hj (by omega) (by omega))
theorem len_lt {j l : Nat} (h : j + 1 < l) : j < l := Nat.lt_of_succ_lt h
theorem push_nn {a d : Int} (h : 0 ≤ a) (hd : 0 < d) : 0 ≤ a + d := by omega
theorem push_nn2 {a d : Int} (h : d ≤ a) : 0 ≤ a - d := by omega
theorem push_z {a z : Int} (p : Prop) [Decidable p] : a = a - (if p then z else 0) + (if p then z else 0) := by omega
theorem push_t {a x y z : Int} : a - x + y - y + z = a - x + z := by omega
theorem pushN_ok {C : Tb} (W : Way R n s t p) (F : FI C R n s t) {d : Int} (hd : 0 < d) (hle : ∀ j, j + 1 < p.length → d ≤ R (p.getD j 0) (p.getD (j + 1) 0)) :
    ∀ j, j < p.length → (∀ u v, u < n → v < n → 0 ≤ pushN R d p j u v) ∧ (∀ u v, u < n → v < n → pushN R d p j u v + pushN R d p j v u = C u v + C v u) ∧
      ∀ x, sm n (pushN R d p j x) = sm n (R x) - (if x = s then d else 0) + (if x = p.getD j 0 then d else 0) := by
  intro j
  induction j with
  | zero => exact fun hj => ⟨F.nn, F.sym, fun x => by
      have : p.getD 0 0 = s := by have := way_at W hj; rw [W.hd] at this; exact (Option.some.inj this).symm
      rw [this]; exact push_z _⟩
  | succ j ih =>
    intro hj
    obtain ⟨h1, h2, h3⟩ := ih (len_lt hj)
    have hu := way_lt W (i := j) (len_lt hj)
    have hv := way_lt W hj
    have hne := way_ne W (i := j) (j := j + 1) (len_lt hj) hj (Nat.ne_of_lt (Nat.lt_succ_self j))
    have hf := pushN_fwd W (d := d) hj
    have hb := pushN_bwd W (d := d) hj
    have hr := hle j hj
    refine ⟨fun a b ha hb' => ?_, fun a b ha hb' => ?_, fun x => ?_⟩
    · unfold pushN push1
      split
      · exact push_nn (h1 _ _ hv hu) hd
      · split
        · rw [hf]; exact push_nn2 hr
        · exact h1 a b ha hb'
    · have hs := h2 a b ha hb'
      have e : ∀ x y, pushN R d p (j + 1) x y = push1 (pushN R d p j) d (p.getD j 0) (p.getD (j + 1) 0) x y := fun _ _ => rfl
      rw [e, e]
      generalize pushN R d p j = T at *
      generalize p.getD j 0 = u at *
      generalize p.getD (j + 1) 0 = v at *
      unfold push1
      by_cases q1 : a = v ∧ b = u
      · obtain ⟨rfl, rfl⟩ := q1
        simp [hne, Ne.symm hne]; omega
      · by_cases q2 : a = u ∧ b = v
        · obtain ⟨rfl, rfl⟩ := q2
          simp [hne, Ne.symm hne]; omega
        · rw [if_neg q1, if_neg q2, if_neg (fun h => q2 ⟨h.2, h.1⟩), if_neg (fun h => q1 ⟨h.2, h.1⟩)]; exact hs
    · show sm n (push1 (pushN R d p j) d (p.getD j 0) (p.getD (j + 1) 0) x) = _
      rw [push1_row hu hv hne, h3]; exact push_t
/-- an augmentation keeps the invariant and takes from the source's row -/
theorem FI.augment {C : Tb} (W : Way R n s t p) (F : FI C R n s t) {d : Int} (hd : 0 < d) (hle : ∀ j, j + 1 < p.length → d ≤ R (p.getD j 0) (p.getD (j + 1) 0)) (hst : s ≠ t) :
    FI C (pushN R d p (p.length - 1)) n s t ∧ sm n (pushN R d p (p.length - 1) s) = sm n (R s) - d := by
  have hl := W.len
  obtain ⟨h1, h2, h3⟩ := pushN_ok W F hd hle (p.length - 1) (by omega)
  have ht : p.getD (p.length - 1) 0 = t := by
    have := way_at W (i := p.length - 1) (by omega); rw [W.last] at this; exact (Option.some.inj this).symm
  rw [ht] at h3
  refine ⟨⟨h1, h2, fun x hx hxs hxt => ?_⟩, ?_⟩
  · rw [h3, if_neg hxs, if_neg hxt, ← F.con x hx hxs hxt]; omega
  · rw [h3, if_pos rfl, if_neg hst]; omega
end

/-! the whole of the augmenting -/
noncomputable def narw (R : Tb) (p : List Nat) : Int := lmin ((List.range (p.length - 1)).map fun i => R (p.getD i 0) (p.getD (i + 1) 0))
noncomputable def pth (n : Nat) (R : Tb) (s t : Nat) : List Nat := if s = t then [] else augP n R s t
noncomputable def mfR (n s t : Nat) : Nat → Tb → Tb
  | 0, R => R
  | k + 1, R => if pth n R s t = [] then R else mfR n s t k (pushN R (narw R (pth n R s t)) (pth n R s t) ((pth n R s t).length - 1))
theorem pth_way {n s t : Nat} {R : Tb} (hs : s < n) (h : pth n R s t ≠ []) : s ≠ t ∧ Way R n s t (pth n R s t) := by
  unfold pth at h ⊢
  by_cases q : s = t
  · rw [if_pos q] at h; exact absurd rfl h
  · rw [if_neg q] at h ⊢
    exact ⟨q, (aug_spec hs q).resolve_left fun k => h k.1⟩
theorem narw_pos {n s t : Nat} {R : Tb} {p : List Nat} (W : Way R n s t p) : 0 < narw R p ∧ ∀ j, j + 1 < p.length → narw R p ≤ R (p.getD j 0) (p.getD (j + 1) 0) := by
  have hl := W.len
  constructor
  · have hm := lmin_mem (ns := (List.range (p.length - 1)).map fun i => R (p.getD i 0) (p.getD (i + 1) 0)) (by intro q; have := congrArg List.length q; simp at this; omega)
    obtain ⟨i, hi, e⟩ := List.mem_map.mp hm
    have hi : i < p.length - 1 := by simpa using hi
    rw [narw, ← e]
    exact W.edge i _ _ (way_at W (by omega)) (way_at W (by omega))
  · intro j hj
    exact lmin_le (List.mem_map.mpr ⟨j, by simp; omega, rfl⟩)
/-- the end of it: the invariant, and no way left -/
theorem mfR_end {C : Tb} {n s t : Nat} (hs : s < n) : ∀ (k : Nat) (R : Tb), FI C R n s t → sm n (R s) < k → FI C (mfR n s t k R) n s t ∧ pth n (mfR n s t k R) s t = []
  | 0, R, F, hk => absurd (sm_nonneg fun v hv => F.nn s v hs hv) (by omega)
  | k + 1, R, F, hk => by
    unfold mfR
    split
    · rename_i h; exact ⟨F, h⟩
    · rename_i h
      obtain ⟨hst, W⟩ := pth_way hs h
      obtain ⟨h1, h2⟩ := narw_pos W
      obtain ⟨F', e⟩ := F.augment W h1 h2 hst
      exact mfR_end hs k _ F' (by rw [e]; omega)
end Mine

namespace Mine
open PySem
section
open PySem.Spec PySem.Calls PyProof.Rows
/-- an assignment whose store is not swapped in this very frame (a comprehension into a cell) -/
theorem s_asgE {c : Cx} {f : Fm} {ρ ρ' : Rho} {rest : List Stmt} {Q : Fl → Rho → Prop} {e : Expr} {d : PyData} {k : EK} {pos xp : Pos} {x : Str} {i : Nat} {sk : K} (FS : FmS c f) (h : Ev c f ρ e d k) (hk : Fills k d sk) (hU : Upd f.xs ρ x (some ⟨sk, d⟩) ρ' i) (hQ : Ex c f rest ρ' Q) (hs : swapsWith e (some (.Name x xp)) pos.line f.env = pure false := by with_unfolding_all rfl) :
    Ex c f (.Assign [.Name x xp] e pos :: rest) ρ Q := by
  obtain ⟨hx, hi, rfl⟩ := hU.get
  refine ex_cons fun mo val fp s S => ?_
  refine wpAny_Assign_Name (h.bind S fun v s1 as x1 S1 r1 ko => ?_) hs
  obtain ⟨ok, fresh⟩ := hk.ok S x1 r1 ko (i := i)
  refine store_step (sl := ⟨sk, d⟩) FS S1 hx hi r1 ko.1 ok fun s2 S2 hk2 th2 => ?_
  refine ⟨.next, _, _, _, _, trivial, S2, ⟨fun b o h1 h2 h3 e => hk2 b o h2 (x1.up.kp b o h1 e), fun b o e => let ⟨o', e'⟩ := x1.up.th b o e; th2 b o' e', fun b h => ?_⟩, hQ⟩
  rcases h with h | ⟨h, hb⟩
  · exact .inl h
  · exact .inr (fresh h b hb)
end
noncomputable def capP (u v : Int) (e : Nat × Nat × Int) : Bool := ((e.1 : Int) == u) && ((e.2.1 : Int) == v)
noncomputable def capF (es : List (Nat × Nat × Int)) (u v : Int) : Int := ((es.filter (capP u v)).map (·.2.2)).sum
theorem capF_snoc (es : List (Nat × Nat × Int)) (e : Nat × Nat × Int) (u v : Int) : capF (es ++ [e]) u v = if u = e.1 ∧ v = e.2.1 then capF es u v + e.2.2 else capF es u v := by
  unfold capF
  rw [List.filter_append, List.map_append, List.sum_append]
  by_cases h : u = e.1 ∧ v = e.2.1
  · rw [if_pos h, List.filter_cons, if_pos (by simp [capP, h])]; simp
  · rw [if_neg h, List.filter_cons, if_neg (by simp only [capP, Bool.and_eq_true, beq_iff_eq]; intro q; exact h ⟨q.1.symm, q.2.symm⟩)]; simp


theorem sum_nonneg : ∀ {l : List Int}, (∀ x ∈ l, 0 ≤ x) → 0 ≤ l.sum
  | [], _ => Int.le_refl _
  | x :: l, h => by rw [List.sum_cons]; have := h x (List.mem_cons_self ..); have := sum_nonneg (l := l) fun y hy => h y (List.mem_cons_of_mem _ hy); omega
theorem capF_nonneg {es : List (Nat × Nat × Int)} (h : ∀ e ∈ es, 0 ≤ e.2.2) (u v : Int) : 0 ≤ capF es u v := by
  unfold capF
  refine sum_nonneg fun x hx => ?_
  obtain ⟨e, he, rfl⟩ := List.mem_map.mp hx
  exact h e (List.mem_filter.mp he).1

/-! the source's side -/
noncomputable def RG (C Fl : Tb) : Tb := fun u v => if Fl u v < C u v ∨ Fl v u > 0 then 1 else 0
noncomputable def sdB (s : Nat) (P : Pv1) (v : Nat) : Bool := decide (v = s) || (P v).isSome
theorem RG_pos {C Fl : Tb} {u v : Nat} : 0 < RG C Fl u v ↔ (Fl u v < C u v ∨ Fl v u > 0) := by
  unfold RG; split
  · exact ⟨fun _ => by assumption, fun _ => by decide⟩
  · rename_i h; exact ⟨fun q => absurd q (by decide), fun q => absurd q h⟩
theorem RG_iff {C R : Tb} {n s t : Nat} (F : FI C R n s t) (h0 : ∀ u v, u < n → v < n → 0 ≤ C u v) {u v : Nat} (hu : u < n) (hv : v < n) : 0 < RG C (fun u v => max (C u v - R u v) 0) u v ↔ 0 < R u v := by
  rw [RG_pos]
  have h1 := F.nn u v hu hv
  have h2 := F.sym u v hu hv
  have h3 := h0 u v hu hv
  have h4 := F.nn v u hv hu
  omega
theorem side_mem {R : Tb} {s n : Nat} {st : Pv1 × List Nat} (B : BI R s n st) (v : Nat) : sdB s st.1 v = true ↔ v ∈ st.2 := by
  unfold sdB
  by_cases h : v = s
  · subst h; simp; exact List.mem_of_getElem? B.hd
  · rw [B.mem v h]; simp [h, Option.isSome_iff_ne_none]
theorem side_sound {R : Tb} {s n : Nat} {st : Pv1 × List Nat} (B : BI R s n st) {S : Nat → Prop} (hs : S s) (hc : ∀ u v, S u → u < n → v < n → 0 < R u v → S v) : ∀ k v, st.2.idxOf v ≤ k → v ∈ st.2 → S v := by
  intro k
  induction k with
  | zero =>
    intro v hk hv
    by_cases h : v = s
    · rw [h]; exact hs
    · obtain ⟨u, hu⟩ := Option.ne_none_iff_exists'.mp ((B.mem v h).mp hv)
      have := (B.par v u hu).2.2; omega
  | succ k ih =>
    intro v hk hv
    by_cases h : v = s
    · rw [h]; exact hs
    · obtain ⟨u, hu⟩ := Option.ne_none_iff_exists'.mp ((B.mem v h).mp hv)
      obtain ⟨h1, h2, h3⟩ := B.par v u hu
      exact hc u v (ih u (by omega) h1) (B.lt u h1) (B.lt v hv) h2
end Mine

namespace Mine
open PySem PySem.Spec PySem.Calls PyProof.Rows
noncomputable abbrev T2 := Int × Int
noncomputable abbrev T3 := Int × Int × Int
noncomputable abbrev encP2 (t : T2) : PyData := .tuple [.int t.1, .int t.2]
theorem len1 {α : Type} {vals : List α} (h : vals.length = 1) : ∃ a, vals = [a] := List.length_eq_one_iff.mp h
theorem len2 {α : Type} {vals : List α} (h : vals.length = 2) : ∃ a b, vals = [a, b] := by
  cases vals with
  | nil => cases h
  | cons a l => obtain ⟨b, rfl⟩ := len1 (Nat.succ.inj h); exact ⟨a, b, rfl⟩
theorem len3 {α : Type} {vals : List α} (h : vals.length = 3) : ∃ a b c, vals = [a, b, c] := by
  cases vals with
  | nil => cases h
  | cons a l => obtain ⟨b, c, rfl⟩ := len2 (Nat.succ.inj h); exact ⟨a, b, c, rfl⟩
theorem len4 {α : Type} {vals : List α} (h : vals.length = 4) : ∃ a b c d, vals = [a, b, c, d] := by
  cases vals with
  | nil => cases h
  | cons a l => obtain ⟨b, c, d, rfl⟩ := len3 (Nat.succ.inj h); exact ⟨a, b, c, d, rfl⟩
/-- a tuple of ints -/
theorem rd_ints {h : Heap} : ∀ {ns : List Int} {vs : List Value} {as : List Addr}, ReadsAll h vs (ns.map .int) as → ∃ us : List Tok, vs = List.zipWith Value.int ns us ∧ us.length = ns.length
  | [], _, _, r => ⟨[], rd_nil r, rfl⟩
  | n :: ns, _, _, r => by
    obtain ⟨v, ws, bs, cs, rfl, r1, r2⟩ := rd_cons r
    obtain ⟨t, rfl⟩ := rd_int r1
    obtain ⟨us, rfl, hl⟩ := rd_ints r2
    exact ⟨t :: us, rfl, congrArg (· + 1) hl⟩
theorem rd_pair {h : Heap} {v : Value} {t : T2} {as : List Addr} (r : Reads h v (encP2 t) as) : ∃ a t1 t2, v = .ref a ∧ IsTup h a #[.int t.1 t1, .int t.2 t2] := by
  obtain ⟨a, vs, rfl, ht, r⟩ := rd_tup r
  obtain ⟨us, e, hl⟩ := rd_ints (ns := [t.1, t.2]) r
  obtain ⟨u1, u2, e2⟩ := len2 hl
  subst e2
  exact ⟨a, u1, u2, rfl, Array.ext' (ys := #[Value.int t.1 u1, Value.int t.2 u2]) e ▸ ht⟩
theorem rd_trip {h : Heap} {v : Value} {t : T3} {as : List Addr} (r : Reads h v (encI t) as) : ∃ a t1 t2 t3, v = .ref a ∧ IsTup h a #[.int t.1 t1, .int t.2.1 t2, .int t.2.2 t3] := by
  obtain ⟨a, vs, rfl, ht, r⟩ := rd_tup r
  obtain ⟨us, e, hl⟩ := rd_ints (ns := [t.1, t.2.1, t.2.2]) r
  obtain ⟨u1, u2, u3, e2⟩ := len3 hl
  subst e2
  exact ⟨a, u1, u2, u3, rfl, Array.ext' (ys := #[Value.int t.1 u1, Value.int t.2.1 u2, Value.int t.2.2 u3]) e ▸ ht⟩
/-- where a name stands, by its place -/
theorem At.via {x : Str} {sl : Slot} {i : Nat} : ∀ {xs : List Str} {ρ : Rho}, Nm xs x i → ρ[i]? = some (some sl) → At xs ρ x sl i := by
  induction i with
  | zero =>
    intro xs ρ n h
    cases n
    cases ρ with
    | nil => cases h
    | cons o ρ =>
      have h : some o = some (some sl) := h
      cases h; exact .here
  | succ i ih =>
    intro xs ρ n h
    cases n with
    | there n =>
    cases ρ with
    | nil => cases h
    | cons o ρ => exact .there (ih n h)
theorem nI1 {n m : Nat} (h : n ≤ m) (hm : m ≤ 100) : (n : Int) < 2 ^ 62 := by omega
theorem nI2 {n : Nat} : -(2 ^ 62) ≤ (n : Int) := by omega
theorem nI3 {n : Nat} : 0 ≤ (n : Int) := Int.natCast_nonneg n
theorem nI4 {n m : Nat} (h : n ≤ m) (hm : m ≤ 100) : (n : Int) < 2 ^ 63 := by omega
theorem nI5 {n m : Nat} (h : n < m) (hm : m ≤ 100) : (n : Int) < 2 ^ 63 := by omega
theorem szN {n m : Nat} (h : n ≤ m) (hm : m ≤ 100) : (List.range ((n : Int)).toNat).length ≤ sizeLine := by rw [Int.toNat_natCast, List.length_range]; exact Nat.le_trans h (Nat.le_trans hm (by decide +kernel))
theorem szM {α : Type} {l : List α} {m : Nat} (h : l.length ≤ m) (hm : m ≤ 100) : l.length ≤ sizeLine := Nat.le_trans h (Nat.le_trans hm (by decide +kernel))
theorem szG {α β : Type} {l : List α} {g : α → β} {m : Nat} (h : l.length ≤ m) (hm : m ≤ 100) : (l.map g).length ≤ sizeLine := by rw [List.length_map]; exact szM h hm
theorem szR {β : Type} {n m : Nat} {g : Nat → β} (h : n ≤ m) (hm : m ≤ 100) : ((List.range n).map g).length ≤ sizeLine := szG (by rw [List.length_range]; exact h) hm
theorem lenI {α β : Type} {l : List α} {g : α → β} {m : Nat} (h : l.length ≤ m) (hm : m ≤ 100) : (l.map g).length < 2 ^ 63 := by rw [List.length_map]; omega
theorem lenJ {α β : Type} {l : List α} {g : α → β} {m : Nat} (h : l.length ≤ m) (hm : m ≤ 100) : ((l.map g).length : Int) < 2 ^ 62 := by rw [List.length_map]; omega
theorem lenK {α β : Type} {l : List α} {g : α → β} : -(2 ^ 62) ≤ ((l.map g).length : Int) := by omega
theorem up1 {i : Nat} : 0 ≤ 1 + (i : Int) := by omega
theorem up2 {i m : Nat} (h : i < m) (hm : m ≤ 100) : 1 + (i : Int) < 2 ^ 63 := by omega
theorem up3 {i : Nat} : 0 ≤ 1 + (i : Int) - 1 := by omega
theorem up4 {i m : Nat} (h : i < m) (hm : m ≤ 100) : 1 + (i : Int) - 1 < 2 ^ 63 := by omega
theorem bne_nat {s t : Nat} (h : ((s : Int) != (t : Int)) = true) : s ≠ t := fun e => by rw [e, bne_self_eq_false] at h; cases h
theorem bne_natf {s t : Nat} (h : ((s : Int) != (t : Int)) = false) : s = t := Int.ofNat.inj (bne_eq_false_iff_eq.mp h)
theorem beq_nat {s t : Nat} (h : ((s : Int) == (t : Int)) = true) : s = t := Int.ofNat.inj (eq_of_beq h)
theorem beq_natf {s t : Nat} (h : ((s : Int) == (t : Int)) = false) : s ≠ t := fun e => by rw [e, beq_self_eq_true] at h; cases h
theorem lt_len {α β : Type} {l : List α} {g : α → β} {i : Nat} (h : decide ((i : Int) < ((l.map g).length : Int)) = true) : i < l.length := by rw [List.length_map] at h; exact Int.ofNat_lt.mp (of_decide_eq_true h)
theorem nlt_len {α β : Type} {l : List α} {g : α → β} {i : Nat} (h : decide ((i : Int) < ((l.map g).length : Int)) = false) : ¬ i < l.length := fun k => of_decide_eq_false h (by rw [List.length_map]; exact Int.ofNat_lt.mpr k)
theorem pos_m {m pl l n : Nat} (h : m + pl = n) (h1 : pl < l) (h2 : l ≤ n) : ∃ m', m = m' + 1 := ⟨m - 1, by omega⟩
theorem mp1 {m pl n : Nat} (h : m + 1 + pl = n) : m + (pl + 1) = n := by omega
theorem toK (z : Int) : z < ((z.toNat + 1 : Nat) : Int) := by omega
theorem pos_k {k : Nat} {z : Int} (h0 : 0 ≤ z) (h : z < (k : Int)) : ∃ k', k = k' + 1 := ⟨k - 1, by omega⟩
theorem lt_pre {i l : Nat} (h : i < l - 1) : i < l := by omega
theorem lt_suc {i l : Nat} (h : i < l - 1) : i + 1 < l := by omega
theorem tn1 {i : Nat} : (1 + (i : Int) - 1).toNat = i := by omega
theorem tn2 {i : Nat} : (1 + (i : Int)).toNat = i + 1 := by omega
theorem lm1 {α β : Type} {l : List α} {g : α → β} : (((l.map g).length : Int) - 1).toNat = l.length - 1 := by rw [List.length_map]; omega
theorem dn1 {k m : Nat} {z w d : Int} (hm : m = w.toNat) (hd : 0 < d) (hz : z = w - d) (h0 : 0 ≤ z) : z.toNat < m := by omega
theorem dn2 {k : Nat} {z w d : Int} (hk : w < ((k + 1 : Nat) : Int)) (hd : 0 < d) (hz : z = w - d) : z < (k : Int) := by omega
theorem rngN {n v : Nat} (h : v ∈ List.range ((n : Int)).toNat) : v < n := by rw [Int.toNat_natCast] at h; exact List.mem_range.mp h
theorem nI6 {n m : Nat} (h : n ≤ m) (hm : m ≤ 100) : (n : Int) < 1073741824 := by omega
theorem le17 {l : Nat} (h : l ≤ 17) : l ≤ sizeLine := Nat.le_trans h (by decide +kernel)
theorem Sm.str {n : Nat} {s : Str} (h : PyData.strOk s = true) : Sm n (.str s) := ⟨by rw [PyData.canLay0]; exact h, Nat.zero_le _⟩
section
variable {c : Cx} {f : Fm} {ρ ρ1 ρ2 ρ3 : Rho} {mo : Addr → Prop} {val : Nat → Value} {fp : Nat → List Addr} {s : Shared} {Q' : Unit → Shared → Prop} {E : Value → Shared → Prop} {x y z : Str} {xp yp zp tp : Pos} {i j l : Int} {u v w : Tok} {n1 n2 n3 tn : Nat} {k : EK}
noncomputable def Aft (c : Cx) (f : Fm) (mo : Addr → Prop) (s : Shared) (ρ2 : Rho) (K : Shared → Prop) : Prop :=
  ∀ s4 mo4 val4 fp4, St c f ρ2 mo4 val4 fp4 s4 → (∀ b, mo4 b → mo b) → (∀ b o, ¬ Pv f b → s.heap.get? b = some o → s4.heap.get? b = some o) → (∀ b o, s.heap.get? b = some o → ∃ o', s4.heap.get? b = some o') → K s4
theorem asg_one (FS : FmS c f) (hU : Upd f.xs ρ x (some ⟨.lo, .int i⟩) ρ1 n1) (S : St c f ρ mo val fp s) {k : Sem Unit} {L : List Value} (h : Aft c f mo s ρ1 (fun s4 => wpAny c.M f.A k Q' E s4)) : wpAny c.M f.A (do holding L (assign (.Name x xp) f.env (.int i u)); k) Q' E s := by
  obtain ⟨hx, hi, rfl⟩ := hU.get
  refine wpAny_bind (wpAny_holding (wpAny_assign_Name ?_))
  exact store_step (as := []) (sl := ⟨.lo, .int i⟩) FS S hx hi (.int _ _) nofun (slotOk_of (by nofun) nofun fun _ => nofun) fun s4 S4 hk4 th4 => h s4 _ _ _ S4 (fun b h => moWith_not (by nofun) h) hk4 th4
theorem Aft.next {K : Shared → Prop} {s4 : Shared} {mo4 : Addr → Prop} (h : Aft c f mo s ρ2 K) (m4 : ∀ b, mo4 b → mo b) (k4 : ∀ b o, ¬ Pv f b → s.heap.get? b = some o → s4.heap.get? b = some o) (t4 : ∀ b o, s.heap.get? b = some o → ∃ o', s4.heap.get? b = some o') : Aft c f mo4 s4 ρ2 K :=
  fun s5 mo5 val5 fp5 S5 m5 k5 t5 => h s5 mo5 val5 fp5 S5 (fun b q => m4 b (m5 b q)) (fun b o hp q => k5 b o hp (k4 b o hp q)) fun b o q => let ⟨o1, e1⟩ := t4 b o q; t5 b o1 e1
theorem asg_pair {Ta : Addr} (FS : FmS c f) (hU1 : Upd f.xs ρ x (some ⟨.lo, .int i⟩) ρ1 n1) (hU2 : Upd f.xs ρ1 y (some ⟨.lo, .int j⟩) ρ2 n2) (S : St c f ρ mo val fp s) (ht : IsTup s.heap Ta #[.int i u, .int j v]) (h : Aft c f mo s ρ2 (Q' ())) :
    wpAny c.M f.A (assign (.Tuple [.Name x xp, .Name y yp] tn tp) f.env (.ref Ta)) Q' E s := by
  refine assign_Tuple_tuple S.ok.room.hand ht rfl rfl fun h' he => ?_
  have hk : ∀ b o, s.heap.get? b = some o → h'.get? b = some o := fun b o q => he b o (Nat.ne_of_lt (Heap.lt_size q)) q
  show wpAny _ _ (do holding [.int j v] (assign (.Name x xp) f.env (.int i u)); holding [] (assign (.Name y yp) f.env (.int j v)); pure ()) _ _ _
  refine asg_one FS hU1 (S.ext (Ext.of S.wf hk)) fun s4 mo4 val4 fp4 S4 m4 k4 t4 => ?_
  have h4 := h.next m4 (fun b o hp q => k4 b o hp (hk b o q)) fun b o q => t4 b o (hk b o q)
  exact asg_one FS hU2 S4 fun s5 mo5 val5 fp5 S5 m5 k5 t5 => wpAny_pure (h4 s5 mo5 val5 fp5 S5 m5 k5 t5)
theorem asg_trip {Ta : Addr} (FS : FmS c f) (hU1 : Upd f.xs ρ x (some ⟨.lo, .int i⟩) ρ1 n1) (hU2 : Upd f.xs ρ1 y (some ⟨.lo, .int j⟩) ρ2 n2) (hU3 : Upd f.xs ρ2 z (some ⟨.lo, .int l⟩) ρ3 n3) (S : St c f ρ mo val fp s) (ht : IsTup s.heap Ta #[.int i u, .int j v, .int l w]) (h : Aft c f mo s ρ3 (Q' ())) :
    wpAny c.M f.A (assign (.Tuple [.Name x xp, .Name y yp, .Name z zp] tn tp) f.env (.ref Ta)) Q' E s := by
  refine assign_Tuple_tuple S.ok.room.hand ht rfl rfl fun h' he => ?_
  have hk : ∀ b o, s.heap.get? b = some o → h'.get? b = some o := fun b o q => he b o (Nat.ne_of_lt (Heap.lt_size q)) q
  show wpAny _ _ (do holding [.int j v, .int l w] (assign (.Name x xp) f.env (.int i u)); holding [.int l w] (assign (.Name y yp) f.env (.int j v)); holding [] (assign (.Name z zp) f.env (.int l w)); pure ()) _ _ _
  refine asg_one FS hU1 (S.ext (Ext.of S.wf hk)) fun s4 mo4 val4 fp4 S4 m4 k4 t4 => ?_
  have h4 := h.next m4 (fun b o hp q => k4 b o hp (hk b o q)) fun b o q => t4 b o (hk b o q)
  refine asg_one FS hU2 S4 fun s5 mo5 val5 fp5 S5 m5 k5 t5 => ?_
  have h5 := h4.next m5 k5 t5
  exact asg_one FS hU3 S5 fun s6 mo6 val6 fp6 S6 m6 k6 t6 => wpAny_pure (h5 s6 mo6 val6 fp6 S6 m6 k6 t6)
theorem asg2 {el : T2} (FS : FmS c f) (hU1 : Upd f.xs ρ x (some ⟨.lo, .int el.1⟩) ρ1 n1) (hU2 : Upd f.xs ρ1 y (some ⟨.lo, .int el.2⟩) ρ2 n2) : AsgT c f (.Tuple [.Name x xp, .Name y yp] tn tp) lIt k (encP2 el) ρ ρ2 := fun mo val fp s v bs I Q' E S ⟨l, i, hit⟩ r hl hm hlo hQ => by
  obtain ⟨a, t1, t2, rfl, ht⟩ := rd_pair r
  exact letGo_listiter hit (asg_pair FS hU1 hU2 S ht hQ)
theorem asg3 {el : T3} (FS : FmS c f) (hU1 : Upd f.xs ρ x (some ⟨.lo, .int el.1⟩) ρ1 n1) (hU2 : Upd f.xs ρ1 y (some ⟨.lo, .int el.2.1⟩) ρ2 n2) (hU3 : Upd f.xs ρ2 z (some ⟨.lo, .int el.2.2⟩) ρ3 n3) : AsgT c f (.Tuple [.Name x xp, .Name y yp, .Name z zp] tn tp) lIt k (encI el) ρ ρ3 := fun mo val fp s v bs I Q' E S ⟨l, i, hit⟩ r hl hm hlo hQ => by
  obtain ⟨a, t1, t2, t3, rfl, ht⟩ := rd_trip r
  exact letGo_listiter hit (asg_trip FS hU1 hU2 hU3 S ht hQ)
end
end Mine


set_option maxRecDepth 100000
namespace Mine
open PySem PySem.Spec PySem.Calls PyProof.Rows


theorem it_rN {c : Cx} {f : Fm} {ρ : Rho} {e : Expr} {a : Int} {n m : Nat} {k : EK} (h : It c f ρ e (intsL a n) k) (q : n = m) : It c f ρ e ((List.range m).map (encR a)) k := q ▸ h
theorem it_rN0 {c : Cx} {f : Fm} {ρ : Rho} {e : Expr} {a : Int} {n m : Nat} {k : EK} (h : It c f ρ e (intsL a n) k) (q : n = m) : It c f ρ e (intsL a m) k := q ▸ h

noncomputable def pto04 : FnD := fnAt PySem.Challenge.pw_k21_0004 1
theorem pto04_fn {c : Cx} (C : CxOk c) (Blen : Bi c "len" (.builtin "len")) (Brange : Bi c "range" (.type "range")) {n s t : Nat} (hn : n ≤ 6) (ht : t < n) {P : Pv1} (hS : Safe n P s t) :
    Fn c 1 pto04 [.list (mkP n P), .int s, .int t] (.list (nl (ptoP n P s t))) true := by
  refine fn_go ["previous", "source", "target"] ["path", "at", "_"] ["previous", "source", "target", "path", "at", "_"] C ?_ rfl (by decide +kernel) (by decide +kernel) rfl rfl rfl [some ⟨.sh, .list (mkP n P)⟩, some ⟨.sh, .int s⟩, some ⟨.sh, .int t⟩, none, none, none] ?_
  · intro pm cd doc vals hv
    obtain ⟨a, b, c, rfl⟩ := len3 hv; rfl
  intro fm FS
  have hsz : (mkP n P).length ≤ sizeLine := szR hn (by decide)
  refine s_when (tst_cmp (ev_name_w (by (exact At.via (by with_reducible repeat' (first | exact Nm.here | apply Nm.there)) rfl))) (ev_name_w (by (exact At.via (by with_reducible repeat' (first | exact Nm.here | apply Nm.there)) rfl))) cmp_eq) (fun h => ?_) (fun h => ?_)
  · have h : s = t := beq_nat h
    exact s_ret (u := true) (ev_list (evl_fr (Ev.ofFlat (ev_name_w (by (exact At.via (by with_reducible repeat' (first | exact Nm.here | apply Nm.there)) rfl))) rfl) evl_nil) (Nat.le_of_ble_eq_true rfl)) ⟨by rw [ptoP, if_pos h]; rfl, fun _ => rfl⟩ (.inl rfl)
  have hst : ¬ s = t := beq_natf h
  cases hP : P t with
  | none =>
    have g : (mkP n P)[t]? = some .none := by rw [mkP_at ht, hP]; rfl
    refine s_when (tst_cmp (ev_at (i := t) (ev_name_w (by (exact At.via (by with_reducible repeat' (first | exact Nm.here | apply Nm.there)) rfl))) (ev_name_w (by (exact At.via (by with_reducible repeat' (first | exact Nm.here | apply Nm.there)) rfl))) g hsz) ev_none cmp_is_none) (fun h => ?_) (fun h => by cases h)
    exact s_ret (u := true) (ev_list (k := .fr) evl_nil) ⟨by rw [ptoP, if_neg hst, hP]; rfl, fun _ => rfl⟩ (.inl rfl)
  | some u0 =>
    have g : (mkP n P)[t]? = some (.int (u0 : Int)) := by rw [mkP_at ht, hP]; rfl
    refine s_when (tst_cmp (ev_at (i := t) (ev_name_w (by (exact At.via (by with_reducible repeat' (first | exact Nm.here | apply Nm.there)) rfl))) (ev_name_w (by (exact At.via (by with_reducible repeat' (first | exact Nm.here | apply Nm.there)) rfl))) g hsz) ev_none cmp_is_none) (fun h => by cases h) (fun _ => ?_)
    have hS := hS (by rw [hP]; simp)
    refine s_asg (sk := .ow) FS (ev_list (evl_fr (Ev.ofFlat (ev_name_w (by (exact At.via (by with_reducible repeat' (first | exact Nm.here | apply Nm.there)) rfl))) rfl) evl_nil) (Nat.le_of_ble_eq_true rfl)) .fr (by (with_reducible repeat' (first | exact Upd.here | apply Upd.there | exact Nm.here | apply Nm.there))) ?_
    refine s_asg (sk := .lo) FS (ev_name_w (by (exact At.via (by with_reducible repeat' (first | exact Nm.here | apply Nm.there)) rfl))) (.flat rfl) (by (with_reducible repeat' (first | exact Upd.here | apply Upd.there | exact Nm.here | apply Nm.there))) ?_
    refine s_forN (n := n) FS (by (with_reducible repeat' (first | exact Upd.here | apply Upd.there | exact Nm.here | apply Nm.there))) (it_range1 C Brange rfl (Ev.cast (d' := .int n) (ev_vcall1 (.inl ⟨_, rfl⟩) C Blen rfl (ev_name_w (by (exact At.via (by with_reducible repeat' (first | exact Nm.here | apply Nm.there)) rfl))) (vc_len (lenI (m := 6) (by rw [List.length_range]; exact hn) (by decide)))) (by rw [List.length_map, List.length_range])) (nI1 hn (by decide)) nI2)
      (fun j ρ => ∃ o, ρ = [some ⟨.sh, .list (mkP n P)⟩, some ⟨.sh, .int s⟩, some ⟨.sh, .int t⟩, some ⟨.ow, .list (nl (pwalk P s j (t, [t])).2)⟩, some ⟨.lo, .int ((pwalk P s j (t, [t])).1 : Int)⟩, o]) ⟨none, rfl⟩ ?_ ?_
    · rintro j ρ' hj ⟨o, rfl⟩
      refine ⟨_, by (with_reducible repeat' (first | exact Upd.here | apply Upd.there | exact Nm.here | apply Nm.there)), ?_⟩
      obtain ⟨hlt, hex, hlen⟩ := hS j
      rw [pwalk_succ]
      generalize pwalk P s j (t, [t]) = w at hlt hex hlen
      refine s_when (tst_cmp (ev_name_w (by (exact At.via (by with_reducible repeat' (first | exact Nm.here | apply Nm.there)) rfl))) (ev_name_w (by (exact At.via (by with_reducible repeat' (first | exact Nm.here | apply Nm.there)) rfl))) cmp_ne) (fun h => ?_) (fun h => ?_)
      · have hne : w.1 ≠ s := bne_nat h
        obtain ⟨u, hu⟩ := hex hne
        have g : (mkP n P)[w.1]? = some (.int (u : Int)) := by rw [mkP_at hlt, hu]; rfl
        have e : pstep P s w = (u, w.2 ++ [u]) := by rw [pstep, if_pos hne, hu]; rfl
        rw [e]
        refine s_asg (sk := .lo) FS (ev_at (i := w.1) (ev_name_w (by (exact At.via (by with_reducible repeat' (first | exact Nm.here | apply Nm.there)) rfl))) (ev_name_w (by (exact At.via (by with_reducible repeat' (first | exact Nm.here | apply Nm.there)) rfl))) g hsz) (.flat rfl) (by (with_reducible repeat' (first | exact Upd.here | apply Upd.there | exact Nm.here | apply Nm.there))) ?_
        exact s_append FS (by (exact At.via (by with_reducible repeat' (first | exact Nm.here | apply Nm.there)) rfl)) (ev_name_w (by (exact At.via (by with_reducible repeat' (first | exact Nm.here | apply Nm.there)) rfl))) (.inr rfl) (szG (Nat.le_trans hlen hn) (by decide)) (by (with_reducible repeat' (first | exact Upd.here | apply Upd.there | exact Nm.here | apply Nm.there))) (s_end (s_end ⟨_, by rw [nl_snoc]⟩))
      · have hne : ¬ w.1 ≠ s := fun k => k (bne_natf h)
        have e : pstep P s w = w := by rw [pstep, if_neg hne]
        rw [e]
        exact s_end ⟨_, rfl⟩
    · rintro ρ' ⟨o, rfl⟩
      refine s_reverse FS (by (exact At.via (by with_reducible repeat' (first | exact Nm.here | apply Nm.there)) rfl)) (flats_map (fun _ => rfl) _) (szG (Nat.le_trans (hS n).2.2 hn) (by decide)) (by (with_reducible repeat' (first | exact Upd.here | apply Upd.there | exact Nm.here | apply Nm.there))) ?_
      exact s_retO (by (exact At.via (by with_reducible repeat' (first | exact Nm.here | apply Nm.there)) rfl)) ⟨by rw [ptoP, if_neg hst, hP]; simp only [nl, List.map_reverse], fun _ => rfl⟩

noncomputable def aug04 : FnD := fnAt PySem.Challenge.pw_k21_0004 3
noncomputable abbrev Ra04 (n : Nat) (R : Nat → Nat → Int) (s t : Nat) (st : Pv1 × List Nat) (pl : Nat) (u v : Option Slot) : Rho := [some ⟨.sh, .int n⟩, some ⟨.sh, .list (mkT n fun u v => .int (R u v))⟩, some ⟨.sh, .int s⟩, some ⟨.sh, .int t⟩, some ⟨.ow, .list (mkP n st.1)⟩, some ⟨.ow, .list (nl st.2)⟩, some ⟨.lo, .int (pl : Int)⟩, u, v]
theorem aug04_fn {c : Cx} (C : CxOk c) (Blen : Bi c "len" (.builtin "len")) (Brange : Bi c "range" (.type "range")) (stPto : Stands c pto04) {n s t : Nat} (hn : n ≤ 6) (hs : s < n) (ht : t < n) {R : Nat → Nat → Int} :
    Fn c 2 aug04 [.int n, .list (mkT n fun u v => .int (R u v)), .int s, .int t] (.list (nl (augP n R s t))) true := by
  refine fn_go ["n", "residual", "source", "sink"] ["previous", "queue", "place", "u", "v"] ["n", "residual", "source", "sink", "previous", "queue", "place", "u", "v"] C ?_ rfl (by decide +kernel) (by decide +kernel) rfl rfl rfl [some ⟨.sh, .int n⟩, some ⟨.sh, .list (mkT n fun u v => .int (R u v))⟩, some ⟨.sh, .int s⟩, some ⟨.sh, .int t⟩, none, none, none, none, none] ?_
  · intro pm cd doc vals hv
    obtain ⟨a, b, c, d, rfl⟩ := len4 hv; rfl
  intro fm FS
  have hszP : ∀ P, (mkP n P).length ≤ sizeLine := fun P => szR hn (by decide)
  have hszT : (mkT n fun u v => .int (R u v)).length ≤ sizeLine := szR hn (by decide)
  have hszR : ∀ g : Nat → PyData, ((List.range n).map g).length ≤ sizeLine := fun g => szR hn (by decide)
  refine s_comp (cells := []) (p := fun _ => true) (g := fun (u : Nat) => PyData.none) .lo FS HasCells.nil [] [] [] []
    (it_n (it_range1 C Brange rfl (ev_name_w (by (exact At.via (by with_reducible repeat' (first | exact Nm.here | apply Nm.there)) rfl))) (nI1 hn (by decide)) nI2)) (.flat encN_flat (by decide)) (szN hn (by decide)) (fun C1 H1 el hel => ifs_nil) (fun C1 H1 u hu _ => Ev.ofFlat ev_none rfl) (by (with_reducible repeat' (first | exact Upd.here | apply Upd.there | exact Nm.here | apply Nm.there))) ?_
  rw [filter_tt]
  refine s_asg (sk := .ow) FS (ev_list (evl_fr (Ev.ofFlat (ev_name_w (by (exact At.via (by with_reducible repeat' (first | exact Nm.here | apply Nm.there)) rfl))) rfl) evl_nil) (Nat.le_of_ble_eq_true rfl)) .fr (by (with_reducible repeat' (first | exact Upd.here | apply Upd.there | exact Nm.here | apply Nm.there))) ?_
  refine s_asg (sk := .lo) FS ev_int (.flat rfl) (by (with_reducible repeat' (first | exact Upd.here | apply Upd.there | exact Nm.here | apply Nm.there))) ?_
  refine s_while (n := n) (fun m ρ => ∃ pl st o1 o2, m + pl = n ∧ BI R s n st ∧ brun R s n n 0 (fun _ => none, [s]) = brun R s n m pl st ∧ ρ = Ra04 n R s t st pl o1 o2) ⟨0, (fun _ => none, [s]), none, none, rfl, BI.init hs, rfl, rfl⟩ ?_
  rintro m ρ' ⟨pl, st, o1, o2, hm, B, hrun, rfl⟩
  have hql := B.len
  refine ⟨_, tst_cmp (ev_name_w (by (exact At.via (by with_reducible repeat' (first | exact Nm.here | apply Nm.there)) rfl))) (ev_vcall1 (.inl ⟨_, rfl⟩) C Blen rfl (ev_name_w (by (exact At.via (by with_reducible repeat' (first | exact Nm.here | apply Nm.there)) rfl))) (vc_len (lenI (Nat.le_trans hql hn) (by decide)))) cmp_lt, fun h => ?_, fun h => ?_⟩
  · have hpl : pl < st.2.length := lt_len h
    obtain ⟨m', rfl⟩ := pos_m hm hpl hql
    rw [brun, if_pos hpl] at hrun
    have hu : st.2.getD pl 0 ∈ st.2 := by rw [List.getD_eq_getElem?_getD, List.getElem?_eq_getElem hpl]; exact List.getElem_mem hpl
    have gq : (nl st.2)[pl]? = some (.int ((st.2.getD pl 0 : Nat) : Int)) := by rw [nl, List.getElem?_map, List.getD_eq_getElem?_getD, List.getElem?_eq_getElem hpl]; rfl
    refine s_asg (sk := .lo) FS (ev_at (i := pl) (ev_name_w (by (exact At.via (by with_reducible repeat' (first | exact Nm.here | apply Nm.there)) rfl))) (ev_name_w (by (exact At.via (by with_reducible repeat' (first | exact Nm.here | apply Nm.there)) rfl))) gq (szG (Nat.le_trans hql hn) (by decide))) (.flat rfl) (by (with_reducible repeat' (first | exact Upd.here | apply Upd.there | exact Nm.here | apply Nm.there))) ?_
    refine s_asg (sk := .lo) FS (Ev.cast (d' := .int ((pl + 1 : Nat) : Int)) (ev_add (ev_name_w (by (exact At.via (by with_reducible repeat' (first | exact Nm.here | apply Nm.there)) rfl))) ev_int) (by simp)) (.flat rfl) (by (with_reducible repeat' (first | exact Upd.here | apply Upd.there | exact Nm.here | apply Nm.there))) ?_
    generalize st.2.getD pl 0 = u at hu hrun gq ⊢
    have hun := B.lt u hu
    refine s_forN FS (by (with_reducible repeat' (first | exact Upd.here | apply Upd.there | exact Nm.here | apply Nm.there))) (it_range1 C Brange rfl (ev_name_w (by (exact At.via (by with_reducible repeat' (first | exact Nm.here | apply Nm.there)) rfl))) (nI1 hn (by decide)) nI2)
      (fun j ρ => ∃ o2, ρ = Ra04 n R s t ((List.range j).foldl (bstep R s u) st) (pl + 1) (some ⟨.lo, .int (u : Int)⟩) o2) ⟨_, rfl⟩ ?_ ?_
    · rintro v ρ' hv ⟨o2, rfl⟩
      have hv : v < n := by simpa using hv
      refine ⟨_, by (with_reducible repeat' (first | exact Upd.here | apply Upd.there | exact Nm.here | apply Nm.there)), ?_⟩
      have B1 := (BI.fold (u := u) (List.range v) B hu (fun x hx => Nat.lt_trans (List.mem_range.mp hx) hv)).1
      rw [List.range_succ, List.foldl_append, List.foldl_cons, List.foldl_nil]
      generalize (List.range v).foldl (bstep R s u) st = st1 at B1
      have hq1 := B1.len
      refine s_when (tst_and3 (tst_cmp (ev_at (i := v) (d := .int (R u v)) (ev_at (i := u) (ev_name_w (by (exact At.via (by with_reducible repeat' (first | exact Nm.here | apply Nm.there)) rfl))) (ev_name_w (by (exact At.via (by with_reducible repeat' (first | exact Nm.here | apply Nm.there)) rfl))) (mkT_row hun) hszT) (ev_name_w (by (exact At.via (by with_reducible repeat' (first | exact Nm.here | apply Nm.there)) rfl))) (rangeMap_at hv) (hszR _)) ev_int cmp_gt)
        (fun _ => tst_cmp (ev_name_w (by (exact At.via (by with_reducible repeat' (first | exact Nm.here | apply Nm.there)) rfl))) (ev_name_w (by (exact At.via (by with_reducible repeat' (first | exact Nm.here | apply Nm.there)) rfl))) cmp_ne) (fun _ _ => tst_cmp (ev_at (i := v) (ev_name_w (by (exact At.via (by with_reducible repeat' (first | exact Nm.here | apply Nm.there)) rfl))) (ev_name_w (by (exact At.via (by with_reducible repeat' (first | exact Nm.here | apply Nm.there)) rfl))) (mkP_at hv) (hszP _)) ev_none cmp_is_none)) (fun h => ?_) (fun h => ?_)
      · have h' : 0 < R u v ∧ v ≠ s ∧ st1.1 v = none := by
          simp only [Bool.and_eq_true, decide_eq_true_eq, bne_iff_ne] at h
          refine ⟨h.1.1, bne_nat (bne_iff_ne.mpr h.1.2), ?_⟩
          cases q : st1.1 v with
          | none => rfl
          | some x => rw [q] at h; cases h.2
        have gP : (mkP n st1.1)[v]? = some .none := by rw [mkP_at hv, h'.2.2]; rfl
        rw [bstep, if_pos h']
        refine s_set (j := (v : Int)) FS (by (exact At.via (by with_reducible repeat' (first | exact Nm.here | apply Nm.there)) rfl)) (ev_name_w (by (exact At.via (by with_reducible repeat' (first | exact Nm.here | apply Nm.there)) rfl))) (ev_name_w (by (exact At.via (by with_reducible repeat' (first | exact Nm.here | apply Nm.there)) rfl))) rfl nI3 (nI5 (Nat.lt_of_lt_of_le hv hn) (by decide)) gP rfl (by (with_reducible repeat' (first | exact Upd.here | apply Upd.there | exact Nm.here | apply Nm.there))) ?_
        exact s_append FS (by (exact At.via (by with_reducible repeat' (first | exact Nm.here | apply Nm.there)) rfl)) (ev_name_w (by (exact At.via (by with_reducible repeat' (first | exact Nm.here | apply Nm.there)) rfl))) (.inr rfl) (szG (Nat.le_trans hq1 hn) (by decide)) (by (with_reducible repeat' (first | exact Upd.here | apply Upd.there | exact Nm.here | apply Nm.there))) (s_end (s_end ⟨_, by unfold Ra04; rw [nl_snoc, ← mkP_set]; rfl⟩))
      · have h' : ¬ (0 < R u v ∧ v ≠ s ∧ st1.1 v = none) := by
          rintro ⟨q1, q2, q3⟩
          rw [q3] at h
          have e1 : decide (R u v > 0) = true := decide_eq_true q1
          have e2 : ((v : Int) != (s : Int)) = true := bne_iff_ne.mpr fun e => q2 (Int.ofNat.inj e)
          rw [e1, e2] at h; cases h
        rw [bstep, if_neg h']
        exact s_end ⟨_, rfl⟩
    · rintro ρ' ⟨o2, rfl⟩
      exact s_end ⟨m', Nat.lt_succ_self _, pl + 1, bvis R s n u st, _, _, mp1 hm, (B.vis hu).1, hrun, rfl⟩
  · have hpl : ¬ pl < st.2.length := nlt_len h
    rw [brun_done hpl] at hrun
    refine s_ret (u := true) (ev_call C stPto rfl (evl_w (ev_name_w (by (exact At.via (by with_reducible repeat' (first | exact Nm.here | apply Nm.there)) rfl))) (evl_w (ev_name_w (by (exact At.via (by with_reducible repeat' (first | exact Nm.here | apply Nm.there)) rfl))) (evl_w (ev_name_w (by (exact At.via (by with_reducible repeat' (first | exact Nm.here | apply Nm.there)) rfl))) evl_nilU))) (pto04_fn C Blen Brange hn ht B.safe) (Nat.le_of_ble_eq_true rfl)) ⟨?_, fun _ => rfl⟩ (.inl rfl)
    rw [augP_eq, hrun]

noncomputable def cap04 : FnD := fnAt PySem.Challenge.pw_k21_0004 2
theorem cap04_fn {c : Cx} (C : CxOk c) (Brange : Bi c "range" (.type "range")) {n : Nat} (hn : n ≤ 4) {es : List (Nat × Nat × Int)} (hl : es.length ≤ 18) (hes : ∀ e ∈ es, e.1 < n ∧ e.2.1 < n) :
    Fn c 1 cap04 [.int n, .list (es.map encE)] (.list (mkT n fun u v => .int (capF es u v))) true := by
  refine fn_go ["n", "edges"] ["table", "e"] ["n", "edges", "table", "e"] C ?_ rfl (by decide +kernel) (by decide +kernel) rfl rfl rfl [some ⟨.sh, .int n⟩, some ⟨.sh, .list (es.map encE)⟩, none, none] ?_
  · intro pm cd doc vals hv
    obtain ⟨a, b, rfl⟩ := len2 hv; rfl
  intro fm FS
  have H0 := HasCells.ofs (ys := ["n"]) FS cap04.scope rfl ["n", "edges", "table", "e"] rfl (by decide +kernel)
  refine s_comp (p := fun _ => true) (g := fun u => PyData.list ((List.range n).map fun v => PyData.int 0)) .lo FS H0 [0] ["n"] [some ⟨.sh, .int n⟩] []
    (it_r (it_range1 C Brange rfl (ev_name_w (by (exact At.via (by with_reducible repeat' (first | exact Nm.here | apply Nm.there)) rfl))) (nI1 hn (by decide)) nI2)) (.flat encR_flat (by decide)) (szN hn (by decide)) (fun C1 H1 el hel => ifs_nil) (fun C1 H1 u hu _ => ?_) (by (with_reducible repeat' (first | exact Upd.here | apply Upd.there | exact Nm.here | apply Nm.there))) ?_
  · exact Ev.cast (ev_compX (p := fun _ => true) (g := fun v => PyData.int 0) .lo H1 [] [] [] []
      (it_r (it_range1 C Brange rfl (ev_name_w (by (exact At.via (by with_reducible repeat' (first | exact Nm.here | apply Nm.there)) rfl))) (nI1 hn (by decide)) nI2)) (.flat encR_flat (by decide)) (szN hn (by decide)) (fun C2 H2 el hel => ifs_nil) (fun C2 H2 v hv _ => ev_int)) (by rw [filter_tt]; rfl)
  · refine s_forT (sk := .sh) FS (by (with_reducible repeat' (first | exact Upd.here | apply Upd.there | exact Nm.here | apply Nm.there))) (it_list (ev_name_sh (by (exact At.via (by with_reducible repeat' (first | exact Nm.here | apply Nm.there)) rfl)))) .sh
      (fun j ρ => ∃ o, ρ = [some ⟨.sh, .int n⟩, some ⟨.sh, .list (es.map encE)⟩, some ⟨.ow, .list (mkT n fun u v => .int (capF (es.take j) u v))⟩, o]) ⟨none, ?_⟩ ?_ ?_
    · rw [filter_tt]; rfl
    · rintro j e ρ' hj ⟨o, rfl⟩
      refine ⟨_, by (with_reducible repeat' (first | exact Upd.here | apply Upd.there | exact Nm.here | apply Nm.there)), ?_⟩
      obtain ⟨h1, h2⟩ := hes e (List.mem_of_getElem? hj)
      refine s_set2 (j1 := (e.1 : Int)) (j2 := (e.2.1 : Int)) FS (by (exact At.via (by with_reducible repeat' (first | exact Nm.here | apply Nm.there)) rfl)) (ev_add (ev_at (i := e.2.1) (d := .int (capF (es.take j) e.1 e.2.1)) (ev_at (i := e.1) (ev_name_w (by (exact At.via (by with_reducible repeat' (first | exact Nm.here | apply Nm.there)) rfl))) (ev_t0 (ev_name_w (by (exact At.via (by with_reducible repeat' (first | exact Nm.here | apply Nm.there)) rfl))) ev_int rfl) (mkT_row h1) (szR hn (by decide))) (ev_t1 (ev_name_w (by (exact At.via (by with_reducible repeat' (first | exact Nm.here | apply Nm.there)) rfl))) ev_int rfl) (rangeMap_at h2) (by simp [sizeLine]; omega)) (ev_t2 (ev_name_w (by (exact At.via (by with_reducible repeat' (first | exact Nm.here | apply Nm.there)) rfl))) ev_int rfl))
        (ev_t0 (ev_name_w (by (exact At.via (by with_reducible repeat' (first | exact Nm.here | apply Nm.there)) rfl))) ev_int rfl) (ev_t1 (ev_name_w (by (exact At.via (by with_reducible repeat' (first | exact Nm.here | apply Nm.there)) rfl))) ev_int rfl) rfl nI3 (nI5 (Nat.lt_of_lt_of_le h1 hn) (by decide)) (mkT_row h1) (flats_map (fun _ => rfl) _) nI3 (nI5 (Nat.lt_of_lt_of_le h2 hn) (by decide)) (by simpa using h2) (by (with_reducible repeat' (first | exact Upd.here | apply Upd.there | exact Nm.here | apply Nm.there))) (s_end ?_)
      have hX := mkT_set (n := n) (a := e.1) (b := e.2.1) (g := fun u v => .int (capF (es.take j) u v)) (x := .int (capF (es.take j) e.1 e.2.1 + e.2.2)) h1
      have hY : (mkT n fun u v => PyData.int (capF (es.take (j + 1)) u v)) = _ := (mkT_congr fun u v hu hv => by
        rw [List.take_add_one, hj, Option.toList_some, capF_snoc]
        by_cases h : u = e.1 ∧ v = e.2.1
        · rw [if_pos (by omega), if_pos h, h.1, h.2]
        · rw [if_neg (by omega), if_neg h]).trans hX.symm
      exact ⟨_, by rw [hY]; rfl⟩
    · rintro ρ' ⟨o, rfl⟩
      exact s_retO (by (exact At.via (by with_reducible repeat' (first | exact Nm.here | apply Nm.there)) rfl)) ⟨by rw [List.take_length], fun _ => rfl⟩

noncomputable def mf04 : FnD := fnAt PySem.Challenge.pw_k21_0004 4
noncomputable abbrev Rm04 (n : Nat) (es : List (Nat × Nat × Int)) (s t : Nat) (C R : Tb) (p : List Nat) (nar i u v : Option Slot) : Rho := [some ⟨.sh, .int n⟩, some ⟨.sh, .list (es.map encE)⟩, some ⟨.sh, .int s⟩, some ⟨.sh, .int t⟩, some ⟨.lo, .list (mkT n fun u v => .int (C u v))⟩, some ⟨.ow, .list (mkT n fun u v => .int (R u v))⟩, some ⟨.lo, .list (nl p)⟩, nar, i, u, v]
theorem mf04_fn {c : Cx} (K : CxOk c) (Blen : Bi c "len" (.builtin "len")) (Brange : Bi c "range" (.type "range")) (Blist : Bi c "list" (.type "list")) (Bmin : Bi c "min" (.builtin "min")) (Bmax : Bi c "max" (.builtin "max")) (stPto : Stands c pto04) (stAug : Stands c aug04) (stCap : Stands c cap04) {n s t : Nat} (hn : n ≤ 4) (hs : s < n) (ht : t < n) {es : List (Nat × Nat × Int)} (hl : es.length ≤ 18) (hes : ∀ e ∈ es, e.1 < n ∧ e.2.1 < n)
    {C : Tb} (hC : C = fun (u v : Nat) => capF es u v) (h0 : ∀ u v, u < n → v < n → 0 ≤ C u v) :
    Fn c 3 mf04 [.int n, .list (es.map encE), .int s, .int t] (.list (mkT n fun u v => .int (max (C u v - mfR n s t ((sm n (C s)).toNat + 1) C u v) 0))) true := by
  refine fn_go ["n", "edges", "source", "sink"] ["capacity", "room", "path", "narrowest", "i", "u", "v"] ["n", "edges", "source", "sink", "capacity", "room", "path", "narrowest", "i", "u", "v"] K ?_ rfl (by decide +kernel) (by decide +kernel) rfl rfl rfl [some ⟨.sh, .int n⟩, some ⟨.sh, .list (es.map encE)⟩, some ⟨.sh, .int s⟩, some ⟨.sh, .int t⟩, none, none, none, none, none, none, none] ?_
  · intro pm cd doc vals hv
    obtain ⟨a, b, c, d, rfl⟩ := len4 hv; rfl
  intro fm FS
  have H0 := HasCells.ofs (ys := ["n", "capacity", "room", "path"]) FS mf04.scope rfl ["n", "edges", "source", "sink", "capacity", "room", "path", "narrowest", "i", "u", "v"] rfl (by decide +kernel)
  have hsz : ∀ g : Nat → Nat → PyData, (mkT n g).length ≤ sizeLine := fun g => szR hn (by decide)
  have hsz2 : ∀ g : Nat → PyData, ((List.range n).map g).length ≤ sizeLine := fun g => szR hn (by decide)
  refine s_asg (sk := .lo) FS (Ev.cast (d' := .list (mkT n fun u v => .int (C u v))) (ev_call K stCap rfl (evl_w (ev_name_w (by (exact At.via (by with_reducible repeat' (first | exact Nm.here | apply Nm.there)) rfl))) (evl_w (ev_name_w (by (exact At.via (by with_reducible repeat' (first | exact Nm.here | apply Nm.there)) rfl))) evl_nilU)) (cap04_fn K Brange hn hl hes) (Nat.le_of_ble_eq_true rfl)) (by rw [hC])) .frlo (by (with_reducible repeat' (first | exact Upd.here | apply Upd.there | exact Nm.here | apply Nm.there))) ?_
  refine s_asgE (sk := .ow) FS (Ev.cast (d' := .list (mkT n fun u v => .int (C u v))) (ev_compX (xs := List.range n) (enc := fun (u : Nat) => .list ((List.range n).map fun (v : Nat) => .int (C u v))) (p := fun _ => true) (g := fun (u : Nat) => .list ((List.range n).map fun (v : Nat) => .int (C u v))) .lo H0 [] [] [] []
    (it_list (Ev.cast (ev_name_lo (by (exact At.via (by with_reducible repeat' (first | exact Nm.here | apply Nm.there)) rfl))) (by rfl))) .lo (szM (by rw [List.length_range]; exact hn) (by decide)) (fun C1 H1 el hel => ifs_nil) (fun C1 H1 u hu _ => ev_vcall1 (.inr ⟨_, rfl⟩) K Blist rfl (ev_name_w (by (exact At.via (by with_reducible repeat' (first | exact Nm.here | apply Nm.there)) rfl))) (vc_list (flats_map (fun _ => rfl) _) (hsz2 _)))) (by rw [filter_tt]; rfl)) .fr (by (with_reducible repeat' (first | exact Upd.here | apply Upd.there | exact Nm.here | apply Nm.there))) ?_
  refine s_asg (sk := .lo) FS (ev_list (k := .fr) evl_nil) .frlo (by (with_reducible repeat' (first | exact Upd.here | apply Upd.there | exact Nm.here | apply Nm.there))) ?_
  refine s_whenc (fun ρ => ρ = Rm04 n es s t C C (pth n C s t) none none none none) (tst_cmp (ev_name_w (by (exact At.via (by with_reducible repeat' (first | exact Nm.here | apply Nm.there)) rfl))) (ev_name_w (by (exact At.via (by with_reducible repeat' (first | exact Nm.here | apply Nm.there)) rfl))) cmp_ne) (fun h => ?_) (fun h => ?_) ?_
  · have hst : s ≠ t := bne_nat h
    exact s_asg (sk := .lo) FS (ev_call K stAug rfl (evl_w (ev_name_w (by (exact At.via (by with_reducible repeat' (first | exact Nm.here | apply Nm.there)) rfl))) (evl_w (Ev.cast (d' := .list (mkT n fun u v => .int (C u v))) (ev_name_w (by (exact At.via (by with_reducible repeat' (first | exact Nm.here | apply Nm.there)) rfl))) (by rfl)) (evl_w (ev_name_w (by (exact At.via (by with_reducible repeat' (first | exact Nm.here | apply Nm.there)) rfl))) (evl_w (ev_name_w (by (exact At.via (by with_reducible repeat' (first | exact Nm.here | apply Nm.there)) rfl))) evl_nilU)))) (aug04_fn K Blen Brange stPto (Nat.le_trans hn (by decide)) hs ht) (Nat.le_of_ble_eq_true rfl)) .frlo (by (with_reducible repeat' (first | exact Upd.here | apply Upd.there | exact Nm.here | apply Nm.there))) (s_end (by show _ = _; rw [pth, if_neg hst]))
  · have hst : s = t := bne_natf h
    rw [pth, if_pos hst]; rfl
  rintro _ rfl
  have hC0 : 0 ≤ sm n (C s) := sm_nonneg fun v hv => h0 s v hs hv
  refine s_while (n := (sm n (C s)).toNat) (fun m ρ => ∃ R k o1 o2 o3 o4, FI C R n s t ∧ m = (sm n (R s)).toNat ∧ sm n (R s) < (k : Nat) ∧ mfR n s t ((sm n (C s)).toNat + 1) C = mfR n s t k R ∧ ρ = Rm04 n es s t C R (pth n R s t) o1 o2 o3 o4)
    ⟨C, (sm n (C s)).toNat + 1, none, none, none, none, FI.init h0, rfl, toK _, rfl, rfl⟩ ?_
  rintro m ρ' ⟨R, k, o1, o2, o3, o4, F, hm, hk, hrun, rfl⟩
  have hR0 : 0 ≤ sm n (R s) := sm_nonneg fun v hv => F.nn s v hs hv
  obtain ⟨k', rfl⟩ := pos_k hR0 hk
  have hpl : (pth n R s t).length ≤ 4 := by
    by_cases q : pth n R s t = []
    · rw [q]; simp
    · obtain ⟨_, W⟩ := pth_way hs q
      exact Nat.le_trans (nodup_le W.nd W.lt) hn
  refine ⟨_, tst_cmp (ev_vcall1 (.inl ⟨_, rfl⟩) K Blen rfl (ev_name_w (by (exact At.via (by with_reducible repeat' (first | exact Nm.here | apply Nm.there)) rfl))) (vc_len (lenI hpl (by decide)))) ev_int cmp_gt, fun h => ?_, fun h => ?_⟩
  · have hne : pth n R s t ≠ [] := fun q => by rw [q] at h; cases h
    obtain ⟨hst, W⟩ := pth_way hs hne
    obtain ⟨hd1, hd2⟩ := narw_pos W
    obtain ⟨F', hrow⟩ := F.augment W hd1 hd2 hst
    have eM : mfR n s t (k' + 1) R = mfR n s t k' (pushN R (narw R (pth n R s t)) (pth n R s t) ((pth n R s t).length - 1)) := by rw [mfR, if_neg hne]
    rw [eM] at hrun
    clear eM
    generalize pth n R s t = p at hne W hd1 hd2 F' hrow hrun hpl
    have hlen := W.len
    have gp : ∀ i, i < p.length → (nl p)[i]? = some (.int ((p.getD i 0 : Nat) : Int)) := fun i hi => by rw [nl, List.getElem?_map, way_at W hi]; rfl
    have hmin : (List.range (p.length - 1)).map (fun i => R (p.getD i 0) (p.getD (i + 1) 0)) ≠ [] := fun q => by have h1 := congrArg List.length q; rw [List.length_map, List.length_range] at h1; exact absurd (Nat.sub_eq_zero_iff_le.mp h1) (Nat.not_le.mpr hlen)
    refine s_asg (sk := .lo) FS (ev_vcall1 (.inl ⟨_, rfl⟩) K Bmin rfl (Ev.cast (d' := il ((List.range (p.length - 1)).map fun i => R (p.getD i 0) (p.getD (i + 1) 0))) (ev_compX (xs := List.range (p.length - 1)) (enc := encR 1) (p := fun _ => true) (g := fun (i : Nat) => PyData.int (R (p.getD i 0) (p.getD (i + 1) 0))) .lo H0 [5, 6] ["room", "path"] [some ⟨.ow, .list (mkT n fun u v => .int (R u v))⟩, some ⟨.lo, .list (nl p)⟩] []
      (it_rN (it_range2 K Brange rfl ev_int (ev_vcall1 (.inl ⟨_, rfl⟩) K Blen rfl (ev_name_w (by (exact At.via (by with_reducible repeat' (first | exact Nm.here | apply Nm.there)) rfl))) (vc_len (lenI hpl (by decide)))) (by decide) (by decide) (lenJ hpl (by decide)) lenK) lm1) (.flat encR_flat (by decide)) (szM (m := 4) (by rw [List.length_range]; exact Nat.le_trans (Nat.sub_le _ _) hpl) (by decide)) (fun C1 H1 el hel => ifs_nil) (fun C1 H1 i hi _ => ?_)) (by rw [filter_tt, il, List.map_map]; rfl)) (vc_min hmin)) (.flat rfl) (by (with_reducible repeat' (first | exact Upd.here | apply Upd.there | exact Nm.here | apply Nm.there))) ?_
    · have hi : i < p.length - 1 := by simpa using hi
      have g1 : (nl p)[(1 + (i : Int) - 1).toNat]? = some (.int ((p.getD i 0 : Nat) : Int)) := by rw [tn1]; exact gp i (lt_pre hi)
      have g2 : (nl p)[(1 + (i : Int)).toNat]? = some (.int ((p.getD (i + 1) 0 : Nat) : Int)) := by rw [tn2]; exact gp (i + 1) (lt_suc hi)
      exact Ev.ofFlat (ev_at (i := p.getD (i + 1) 0) (ev_at (i := p.getD i 0) (ev_name_w (by (exact At.via (by with_reducible repeat' (first | exact Nm.here | apply Nm.there)) rfl))) (ev_item (ev_name_w (by (exact At.via (by with_reducible repeat' (first | exact Nm.here | apply Nm.there)) rfl))) (ev_sub (ev_name_w (by (exact At.via (by with_reducible repeat' (first | exact Nm.here | apply Nm.there)) rfl))) ev_int) up3 (up4 (Nat.lt_of_lt_of_le (lt_pre hi) hpl) (by decide)) g1) (mkT_row (way_lt W (i := i) (lt_pre hi))) (hsz _)) (ev_item (ev_name_w (by (exact At.via (by with_reducible repeat' (first | exact Nm.here | apply Nm.there)) rfl))) (ev_name_w (by (exact At.via (by with_reducible repeat' (first | exact Nm.here | apply Nm.there)) rfl))) up1 (up2 (Nat.lt_of_lt_of_le (lt_pre hi) hpl) (by decide)) g2) (rangeMap_at (way_lt W (i := i + 1) (lt_suc hi))) (hsz2 _)) rfl
    change Ex c _ _ (Rm04 n es s t C R p (some ⟨.lo, .int (narw R p)⟩) o2 o3 o4) _
    generalize narw R p = d at hd1 hd2 F' hrow hrun
    refine s_forR (n := p.length - 1) FS (by (with_reducible repeat' (first | exact Upd.here | apply Upd.there | exact Nm.here | apply Nm.there))) (it_rN0 (it_range2 K Brange rfl ev_int (ev_vcall1 (.inl ⟨_, rfl⟩) K Blen rfl (ev_name_w (by (exact At.via (by with_reducible repeat' (first | exact Nm.here | apply Nm.there)) rfl))) (vc_len (lenI hpl (by decide)))) (by decide) (by decide) (lenJ hpl (by decide)) lenK) lm1)
      (fun j ρ => ∃ o2 o3 o4, ρ = Rm04 n es s t C (pushN R d p j) p (some ⟨.lo, .int d⟩) o2 o3 o4) ⟨_, _, _, rfl⟩ ?_ ?_
    · rintro j ρ' hj ⟨o2, o3, o4, rfl⟩
      refine ⟨_, by (with_reducible repeat' (first | exact Upd.here | apply Upd.there | exact Nm.here | apply Nm.there)), ?_⟩
      have g1 : (nl p)[(1 + (j : Int) - 1).toNat]? = some (.int ((p.getD j 0 : Nat) : Int)) := by rw [tn1]; exact gp j (lt_pre hj)
      have g2 : (nl p)[(1 + (j : Int)).toNat]? = some (.int ((p.getD (j + 1) 0 : Nat) : Int)) := by rw [tn2]; exact gp (j + 1) (lt_suc hj)
      refine s_asg (sk := .lo) FS (ev_item (ev_name_w (by (exact At.via (by with_reducible repeat' (first | exact Nm.here | apply Nm.there)) rfl))) (ev_sub (ev_name_w (by (exact At.via (by with_reducible repeat' (first | exact Nm.here | apply Nm.there)) rfl))) ev_int) up3 (up4 (Nat.lt_of_lt_of_le (lt_pre hj) hpl) (by decide)) g1) (.flat rfl) (by (with_reducible repeat' (first | exact Upd.here | apply Upd.there | exact Nm.here | apply Nm.there))) ?_
      refine s_asg (sk := .lo) FS (ev_item (ev_name_w (by (exact At.via (by with_reducible repeat' (first | exact Nm.here | apply Nm.there)) rfl))) (ev_name_w (by (exact At.via (by with_reducible repeat' (first | exact Nm.here | apply Nm.there)) rfl))) up1 (up2 (Nat.lt_of_lt_of_le (lt_pre hj) hpl) (by decide)) g2) (.flat rfl) (by (with_reducible repeat' (first | exact Upd.here | apply Upd.there | exact Nm.here | apply Nm.there))) ?_
      have hu := way_lt W (i := j) (lt_pre hj)
      have hv := way_lt W (i := j + 1) (lt_suc hj)
      have huv := way_ne W (i := j) (j := j + 1) (lt_pre hj) (lt_suc hj) (Nat.ne_of_lt (Nat.lt_succ_self j))
      have eN : pushN R d p (j + 1) = push1 (pushN R d p j) d (p.getD j 0) (p.getD (j + 1) 0) := rfl
      rw [eN]
      generalize pushN R d p j = T
      generalize p.getD j 0 = u at *
      generalize p.getD (j + 1) 0 = v at *
      refine s_set2 (j1 := (u : Int)) (j2 := (v : Int)) FS (by (exact At.via (by with_reducible repeat' (first | exact Nm.here | apply Nm.there)) rfl)) (ev_sub (ev_at (i := v) (d := .int (T u v)) (ev_at (i := u) (ev_name_w (by (exact At.via (by with_reducible repeat' (first | exact Nm.here | apply Nm.there)) rfl))) (ev_name_w (by (exact At.via (by with_reducible repeat' (first | exact Nm.here | apply Nm.there)) rfl))) (mkT_row hu) (hsz _)) (ev_name_w (by (exact At.via (by with_reducible repeat' (first | exact Nm.here | apply Nm.there)) rfl))) (rangeMap_at hv) (hsz2 _)) (ev_name_w (by (exact At.via (by with_reducible repeat' (first | exact Nm.here | apply Nm.there)) rfl))))
        (ev_name_w (by (exact At.via (by with_reducible repeat' (first | exact Nm.here | apply Nm.there)) rfl))) (ev_name_w (by (exact At.via (by with_reducible repeat' (first | exact Nm.here | apply Nm.there)) rfl))) rfl nI3 (nI5 (Nat.lt_of_lt_of_le hu hn) (by decide)) (mkT_row hu) (flats_map (fun _ => rfl) _) nI3 (nI5 (Nat.lt_of_lt_of_le hv hn) (by decide)) (by simpa using hv) (by (with_reducible repeat' (first | exact Upd.here | apply Upd.there | exact Nm.here | apply Nm.there))) ?_
      have hX := mkT_set (n := n) (a := u) (b := v) (g := fun a b => .int (T a b)) (x := .int (T u v - d)) hu
      rw [Int.toNat_natCast, Int.toNat_natCast, hX]
      have gvu : (mkT n fun a b => if a = u ∧ b = v then PyData.int (T u v - d) else .int (T a b))[v]? = some (.list ((List.range n).map fun b => if v = u ∧ b = v then PyData.int (T u v - d) else .int (T v b))) := mkT_row hv
      have gvu2 : ((List.range n).map fun b => if v = u ∧ b = v then PyData.int (T u v - d) else .int (T v b))[u]? = some (.int (T v u)) := by rw [rangeMap_at hu, if_neg (fun q => huv q.1.symm)]
      refine s_set2 (j1 := (v : Int)) (j2 := (u : Int)) FS (by (exact At.via (by with_reducible repeat' (first | exact Nm.here | apply Nm.there)) rfl)) (ev_add (ev_at (i := u) (ev_at (i := v) (ev_name_w (by (exact At.via (by with_reducible repeat' (first | exact Nm.here | apply Nm.there)) rfl))) (ev_name_w (by (exact At.via (by with_reducible repeat' (first | exact Nm.here | apply Nm.there)) rfl))) gvu (hsz _)) (ev_name_w (by (exact At.via (by with_reducible repeat' (first | exact Nm.here | apply Nm.there)) rfl))) gvu2 (hsz2 _)) (ev_name_w (by (exact At.via (by with_reducible repeat' (first | exact Nm.here | apply Nm.there)) rfl))))
        (ev_name_w (by (exact At.via (by with_reducible repeat' (first | exact Nm.here | apply Nm.there)) rfl))) (ev_name_w (by (exact At.via (by with_reducible repeat' (first | exact Nm.here | apply Nm.there)) rfl))) rfl nI3 (nI5 (Nat.lt_of_lt_of_le hv hn) (by decide)) gvu (flats_map (fun b => by split <;> rfl) _) nI3 (nI5 (Nat.lt_of_lt_of_le hu hn) (by decide)) (by simpa using hu) (by (with_reducible repeat' (first | exact Upd.here | apply Upd.there | exact Nm.here | apply Nm.there))) (s_end ?_)
      have hY := mkT_set (n := n) (a := v) (b := u) (g := fun a b => if a = u ∧ b = v then PyData.int (T u v - d) else .int (T a b)) (x := .int (T v u + d)) hv
      rw [Int.toNat_natCast, Int.toNat_natCast, hY]
      have hZ : (mkT n fun a b => if a = v ∧ b = u then PyData.int (T v u + d) else if a = u ∧ b = v then PyData.int (T u v - d) else .int (T a b)) = mkT n fun a b => .int (push1 T d u v a b) := mkT_congr fun a b _ _ => by
        unfold push1; split
        · rfl
        · split <;> rfl
      exact ⟨_, _, _, by unfold Rm04; rw [hZ]⟩
    · rintro ρ' ⟨o2, o3, o4, rfl⟩
      generalize hT : pushN R d p (p.length - 1) = T at F' hrow hrun ⊢
      have hT0 : 0 ≤ sm n (T s) := sm_nonneg fun v hv => F'.nn s v hs hv
      exact s_asg (sk := .lo) FS (ev_call K stAug rfl (evl_w (ev_name_w (by (exact At.via (by with_reducible repeat' (first | exact Nm.here | apply Nm.there)) rfl))) (evl_w (ev_name_w (by (exact At.via (by with_reducible repeat' (first | exact Nm.here | apply Nm.there)) rfl))) (evl_w (ev_name_w (by (exact At.via (by with_reducible repeat' (first | exact Nm.here | apply Nm.there)) rfl))) (evl_w (ev_name_w (by (exact At.via (by with_reducible repeat' (first | exact Nm.here | apply Nm.there)) rfl))) evl_nilU)))) (aug04_fn K Blen Brange stPto (Nat.le_trans hn (by decide)) hs ht) (Nat.le_of_ble_eq_true rfl)) .frlo (by (with_reducible repeat' (first | exact Upd.here | apply Upd.there | exact Nm.here | apply Nm.there))) (s_end ⟨(sm n (T s)).toNat, dn1 (k := k') hm hd1 hrow hT0, T, k', _, _, _, _, F', rfl, dn2 hk hd1 hrow, hrun, by rw [pth, if_neg hst]⟩)
  · have he : pth n R s t = [] := by
      cases q : pth n R s t with
      | nil => rfl
      | cons a l => rw [q] at h; simp at h
    have eM : mfR n s t (k' + 1) R = R := by rw [mfR, if_pos he]
    rw [eM] at hrun
    rw [hrun]
    refine s_ret (u := true) (Ev.cast (ev_compX (p := fun _ => true) (g := fun (u : Nat) => PyData.list ((List.range n).map fun (v : Nat) => PyData.int (max (C u v - R u v) 0))) .lo H0 [0, 4, 5] ["n", "capacity", "room"] [some ⟨.sh, .int n⟩, some ⟨.lo, .list (mkT n fun u v => .int (C u v))⟩, some ⟨.ow, .list (mkT n fun u v => .int (R u v))⟩] ["u", "n", "capacity", "room"]
      (it_n (it_range1 K Brange rfl (ev_name_w (by (exact At.via (by with_reducible repeat' (first | exact Nm.here | apply Nm.there)) rfl))) (nI1 hn (by decide)) nI2)) (.flat encN_flat (by decide)) (szN hn (by decide)) (fun C1 H1 el hel => ifs_nil) (fun C1 H1 u hu _ => ?_)) (by rw [filter_tt]; rfl)) ⟨rfl, fun _ => rfl⟩ (.inl rfl)
    have hu : u < n := by simpa using hu
    refine Ev.cast (ev_compX (p := fun _ => true) (g := fun (v : Nat) => PyData.int (max (C u v - R u v) 0)) .lo H1 [0, 2, 3] ["u", "capacity", "room"] [some ⟨.lo, .int u⟩, some ⟨.lo, .list (mkT n fun u v => .int (C u v))⟩, some ⟨.ow, .list (mkT n fun u v => .int (R u v))⟩] []
      (it_n (it_range1 K Brange rfl (ev_name_w (by (exact At.via (by with_reducible repeat' (first | exact Nm.here | apply Nm.there)) rfl))) (nI1 hn (by decide)) nI2)) (.flat encN_flat (by decide)) (szN hn (by decide)) (fun C2 H2 el hel => ifs_nil) (fun C2 H2 v hv _ => ?_)) (by rw [filter_tt]; rfl)
    have hv : v < n := by simpa using hv
    exact ev_vcall2 (.inl ⟨_, rfl⟩) K Bmax rfl (ev_sub (ev_at (i := v) (d := .int (C u v)) (ev_at (i := u) (ev_name_w (by (exact At.via (by with_reducible repeat' (first | exact Nm.here | apply Nm.there)) rfl))) (ev_name_w (by (exact At.via (by with_reducible repeat' (first | exact Nm.here | apply Nm.there)) rfl))) (mkT_row hu) (hsz _)) (ev_name_w (by (exact At.via (by with_reducible repeat' (first | exact Nm.here | apply Nm.there)) rfl))) (rangeMap_at hv) (hsz2 _)) (ev_at (i := v) (d := .int (R u v)) (ev_at (i := u) (ev_name_w (by (exact At.via (by with_reducible repeat' (first | exact Nm.here | apply Nm.there)) rfl))) (ev_name_w (by (exact At.via (by with_reducible repeat' (first | exact Nm.here | apply Nm.there)) rfl))) (mkT_row hu) (hsz _)) (ev_name_w (by (exact At.via (by with_reducible repeat' (first | exact Nm.here | apply Nm.there)) rfl))) (rangeMap_at hv) (hsz2 _))) ev_int vc_max2

noncomputable def sid04 : FnD := fnAt PySem.Challenge.pw_k21_0004 6
noncomputable def mkS (n s : Nat) (P : Pv1) : List PyData := (List.range n).map fun v => .bool (sdB s P v)
theorem mkS_at {n s v : Nat} {P : Pv1} (h : v < n) : (mkS n s P)[v]? = some (.bool (sdB s P v)) := rangeMap_at h
theorem mkS_set {n s v u : Nat} {P : Pv1} : (mkS n s P).set v (.bool true) = mkS n s (updP P v u) := by
  rw [mkS, rangeMap_set, mkS]
  refine List.map_congr_left fun i _ => ?_
  unfold sdB updP
  by_cases h : i = v
  · rw [if_pos h, if_pos h]; simp
  · rw [if_neg h, if_neg h]
noncomputable abbrev Rs04 (n : Nat) (es : List (Nat × Nat × Int)) (C Fl : Tb) (s : Nat) (st : Pv1 × List Nat) (pl : Nat) (u v : Option Slot) : Rho := [some ⟨.sh, .int n⟩, some ⟨.sh, .list (es.map encE)⟩, some ⟨.sh, .list (mkT n fun u v => .int (Fl u v))⟩, some ⟨.sh, .int s⟩, some ⟨.lo, .list (mkT n fun u v => .int (C u v))⟩, some ⟨.ow, .list (mkS n s st.1)⟩, some ⟨.ow, .list (nl st.2)⟩, some ⟨.lo, .int (pl : Int)⟩, u, v]
theorem sid04_fn {c : Cx} (K : CxOk c) (Blen : Bi c "len" (.builtin "len")) (Brange : Bi c "range" (.type "range")) (stCap : Stands c cap04) {n s : Nat} (hn : n ≤ 4) (hs : s < n) {es : List (Nat × Nat × Int)} (hl : es.length ≤ 18) (hes : ∀ e ∈ es, e.1 < n ∧ e.2.1 < n) {C : Tb} (hC : C = fun (u v : Nat) => capF es u v) {Fl : Tb} :
    Fn c 2 sid04 [.int n, .list (es.map encE), .list (mkT n fun u v => .int (Fl u v)), .int s] (.list (mkS n s (brun (RG C Fl) s n n 0 (fun _ => none, [s])).1)) true := by
  refine fn_go ["n", "edges", "flow", "source"] ["capacity", "side", "queue", "place", "u", "v"] ["n", "edges", "flow", "source", "capacity", "side", "queue", "place", "u", "v"] K ?_ rfl (by decide +kernel) (by decide +kernel) rfl rfl rfl [some ⟨.sh, .int n⟩, some ⟨.sh, .list (es.map encE)⟩, some ⟨.sh, .list (mkT n fun u v => .int (Fl u v))⟩, some ⟨.sh, .int s⟩, none, none, none, none, none, none] ?_
  · intro pm cd doc vals hv
    obtain ⟨a, b, c, d, rfl⟩ := len4 hv; rfl
  intro fm FS
  have hszS : ∀ P, (mkS n s P).length ≤ sizeLine := fun P => szR hn (by decide)
  have hszT : ∀ g : Nat → Nat → PyData, (mkT n g).length ≤ sizeLine := fun g => szR hn (by decide)
  have hszR : ∀ g : Nat → PyData, ((List.range n).map g).length ≤ sizeLine := fun g => szR hn (by decide)
  refine s_asg (sk := .lo) FS (Ev.cast (d' := .list (mkT n fun u v => .int (C u v))) (ev_call K stCap rfl (evl_w (ev_name_w (by (exact At.via (by with_reducible repeat' (first | exact Nm.here | apply Nm.there)) rfl))) (evl_w (ev_name_w (by (exact At.via (by with_reducible repeat' (first | exact Nm.here | apply Nm.there)) rfl))) evl_nilU)) (cap04_fn K Brange hn hl hes) (Nat.le_of_ble_eq_true rfl)) (by rw [hC])) .frlo (by (with_reducible repeat' (first | exact Upd.here | apply Upd.there | exact Nm.here | apply Nm.there))) ?_
  refine s_comp (cells := []) (p := fun _ => true) (g := fun (u : Nat) => PyData.bool false) .lo FS HasCells.nil [] [] [] []
    (it_n (it_range1 K Brange rfl (ev_name_w (by (exact At.via (by with_reducible repeat' (first | exact Nm.here | apply Nm.there)) rfl))) (nI1 hn (by decide)) nI2)) (.flat encN_flat (by decide)) (szN hn (by decide)) (fun C1 H1 el hel => ifs_nil) (fun C1 H1 u hu _ => Ev.ofFlat ev_bool rfl) (by (with_reducible repeat' (first | exact Upd.here | apply Upd.there | exact Nm.here | apply Nm.there))) ?_
  rw [filter_tt]
  refine s_set (j := (s : Int)) (d0 := .bool false) FS (by (exact At.via (by with_reducible repeat' (first | exact Nm.here | apply Nm.there)) rfl)) ev_bool (ev_name_w (by (exact At.via (by with_reducible repeat' (first | exact Nm.here | apply Nm.there)) rfl))) rfl nI3 (nI5 (Nat.lt_of_lt_of_le hs hn) (by decide)) (rangeMap_at (by simpa using hs)) rfl (by (with_reducible repeat' (first | exact Upd.here | apply Upd.there | exact Nm.here | apply Nm.there))) ?_
  have e0 : ((List.range (n : Int).toNat).map fun (u : Nat) => PyData.bool false).set (s : Int).toNat (.bool true) = mkS n s (fun _ => none) := by
    rw [Int.toNat_natCast, Int.toNat_natCast, rangeMap_set, mkS]
    refine List.map_congr_left fun v _ => ?_
    unfold sdB
    by_cases h : v = s
    · rw [if_pos h]; simp [h]
    · rw [if_neg h]; simp [h]
  rw [e0]
  refine s_asg (sk := .ow) FS (ev_list (evl_fr (Ev.ofFlat (ev_name_w (by (exact At.via (by with_reducible repeat' (first | exact Nm.here | apply Nm.there)) rfl))) rfl) evl_nil) (Nat.le_of_ble_eq_true rfl)) .fr (by (with_reducible repeat' (first | exact Upd.here | apply Upd.there | exact Nm.here | apply Nm.there))) ?_
  refine s_asg (sk := .lo) FS ev_int (.flat rfl) (by (with_reducible repeat' (first | exact Upd.here | apply Upd.there | exact Nm.here | apply Nm.there))) ?_
  refine s_while (n := n) (fun m ρ => ∃ pl st o1 o2, m + pl = n ∧ BI (RG C Fl) s n st ∧ brun (RG C Fl) s n n 0 (fun _ => none, [s]) = brun (RG C Fl) s n m pl st ∧ ρ = Rs04 n es C Fl s st pl o1 o2) ⟨0, (fun _ => none, [s]), none, none, rfl, BI.init hs, rfl, rfl⟩ ?_
  rintro m ρ' ⟨pl, st, o1, o2, hm, B, hrun, rfl⟩
  have hql := B.len
  refine ⟨_, tst_cmp (ev_name_w (by (exact At.via (by with_reducible repeat' (first | exact Nm.here | apply Nm.there)) rfl))) (ev_vcall1 (.inl ⟨_, rfl⟩) K Blen rfl (ev_name_w (by (exact At.via (by with_reducible repeat' (first | exact Nm.here | apply Nm.there)) rfl))) (vc_len (lenI (Nat.le_trans hql hn) (by decide)))) cmp_lt, fun h => ?_, fun h => ?_⟩
  · have hpl : pl < st.2.length := lt_len h
    obtain ⟨m', rfl⟩ := pos_m hm hpl hql
    rw [brun, if_pos hpl] at hrun
    have hu : st.2.getD pl 0 ∈ st.2 := by rw [List.getD_eq_getElem?_getD, List.getElem?_eq_getElem hpl]; exact List.getElem_mem hpl
    have gq : (nl st.2)[pl]? = some (.int ((st.2.getD pl 0 : Nat) : Int)) := by rw [nl, List.getElem?_map, List.getD_eq_getElem?_getD, List.getElem?_eq_getElem hpl]; rfl
    refine s_asg (sk := .lo) FS (ev_at (i := pl) (ev_name_w (by (exact At.via (by with_reducible repeat' (first | exact Nm.here | apply Nm.there)) rfl))) (ev_name_w (by (exact At.via (by with_reducible repeat' (first | exact Nm.here | apply Nm.there)) rfl))) gq (szG (Nat.le_trans hql hn) (by decide))) (.flat rfl) (by (with_reducible repeat' (first | exact Upd.here | apply Upd.there | exact Nm.here | apply Nm.there))) ?_
    refine s_asg (sk := .lo) FS (Ev.cast (d' := .int ((pl + 1 : Nat) : Int)) (ev_add (ev_name_w (by (exact At.via (by with_reducible repeat' (first | exact Nm.here | apply Nm.there)) rfl))) ev_int) (by simp)) (.flat rfl) (by (with_reducible repeat' (first | exact Upd.here | apply Upd.there | exact Nm.here | apply Nm.there))) ?_
    generalize st.2.getD pl 0 = u at hu hrun gq ⊢
    have hun := B.lt u hu
    refine s_forN FS (by (with_reducible repeat' (first | exact Upd.here | apply Upd.there | exact Nm.here | apply Nm.there))) (it_range1 K Brange rfl (ev_name_w (by (exact At.via (by with_reducible repeat' (first | exact Nm.here | apply Nm.there)) rfl))) (nI1 hn (by decide)) nI2)
      (fun j ρ => ∃ o2, ρ = Rs04 n es C Fl s ((List.range j).foldl (bstep (RG C Fl) s u) st) (pl + 1) (some ⟨.lo, .int (u : Int)⟩) o2) ⟨_, rfl⟩ ?_ ?_
    · rintro v ρ' hv ⟨o2, rfl⟩
      have hv : v < n := by simpa using hv
      refine ⟨_, by (with_reducible repeat' (first | exact Upd.here | apply Upd.there | exact Nm.here | apply Nm.there)), ?_⟩
      have B1 := (BI.fold (u := u) (List.range v) B hu (fun x hx => Nat.lt_trans (List.mem_range.mp hx) hv)).1
      rw [List.range_succ, List.foldl_append, List.foldl_cons, List.foldl_nil]
      generalize (List.range v).foldl (bstep (RG C Fl) s u) st = st1 at B1
      have hq1 := B1.len
      refine s_when (tst_and (tst_not (tst_bool (ev_at (i := v) (ev_name_w (by (exact At.via (by with_reducible repeat' (first | exact Nm.here | apply Nm.there)) rfl))) (ev_name_w (by (exact At.via (by with_reducible repeat' (first | exact Nm.here | apply Nm.there)) rfl))) (mkS_at hv) (hszS _)))) (fun _ => tst_or
        (tst_cmp (ev_at (i := v) (d := .int (Fl u v)) (ev_at (i := u) (ev_name_w (by (exact At.via (by with_reducible repeat' (first | exact Nm.here | apply Nm.there)) rfl))) (ev_name_w (by (exact At.via (by with_reducible repeat' (first | exact Nm.here | apply Nm.there)) rfl))) (mkT_row hun) (hszT _)) (ev_name_w (by (exact At.via (by with_reducible repeat' (first | exact Nm.here | apply Nm.there)) rfl))) (rangeMap_at hv) (hszR _)) (ev_at (i := v) (d := .int (C u v)) (ev_at (i := u) (ev_name_w (by (exact At.via (by with_reducible repeat' (first | exact Nm.here | apply Nm.there)) rfl))) (ev_name_w (by (exact At.via (by with_reducible repeat' (first | exact Nm.here | apply Nm.there)) rfl))) (mkT_row hun) (hszT _)) (ev_name_w (by (exact At.via (by with_reducible repeat' (first | exact Nm.here | apply Nm.there)) rfl))) (rangeMap_at hv) (hszR _)) cmp_lt)
        (fun _ => tst_cmp (ev_at (i := u) (d := .int (Fl v u)) (ev_at (i := v) (ev_name_w (by (exact At.via (by with_reducible repeat' (first | exact Nm.here | apply Nm.there)) rfl))) (ev_name_w (by (exact At.via (by with_reducible repeat' (first | exact Nm.here | apply Nm.there)) rfl))) (mkT_row hv) (hszT _)) (ev_name_w (by (exact At.via (by with_reducible repeat' (first | exact Nm.here | apply Nm.there)) rfl))) (rangeMap_at hun) (hszR _)) ev_int cmp_gt))) (fun h => ?_) (fun h => ?_)
      · have h' : 0 < RG C Fl u v ∧ v ≠ s ∧ st1.1 v = none := by
          simp only [Bool.and_eq_true, Bool.not_eq_true', Bool.or_eq_true, decide_eq_true_eq, sdB, Bool.or_eq_false_iff, decide_eq_false_iff_not] at h
          exact ⟨RG_pos.mpr h.2, h.1.1, by simpa using h.1.2⟩
        rw [bstep, if_pos h']
        refine s_set (j := (v : Int)) FS (by (exact At.via (by with_reducible repeat' (first | exact Nm.here | apply Nm.there)) rfl)) ev_bool (ev_name_w (by (exact At.via (by with_reducible repeat' (first | exact Nm.here | apply Nm.there)) rfl))) rfl nI3 (nI5 (Nat.lt_of_lt_of_le hv hn) (by decide)) (mkS_at hv) rfl (by (with_reducible repeat' (first | exact Upd.here | apply Upd.there | exact Nm.here | apply Nm.there))) ?_
        exact s_append FS (by (exact At.via (by with_reducible repeat' (first | exact Nm.here | apply Nm.there)) rfl)) (ev_name_w (by (exact At.via (by with_reducible repeat' (first | exact Nm.here | apply Nm.there)) rfl))) (.inr rfl) (szG (Nat.le_trans hq1 hn) (by decide)) (by (with_reducible repeat' (first | exact Upd.here | apply Upd.there | exact Nm.here | apply Nm.there))) (s_end (s_end ⟨_, by unfold Rs04; rw [nl_snoc, ← mkS_set]; rfl⟩))
      · have h' : ¬ (0 < RG C Fl u v ∧ v ≠ s ∧ st1.1 v = none) := by
          rintro ⟨q1, q2, q3⟩
          have e1 : sdB s st1.1 v = false := by simp [sdB, q2, q3]
          rw [e1] at h
          have q1 := RG_pos.mp q1
          simp only [Bool.not_false, Bool.true_and, Bool.or_eq_false_iff, decide_eq_false_iff_not] at h
          exact q1.elim h.1 h.2
        rw [bstep, if_neg h']
        exact s_end ⟨_, rfl⟩
    · rintro ρ' ⟨o2, rfl⟩
      exact s_end ⟨m', Nat.lt_succ_self _, pl + 1, bvis (RG C Fl) s n u st, _, _, mp1 hm, (B.vis hu).1, hrun, rfl⟩
  · have hpl : ¬ pl < st.2.length := nlt_len h
    rw [brun_done hpl] at hrun
    exact s_retO (by (exact At.via (by with_reducible repeat' (first | exact Nm.here | apply Nm.there)) rfl)) ⟨by rw [hrun], fun _ => rfl⟩

noncomputable def val04 : FnD := fnAt PySem.Challenge.pw_k21_0004 5
theorem val04_fn {c : Cx} (K : CxOk c) (Bsum : Bi c "sum" (.builtin "sum")) {n s : Nat} (hn : n ≤ 6) (hs : s < n) {Fl : Tb} :
    Fn c 1 val04 [.list (mkT n fun u v => .int (Fl u v)), .int s] (.int (sm n (Fl s) - sm n fun u => Fl u s)) true := by
  refine fn_go ["flow", "source"] [] ["flow", "source"] K ?_ rfl (by decide +kernel) (by decide +kernel) rfl rfl rfl [some ⟨.sh, .list (mkT n fun u v => .int (Fl u v))⟩, some ⟨.sh, .int s⟩] ?_
  · intro pm cd doc vals hv
    obtain ⟨a, b, rfl⟩ := len2 hv; rfl
  intro fm FS
  have H0 := HasCells.ofs (ys := ["source"]) FS val04.scope rfl ["flow", "source"] rfl (by decide +kernel)
  have hszT : ∀ g : Nat → Nat → PyData, (mkT n g).length ≤ sizeLine := fun g => szR hn (by decide)
  have hszR : ∀ g : Nat → PyData, ((List.range n).map g).length ≤ sizeLine := fun g => szR hn (by decide)
  refine s_ret (u := true) (ev_sub (ev_vcall1 (.inl ⟨_, rfl⟩) K Bsum rfl (Ev.cast (d' := il ((List.range n).map (Fl s))) (ev_at (i := s) (ev_name_w (by (exact At.via (by with_reducible repeat' (first | exact Nm.here | apply Nm.there)) rfl))) (ev_name_w (by (exact At.via (by with_reducible repeat' (first | exact Nm.here | apply Nm.there)) rfl))) (mkT_row hs) (hszT _)) (by rw [il, List.map_map]; rfl)) vc_sum)
    (ev_vcall1 (.inl ⟨_, rfl⟩) K Bsum rfl (Ev.cast (d' := il ((List.range n).map fun u => Fl u s)) (ev_compX (xs := List.range n) (enc := fun (u : Nat) => .list ((List.range n).map fun (v : Nat) => .int (Fl u v))) (p := fun _ => true) (g := fun (u : Nat) => PyData.int (Fl u s)) .sh H0 [1] ["source"] [some ⟨.sh, .int s⟩] []
      (it_list (Ev.cast (ev_name_sh (by (exact At.via (by with_reducible repeat' (first | exact Nm.here | apply Nm.there)) rfl))) (by rfl))) .sh (szN hn (by decide)) (fun C1 H1 el hel => ifs_nil) (fun C1 H1 u hu _ => Ev.ofFlat (ev_at (i := s) (ev_name_w (by (exact At.via (by with_reducible repeat' (first | exact Nm.here | apply Nm.there)) rfl))) (ev_name_w (by (exact At.via (by with_reducible repeat' (first | exact Nm.here | apply Nm.there)) rfl))) (rangeMap_at hs) (hszR _)) rfl)) (by rw [filter_tt, il, List.map_map]; rfl)) vc_sum)) ⟨by rw [sm_list, sm_list], fun _ => rfl⟩ (.inl rfl)

end Mine

set_option maxRecDepth 100000
namespace Mine
/-! trees of questions: is there room from u to v? -/
inductive Qt (α : Type) where
  | ret (a : α) : Qt α
  | ask (u v : Nat) (k : Bool → Qt α) : Qt α
noncomputable def Qt.bind {α β : Type} : Qt α → (α → Qt β) → Qt β
  | .ret a, k => k a
  | .ask u v j, k => .ask u v fun b => (j b).bind k
noncomputable def Qt.run {α : Type} (f : Nat → Nat → Bool) : Qt α → α
  | .ret a => a
  | .ask u v k => (k (f u v)).run f
theorem Qt.run_bind {α β : Type} (f : Nat → Nat → Bool) : ∀ (t : Qt α) (k : α → Qt β), (t.bind k).run f = (k (t.run f)).run f
  | .ret a, k => rfl
  | .ask u v j, k => by show ((j (f u v)).bind k).run f = _; rw [Qt.run_bind f (j (f u v)) k]; rfl
/-- all the answers that agree with what is known -/
noncomputable def Qt.chk : Qt Bool → List ((Nat × Nat) × Bool) → Bool
  | .ret b, _ => b
  | .ask u v k, E => match E.lookup (u, v) with
    | some b => (k b).chk E
    | none => (k true).chk (((u, v), true) :: E) && (k false).chk (((u, v), false) :: E)
theorem Qt.chk_ok {f : Nat → Nat → Bool} : ∀ (t : Qt Bool) (E : List ((Nat × Nat) × Bool)), t.chk E = true → (∀ e ∈ E, f e.1.1 e.1.2 = e.2) → t.run f = true
  | .ret b, _, h, _ => h
  | .ask u v k, E, h, hE => by
    show (k (f u v)).run f = true
    unfold Qt.chk at h
    cases hl : E.lookup (u, v) with
    | some b =>
      rw [hl] at h
      have hm : ((u, v), b) ∈ E := by
        clear h hE
        induction E with
        | nil => cases hl
        | cons e E ih =>
          obtain ⟨⟨x, y⟩, z⟩ := e
          rw [List.lookup_cons] at hl
          by_cases q : ((u, v) : Nat × Nat) = (x, y)
          · rw [beq_iff_eq.mpr q] at hl
            cases hl
            rw [q]; exact List.mem_cons_self ..
          · rw [beq_eq_false_iff_ne.mpr q] at hl
            exact List.mem_cons_of_mem _ (ih hl)
      rw [show f u v = b from hE _ hm]
      exact Qt.chk_ok (k b) E h hE
    | none =>
      rw [hl] at h
      obtain ⟨h1, h2⟩ := Bool.and_eq_true_iff.mp h
      cases hf : f u v with
      | true => exact Qt.chk_ok (k true) _ h1 fun e he => (List.mem_cons.mp he).elim (fun q => by rw [q]; exact hf) (hE e)
      | false => exact Qt.chk_ok (k false) _ h2 fun e he => (List.mem_cons.mp he).elim (fun q => by rw [q]; exact hf) (hE e)
/-! the search, asked -/
noncomputable abbrev BS := Pv1 × List Nat
noncomputable def bstepT (s u : Nat) (st : BS) (v : Nat) : Qt BS := if v ≠ s ∧ st.1 v = none then .ask u v fun b => .ret (if b = true then (updP st.1 v u, st.2 ++ [v]) else st) else .ret st
noncomputable def bfoldT (s u : Nat) : List Nat → BS → Qt BS
  | [], st => .ret st
  | v :: l, st => (bstepT s u st v).bind (bfoldT s u l)
noncomputable def brunT (s n : Nat) : Nat → Nat → BS → Qt BS
  | 0, _, st => .ret st
  | m + 1, pl, st => if pl < st.2.length then (bfoldT s (st.2.getD pl 0) (List.range n) st).bind (brunT s n m (pl + 1)) else .ret st
noncomputable abbrev fR (R : Tb) (u v : Nat) : Bool := decide (0 < R u v)
theorem bstepT_run (R : Tb) (s u : Nat) (st : BS) (v : Nat) : (bstepT s u st v).run (fR R) = bstep R s u st v := by
  unfold bstepT bstep
  by_cases h : v ≠ s ∧ st.1 v = none
  · rw [if_pos h]
    show (if fR R u v = true then _ else _) = _
    by_cases h2 : 0 < R u v
    · rw [if_pos (decide_eq_true h2), if_pos ⟨h2, h⟩]
    · rw [if_neg (by simp only [fR, decide_eq_true_eq]; exact h2), if_neg (fun q => h2 q.1)]
  · rw [if_neg h, if_neg (fun q => h q.2)]; rfl
theorem bfoldT_run (R : Tb) (s u : Nat) : ∀ (l : List Nat) (st : BS), (bfoldT s u l st).run (fR R) = l.foldl (bstep R s u) st
  | [], st => rfl
  | v :: l, st => by rw [bfoldT, Qt.run_bind, bstepT_run, bfoldT_run R s u l, List.foldl_cons]
theorem brunT_run (R : Tb) (s n : Nat) : ∀ (m pl : Nat) (st : BS), (brunT s n m pl st).run (fR R) = brun R s n m pl st
  | 0, _, _ => rfl
  | m + 1, pl, st => by
    rw [brunT, brun]
    by_cases h : pl < st.2.length
    · rw [if_pos h, if_pos h, Qt.run_bind, bfoldT_run, brunT_run R s n m]; rfl
    · rw [if_neg h, if_neg h]; rfl
noncomputable def augT (n s t : Nat) : Qt (List Nat) := (brunT s n n 0 (fun _ => none, [s])).bind fun st => .ret (ptoP n st.1 s t)
theorem augT_run (R : Tb) (n s t : Nat) : (augT n s t).run (fR R) = augP n R s t := by
  rw [augT, Qt.run_bind, brunT_run, augP_eq]; rfl
/-- the way that is taken, on at most four points -/
noncomputable def clB (f : Nat → Nat → Bool) (s t p q : Nat) : List Nat :=
  if f s t = true then [s, t] else if (f s p && f p t) = true then [s, p, t] else if (f s q && f q t) = true then [s, q, t]
  else if (f s p && (f p q && f q t)) = true then [s, p, q, t] else if (f s q && (f q p && f p t)) = true then [s, q, p, t] else []
noncomputable def clT (s t p q : Nat) : Qt (List Nat) :=
  .ask s t fun st => if st = true then .ret [s, t] else
  .ask s p fun sp => .ask p t fun pt => if (sp && pt) = true then .ret [s, p, t] else
  .ask s q fun sq => .ask q t fun qt => if (sq && qt) = true then .ret [s, q, t] else
  .ask p q fun pq => if (sp && (pq && qt)) = true then .ret [s, p, q, t] else
  .ask q p fun qp => if (sq && (qp && pt)) = true then .ret [s, q, p, t] else .ret []
theorem run_ite {α : Type} {f : Nat → Nat → Bool} {c : Prop} [Decidable c] {a b : Qt α} : (if c then a else b).run f = if c then a.run f else b.run f := by split <;> rfl
theorem clT_run (f : Nat → Nat → Bool) (s t p q : Nat) : (clT s t p q).run f = clB f s t p q := by
  unfold clT clB
  simp only [Qt.run, run_ite]
/-- the pairs without room: a point is none of the n -/
noncomputable def E0 (n : Nat) : List ((Nat × Nat) × Bool) := ((List.range 4).flatMap fun u => (List.range 4).filterMap fun v => if n ≤ u ∨ n ≤ v then some (u, v) else none).map fun e => (e, false)
noncomputable def goods : List (Nat × Nat × Nat × Nat × Nat) := [2, 3, 4].flatMap fun n => (List.range n).flatMap fun s => (List.range n).filterMap fun t => if s = t then none else
  match (List.range 4).filter (fun v => v != s && v != t) with
  | [p, q] => some (n, s, t, p, q)
  | _ => none
noncomputable def goodT (n s t p q : Nat) : Bool := ((augT n s t).bind fun a => (clT s t p q).bind fun b => .ret (a == b)).chk (E0 n)
theorem goods_ok : (goods.all fun g => goodT g.1 g.2.1 g.2.2.1 g.2.2.2.1 g.2.2.2.2) = true := by decide +kernel
structure Gd (n s t p q : Nat) : Prop where
  mem : (n, s, t, p, q) ∈ goods
theorem Gd.good {n s t p q : Nat} (G : Gd n s t p q) : goodT n s t p q = true := List.all_eq_true.mp goods_ok _ G.mem
theorem goods_ne : (goods.all fun g => decide (g.2.1 < g.1 ∧ g.2.2.1 < g.1 ∧ g.1 ≤ 4 ∧ g.2.1 ≠ g.2.2.1 ∧ g.2.1 ≠ g.2.2.2.1 ∧ g.2.1 ≠ g.2.2.2.2 ∧ g.2.2.1 ≠ g.2.2.2.1 ∧ g.2.2.1 ≠ g.2.2.2.2 ∧ g.2.2.2.1 ≠ g.2.2.2.2 ∧ g.2.2.2.1 < 4 ∧ g.2.2.2.2 < 4)) = true := by decide +kernel
theorem Gd.ne {n s t p q : Nat} (G : Gd n s t p q) : s < n ∧ t < n ∧ n ≤ 4 ∧ s ≠ t ∧ s ≠ p ∧ s ≠ q ∧ t ≠ p ∧ t ≠ q ∧ p ≠ q ∧ p < 4 ∧ q < 4 := of_decide_eq_true (List.all_eq_true.mp goods_ne _ G.mem)
theorem goods_all4 : (goods.all fun g => (List.range 4).all fun v => decide (v = g.2.1 ∨ v = g.2.2.1 ∨ v = g.2.2.2.1 ∨ v = g.2.2.2.2)) = true := by decide +kernel
theorem Gd.all4 {n s t p q : Nat} (G : Gd n s t p q) {v : Nat} (hv : v < 4) : v = s ∨ v = t ∨ v = p ∨ v = q := of_decide_eq_true (List.all_eq_true.mp (List.all_eq_true.mp goods_all4 _ G.mem) v (List.mem_range.mpr hv))
noncomputable def goods4 : List (Nat × Nat × Nat × Nat) := [(0, 1, 2, 3), (0, 2, 1, 3), (0, 3, 1, 2), (1, 0, 2, 3), (1, 2, 0, 3), (1, 3, 0, 2), (2, 0, 1, 3), (2, 1, 0, 3), (2, 3, 0, 1), (3, 0, 1, 2), (3, 1, 0, 2), (3, 2, 0, 1)]
theorem goods_in4 : (goods.all fun g => decide (g.2 ∈ goods4)) = true := by decide +kernel
theorem Gd.four {n s t p q : Nat} (G : Gd n s t p q) : (s, t, p, q) ∈ goods4 := of_decide_eq_true (List.all_eq_true.mp goods_in4 _ G.mem)
/-- no room where a point is none of the n -/
noncomputable def Zo (n : Nat) (R : Tb) : Prop := ∀ u v, n ≤ u ∨ n ≤ v → R u v = 0
theorem E0_in {n : Nat} {e : (Nat × Nat) × Bool} (he : e ∈ E0 n) : (n ≤ e.1.1 ∨ n ≤ e.1.2) ∧ e.2 = false := by
  unfold E0 at he
  obtain ⟨e', h1, rfl⟩ := List.mem_map.mp he
  obtain ⟨u, _, h2⟩ := List.mem_flatMap.mp h1
  obtain ⟨v, _, h3⟩ := List.mem_filterMap.mp h2
  split at h3
  · cases h3; exact ⟨by assumption, rfl⟩
  · cases h3
theorem Zo.E0 {n : Nat} {R : Tb} (h : Zo n R) : ∀ e ∈ E0 n, fR R e.1.1 e.1.2 = e.2 := fun e he => by
  obtain ⟨h1, h2⟩ := E0_in he
  rw [h2]
  exact decide_eq_false (by rw [h _ _ h1]; exact Int.lt_irrefl 0)
theorem aug_cl {n s t p q : Nat} {R : Tb} (G : Gd n s t p q) (hz : Zo n R) : augP n R s t = clB (fR R) s t p q := by
  have h := Qt.chk_ok (f := fR R) _ _ G.good hz.E0
  rw [Qt.run_bind, augT_run, Qt.run_bind, clT_run] at h
  exact beq_iff_eq.mp h
end Mine

set_option maxRecDepth 100000
namespace Mine
structure Ds (s t p q : Nat) : Prop where
  st : s ≠ t
  sp : s ≠ p
  sq : s ≠ q
  tp : t ≠ p
  tq : t ≠ q
  pq : p ≠ q
theorem Gd.ds {n s t p q : Nat} (G : Gd n s t p q) : Ds s t p q := by obtain ⟨_, _, _, h1, h2, h3, h4, h5, h6, _⟩ := G.ne; exact ⟨h1, h2, h3, h4, h5, h6⟩
section
variable {n s t p q u v x y : Nat} {R C : Tb} {a b c d e f g w z : Int}
theorem push1_off (h1 : ¬ (x = v ∧ y = u)) (h2 : ¬ (x = u ∧ y = v)) : push1 R z u v x y = R x y := by unfold push1; rw [if_neg h1, if_neg h2]
theorem push1_fwd (h : u ≠ v) : push1 R z u v u v = R u v - z := by unfold push1; rw [if_neg (fun k => h k.1), if_pos ⟨rfl, rfl⟩]
theorem push1_bwd : push1 R z u v v u = R v u + z := by unfold push1; rw [if_pos ⟨rfl, rfl⟩]
theorem Zo.push (h : Zo n R) (hu : u < n) (hv : v < n) : Zo n (push1 R z u v) := fun x y hxy => by
  rw [push1_off (fun k => ?_) (fun k => ?_)]
  · exact h x y hxy
  · rw [k.1, k.2] at hxy; exact hxy.elim (Nat.not_le_of_lt hv) (Nat.not_le_of_lt hu)
  · rw [k.1, k.2] at hxy; exact hxy.elim (Nat.not_le_of_lt hu) (Nat.not_le_of_lt hv)
theorem Zo.lt (h : Zo n R) (hp : 0 < R u v) : u < n ∧ v < n := by
  refine ⟨Nat.lt_of_not_le fun k => ?_, Nat.lt_of_not_le fun k => ?_⟩
  · rw [h u v (.inl k)] at hp; exact Int.lt_irrefl 0 hp
  · rw [h u v (.inr k)] at hp; exact Int.lt_irrefl 0 hp
theorem row_out (hne : s ≠ v) (hs : s < n) (hv : v < n) (hw : sm n (R s) = w) : sm n (push1 R z s v s) = w - z := by
  rw [push1_row hs hv hne, if_pos rfl, if_neg hne, hw, Int.add_zero]
theorem row_off (h1 : s ≠ u) (h2 : s ≠ v) : sm n (push1 R z u v s) = sm n (R s) := sm_congr fun _ _ => push1_off (fun k => h2 k.1) (fun k => h1 k.1)
/-- the rooms that count -/
structure Stt (n : Nat) (R : Tb) (s t p q : Nat) (a b c d e f g w : Int) : Prop where
  zo : Zo n R
  st : R s t = a
  sp : R s p = b
  pt : R p t = c
  sq : R s q = d
  qt : R q t = e
  pq : R p q = f
  qp : R q p = g
  row : sm n (R s) = w
theorem Stt.pst (S : Stt n R s t p q a b c d e f g w) (D : Ds s t p q) (h1 : s < n) (h2 : t < n) (z : Int) : Stt n (push1 R z s t) s t p q (a - z) b c d e f g (w - z) :=
  ⟨S.zo.push h1 h2, (push1_fwd D.st).trans (congrArg (· - z) S.st), (push1_off (fun k => D.st k.1) (fun k => D.tp k.2.symm)).trans S.sp, (push1_off (fun k => D.tp k.1.symm) (fun k => D.sp k.1.symm)).trans S.pt, (push1_off (fun k => D.st k.1) (fun k => D.tq k.2.symm)).trans S.sq, (push1_off (fun k => D.tq k.1.symm) (fun k => D.sq k.1.symm)).trans S.qt, (push1_off (fun k => D.tp k.1.symm) (fun k => D.sp k.1.symm)).trans S.pq, (push1_off (fun k => D.tq k.1.symm) (fun k => D.sq k.1.symm)).trans S.qp, row_out D.st h1 h2 S.row⟩
theorem Stt.psp (S : Stt n R s t p q a b c d e f g w) (D : Ds s t p q) (h1 : s < n) (h2 : p < n) (z : Int) : Stt n (push1 R z s p) s t p q a (b - z) c d e f g (w - z) :=
  ⟨S.zo.push h1 h2, (push1_off (fun k => D.sp k.1) (fun k => D.tp k.2)).trans S.st, (push1_fwd D.sp).trans (congrArg (· - z) S.sp), (push1_off (fun k => D.st k.2.symm) (fun k => D.sp k.1.symm)).trans S.pt, (push1_off (fun k => D.sp k.1) (fun k => D.pq k.2.symm)).trans S.sq, (push1_off (fun k => D.pq k.1.symm) (fun k => D.sq k.1.symm)).trans S.qt, (push1_off (fun k => D.sq k.2.symm) (fun k => D.sp k.1.symm)).trans S.pq, (push1_off (fun k => D.pq k.1.symm) (fun k => D.sq k.1.symm)).trans S.qp, row_out D.sp h1 h2 S.row⟩
theorem Stt.ppt (S : Stt n R s t p q a b c d e f g w) (D : Ds s t p q) (h1 : p < n) (h2 : t < n) (z : Int) : Stt n (push1 R z p t) s t p q a b (c - z) d e f g w :=
  ⟨S.zo.push h1 h2, (push1_off (fun k => D.st k.1) (fun k => D.sp k.1)).trans S.st, (push1_off (fun k => D.st k.1) (fun k => D.sp k.1)).trans S.sp, (push1_fwd D.tp.symm).trans (congrArg (· - z) S.pt), (push1_off (fun k => D.st k.1) (fun k => D.sp k.1)).trans S.sq, (push1_off (fun k => D.tq k.1.symm) (fun k => D.pq k.1.symm)).trans S.qt, (push1_off (fun k => D.tp k.1.symm) (fun k => D.tq k.2.symm)).trans S.pq, (push1_off (fun k => D.tq k.1.symm) (fun k => D.pq k.1.symm)).trans S.qp, (row_off D.sp D.st).trans S.row⟩
theorem Stt.psq (S : Stt n R s t p q a b c d e f g w) (D : Ds s t p q) (h1 : s < n) (h2 : q < n) (z : Int) : Stt n (push1 R z s q) s t p q a b c (d - z) e f g (w - z) :=
  ⟨S.zo.push h1 h2, (push1_off (fun k => D.sq k.1) (fun k => D.tq k.2)).trans S.st, (push1_off (fun k => D.sq k.1) (fun k => D.pq k.2)).trans S.sp, (push1_off (fun k => D.pq k.1) (fun k => D.sp k.1.symm)).trans S.pt, (push1_fwd D.sq).trans (congrArg (· - z) S.sq), (push1_off (fun k => D.st k.2.symm) (fun k => D.sq k.1.symm)).trans S.qt, (push1_off (fun k => D.pq k.1) (fun k => D.sp k.1.symm)).trans S.pq, (push1_off (fun k => D.sp k.2.symm) (fun k => D.sq k.1.symm)).trans S.qp, row_out D.sq h1 h2 S.row⟩
theorem Stt.pqt (S : Stt n R s t p q a b c d e f g w) (D : Ds s t p q) (h1 : q < n) (h2 : t < n) (z : Int) : Stt n (push1 R z q t) s t p q a b c d (e - z) f g w :=
  ⟨S.zo.push h1 h2, (push1_off (fun k => D.st k.1) (fun k => D.sq k.1)).trans S.st, (push1_off (fun k => D.st k.1) (fun k => D.sq k.1)).trans S.sp, (push1_off (fun k => D.tp k.1.symm) (fun k => D.pq k.1)).trans S.pt, (push1_off (fun k => D.st k.1) (fun k => D.sq k.1)).trans S.sq, (push1_fwd D.tq.symm).trans (congrArg (· - z) S.qt), (push1_off (fun k => D.tp k.1.symm) (fun k => D.pq k.1)).trans S.pq, (push1_off (fun k => D.tq k.1.symm) (fun k => D.tp k.2.symm)).trans S.qp, (row_off D.sq D.st).trans S.row⟩
theorem Stt.ppq (S : Stt n R s t p q a b c d e f g w) (D : Ds s t p q) (h1 : p < n) (h2 : q < n) (z : Int) : Stt n (push1 R z p q) s t p q a b c d e (f - z) (g + z) w :=
  ⟨S.zo.push h1 h2, (push1_off (fun k => D.sq k.1) (fun k => D.sp k.1)).trans S.st, (push1_off (fun k => D.sq k.1) (fun k => D.sp k.1)).trans S.sp, (push1_off (fun k => D.pq k.1) (fun k => D.tq k.2)).trans S.pt, (push1_off (fun k => D.sq k.1) (fun k => D.sp k.1)).trans S.sq, (push1_off (fun k => D.tp k.2) (fun k => D.pq k.1.symm)).trans S.qt, (push1_fwd D.pq).trans (congrArg (· - z) S.pq), push1_bwd.trans (congrArg (· + z) S.qp), (row_off D.sp D.sq).trans S.row⟩
theorem Stt.pqp (S : Stt n R s t p q a b c d e f g w) (D : Ds s t p q) (h1 : q < n) (h2 : p < n) (z : Int) : Stt n (push1 R z q p) s t p q a b c d e (f + z) (g - z) w :=
  ⟨S.zo.push h1 h2, (push1_off (fun k => D.sp k.1) (fun k => D.sq k.1)).trans S.st, (push1_off (fun k => D.sp k.1) (fun k => D.sq k.1)).trans S.sp, (push1_off (fun k => D.tq k.2) (fun k => D.pq k.1)).trans S.pt, (push1_off (fun k => D.sp k.1) (fun k => D.sq k.1)).trans S.sq, (push1_off (fun k => D.pq k.1.symm) (fun k => D.tp k.2)).trans S.qt, push1_bwd.trans (congrArg (· + z) S.pq), (push1_fwd D.pq.symm).trans (congrArg (· - z) S.qp), (row_off D.sq D.sp).trans S.row⟩
theorem fR_no (h : ¬ 0 < R u v) : fR R u v = false := decide_eq_false h
theorem and_ff {P Q : Prop} [Decidable P] [Decidable Q] (h : ¬ (P ∧ Q)) : ¬ (decide P && decide Q) = true := fun k => h (by simpa using k)
theorem and_tt {P Q : Prop} [Decidable P] [Decidable Q] (h1 : P) (h2 : Q) : (decide P && decide Q) = true := by rw [decide_eq_true h1, decide_eq_true h2]; rfl
theorem and_ff3 {P Q S : Prop} [Decidable P] [Decidable Q] [Decidable S] (h : ¬ (P ∧ Q ∧ S)) : ¬ (decide P && (decide Q && decide S)) = true := fun k => h (by simpa using k)
theorem and_tt3 {P Q S : Prop} [Decidable P] [Decidable Q] [Decidable S] (h1 : P) (h2 : Q) (h3 : S) : (decide P && (decide Q && decide S)) = true := by rw [decide_eq_true h1, decide_eq_true h2, decide_eq_true h3]; rfl
theorem ff_ne {b : Bool} (h : b = false) : ¬ b = true := fun k => by rw [h] at k; cases k
theorem stepW (hst : s ≠ t) {l : List Nat} (hne : l ≠ []) (h : augP n R s t = l) {k : Nat} : mfR n s t (k + 1) R = mfR n s t k (pushN R (narw R l) l (l.length - 1)) := by
  have e : pth n R s t = l := by rw [pth, if_neg hst, h]
  rw [mfR, e, if_neg hne]
theorem step_st (G : Gd n s t p q) (S : Stt n R s t p q a b c d e f g w) (h0 : 0 ≤ a) {k : Nat} : ∃ k' R', k ≤ k' ∧ mfR n s t (k + 1) R = mfR n s t k' R' ∧ Stt n R' s t p q 0 b c d e f g (w - a) := by
  by_cases h : a = 0
  · exact ⟨k + 1, R, Nat.le_succ _, rfl, by rw [h] at S ⊢; rw [Int.sub_zero]; exact S⟩
  · have hp : 0 < R s t := by rw [S.st]; exact Int.lt_iff_le_and_ne.mpr ⟨h0, Ne.symm h⟩
    have e := stepW (k := k) G.ds.st (List.cons_ne_nil _ _) ((aug_cl G S.zo).trans (by unfold clB; rw [if_pos (decide_eq_true hp)]))
    have T := S.pst G.ds (S.zo.lt hp).1 (S.zo.lt hp).2 a
    refine ⟨k, _, Nat.le_refl _, e, ?_⟩
    rw [show narw R [s, t] = a from S.st]
    exact { T with st := T.st.trans (Int.sub_self _) }
theorem min_nz (h1 : 0 ≤ b) (h2 : 0 ≤ c) (h : ¬ min b c = 0) : 0 < b ∧ 0 < c := by omega
theorem step_spt (G : Gd n s t p q) (S : Stt n R s t p q 0 b c d e f g w) (h1 : 0 ≤ b) (h2 : 0 ≤ c) {k : Nat} : ∃ k' R', k ≤ k' ∧ mfR n s t (k + 1) R = mfR n s t k' R' ∧ Stt n R' s t p q 0 (b - min b c) (c - min b c) d e f g (w - min b c) := by
  by_cases h : min b c = 0
  · exact ⟨k + 1, R, Nat.le_succ _, rfl, by rw [h, Int.sub_zero, Int.sub_zero, Int.sub_zero]; exact S⟩
  · obtain ⟨hb, hc⟩ := min_nz h1 h2 h
    have hb : 0 < R s p := by rw [S.sp]; exact hb
    have hc : 0 < R p t := by rw [S.pt]; exact hc
    have n0 : ¬ 0 < R s t := by rw [S.st]; exact Int.lt_irrefl 0
    have e := stepW (k := k) G.ds.st (List.cons_ne_nil _ _) ((aug_cl G S.zo).trans (by unfold clB; rw [if_neg (ff_ne (fR_no n0)), if_pos (and_tt hb hc)]))
    have T := (S.psp G.ds (S.zo.lt hb).1 (S.zo.lt hb).2 (min b c)).ppt G.ds (S.zo.lt hc).1 (S.zo.lt hc).2 (min b c)
    refine ⟨k, _, Nat.le_refl _, e, ?_⟩
    rw [show narw R [s, p, t] = min b c from congr (congrArg min S.sp) S.pt]
    exact T
theorem step_sqt (G : Gd n s t p q) (S : Stt n R s t p q 0 b c d e f g w) (hn : ¬ (0 < b ∧ 0 < c)) (h1 : 0 ≤ d) (h2 : 0 ≤ e) {k : Nat} : ∃ k' R', k ≤ k' ∧ mfR n s t (k + 1) R = mfR n s t k' R' ∧ Stt n R' s t p q 0 b c (d - min d e) (e - min d e) f g (w - min d e) := by
  by_cases h : min d e = 0
  · exact ⟨k + 1, R, Nat.le_succ _, rfl, by rw [h, Int.sub_zero, Int.sub_zero, Int.sub_zero]; exact S⟩
  · obtain ⟨hb, hc⟩ := min_nz h1 h2 h
    have hb : 0 < R s q := by rw [S.sq]; exact hb
    have hc : 0 < R q t := by rw [S.qt]; exact hc
    have n0 : ¬ 0 < R s t := by rw [S.st]; exact Int.lt_irrefl 0
    have n1 : ¬ (0 < R s p ∧ 0 < R p t) := by rw [S.sp, S.pt]; exact hn
    have e' := stepW (k := k) G.ds.st (List.cons_ne_nil _ _) ((aug_cl G S.zo).trans (by unfold clB; rw [if_neg (ff_ne (fR_no n0)), if_neg (and_ff n1), if_pos (and_tt hb hc)]))
    have T := (S.psq G.ds (S.zo.lt hb).1 (S.zo.lt hb).2 (min d e)).pqt G.ds (S.zo.lt hc).1 (S.zo.lt hc).2 (min d e)
    refine ⟨k, _, Nat.le_refl _, e', ?_⟩
    rw [show narw R [s, q, t] = min d e from congr (congrArg min S.sq) S.qt]
    exact T
theorem min3_nz (h1 : 0 ≤ b) (h2 : 0 ≤ f) (h3 : 0 ≤ e) (h : ¬ min (min b f) e = 0) : 0 < b ∧ 0 < f ∧ 0 < e := by
  obtain ⟨k1, k2⟩ := min_nz (Int.le_min.mpr ⟨h1, h2⟩) h3 h
  exact ⟨Int.lt_of_lt_of_le k1 (Int.min_le_left _ _), Int.lt_of_lt_of_le k1 (Int.min_le_right _ _), k2⟩
theorem step_spqt (G : Gd n s t p q) (S : Stt n R s t p q 0 b c d e f g w) (hn : ¬ (0 < b ∧ 0 < c)) (hn2 : ¬ (0 < d ∧ 0 < e)) (h1 : 0 ≤ b) (h2 : 0 ≤ f) (h3 : 0 ≤ e) {k : Nat} :
    ∃ k' R', k ≤ k' ∧ mfR n s t (k + 1) R = mfR n s t k' R' ∧ Stt n R' s t p q 0 (b - min (min b f) e) c d (e - min (min b f) e) (f - min (min b f) e) (g + min (min b f) e) (w - min (min b f) e) := by
  by_cases h : min (min b f) e = 0
  · exact ⟨k + 1, R, Nat.le_succ _, rfl, by rw [h, Int.sub_zero, Int.sub_zero, Int.sub_zero, Int.sub_zero, Int.add_zero]; exact S⟩
  · obtain ⟨hb, hf, he⟩ := min3_nz h1 h2 h3 h
    have hb : 0 < R s p := by rw [S.sp]; exact hb
    have hf : 0 < R p q := by rw [S.pq]; exact hf
    have he : 0 < R q t := by rw [S.qt]; exact he
    have n0 : ¬ 0 < R s t := by rw [S.st]; exact Int.lt_irrefl 0
    have n1 : ¬ (0 < R s p ∧ 0 < R p t) := by rw [S.sp, S.pt]; exact hn
    have n2 : ¬ (0 < R s q ∧ 0 < R q t) := by rw [S.sq, S.qt]; exact hn2
    have e' := stepW (k := k) G.ds.st (List.cons_ne_nil _ _) ((aug_cl G S.zo).trans (by unfold clB; rw [if_neg (ff_ne (fR_no n0)), if_neg (and_ff n1), if_neg (and_ff n2), if_pos (and_tt3 hb hf he)]))
    have T := ((S.psp G.ds (S.zo.lt hb).1 (S.zo.lt hb).2 (min (min b f) e)).ppq G.ds (S.zo.lt hf).1 (S.zo.lt hf).2 (min (min b f) e)).pqt G.ds (S.zo.lt he).1 (S.zo.lt he).2 (min (min b f) e)
    refine ⟨k, _, Nat.le_refl _, e', ?_⟩
    rw [show narw R [s, p, q, t] = min (min b f) e from (show narw R [s, p, q, t] = min (R s p) (min (R p q) (R q t)) from rfl).trans (by rw [S.sp, S.pq, S.qt, Int.min_assoc])]
    exact T
theorem step_sqpt (G : Gd n s t p q) (S : Stt n R s t p q 0 b c d e f g w) (hn : ¬ (0 < b ∧ 0 < c)) (hn2 : ¬ (0 < d ∧ 0 < e)) (hn3 : ¬ (0 < b ∧ 0 < f ∧ 0 < e)) (hz : z = 0 ∨ (0 < d ∧ 0 < g ∧ 0 < c ∧ z = min (min d g) c)) {k : Nat} :
    ∃ k' R', k ≤ k' ∧ mfR n s t (k + 1) R = mfR n s t k' R' ∧ Stt n R' s t p q 0 b (c - z) (d - z) e (f + z) (g - z) (w - z) := by
  rcases hz with h | ⟨hd, hg, hc, hz⟩
  · exact ⟨k + 1, R, Nat.le_succ _, rfl, by rw [h, Int.sub_zero, Int.sub_zero, Int.sub_zero, Int.sub_zero, Int.add_zero]; exact S⟩
  · have hd : 0 < R s q := by rw [S.sq]; exact hd
    have hg : 0 < R q p := by rw [S.qp]; exact hg
    have hc : 0 < R p t := by rw [S.pt]; exact hc
    have n0 : ¬ 0 < R s t := by rw [S.st]; exact Int.lt_irrefl 0
    have n1 : ¬ (0 < R s p ∧ 0 < R p t) := by rw [S.sp, S.pt]; exact hn
    have n2 : ¬ (0 < R s q ∧ 0 < R q t) := by rw [S.sq, S.qt]; exact hn2
    have n3 : ¬ (0 < R s p ∧ 0 < R p q ∧ 0 < R q t) := by rw [S.sp, S.pq, S.qt]; exact hn3
    have e' := stepW (k := k) G.ds.st (List.cons_ne_nil _ _) ((aug_cl G S.zo).trans (by unfold clB; rw [if_neg (ff_ne (fR_no n0)), if_neg (and_ff n1), if_neg (and_ff n2), if_neg (and_ff3 n3), if_pos (and_tt3 hd hg hc)]))
    have T := ((S.psq G.ds (S.zo.lt hd).1 (S.zo.lt hd).2 z).pqp G.ds (S.zo.lt hg).1 (S.zo.lt hg).2 z).ppt G.ds (S.zo.lt hc).1 (S.zo.lt hc).2 z
    refine ⟨k, _, Nat.le_refl _, e', ?_⟩
    rw [show narw R [s, q, p, t] = z from (show narw R [s, q, p, t] = min (R s q) (min (R q p) (R p t)) from rfl).trans (by rw [S.sq, S.qp, S.pt, hz, Int.min_assoc])]
    exact T
theorem no_way (G : Gd n s t p q) (S : Stt n R s t p q 0 b c d e f g w) (hn : ¬ (0 < b ∧ 0 < c)) (hn2 : ¬ (0 < d ∧ 0 < e)) (hn3 : ¬ (0 < b ∧ 0 < f ∧ 0 < e)) (hn4 : ¬ (0 < d ∧ 0 < g ∧ 0 < c)) {k : Nat} : mfR n s t (k + 1) R = R := by
  have n0 : ¬ 0 < R s t := by rw [S.st]; exact Int.lt_irrefl 0
  have n1 : ¬ (0 < R s p ∧ 0 < R p t) := by rw [S.sp, S.pt]; exact hn
  have n2 : ¬ (0 < R s q ∧ 0 < R q t) := by rw [S.sq, S.qt]; exact hn2
  have n3 : ¬ (0 < R s p ∧ 0 < R p q ∧ 0 < R q t) := by rw [S.sp, S.pq, S.qt]; exact hn3
  have n4 : ¬ (0 < R s q ∧ 0 < R q p ∧ 0 < R p t) := by rw [S.sq, S.qp, S.pt]; exact hn4
  have e : augP n R s t = [] := (aug_cl G S.zo).trans (by unfold clB; rw [if_neg (ff_ne (fR_no n0)), if_neg (and_ff n1), if_neg (and_ff n2), if_neg (and_ff3 n3), if_neg (and_ff3 n4)])
  rw [mfR, pth, if_neg G.ds.st, e, if_pos rfl]
theorem mfR_more {C : Tb} {n s t : Nat} (hs : s < n) : ∀ (k : Nat) (R : Tb), FI C R n s t → sm n (R s) < k → mfR n s t (k + 1) R = mfR n s t k R
  | 0, R, F, hk => absurd (sm_nonneg fun v hv => F.nn s v hs hv) (Int.not_le.mpr hk)
  | k + 1, R, F, hk => by
    have u1 : ∀ k, mfR n s t (k + 1) R = if pth n R s t = [] then R else mfR n s t k (pushN R (narw R (pth n R s t)) (pth n R s t) ((pth n R s t).length - 1)) := fun k => rfl
    rw [u1 (k + 1), u1 k]
    by_cases h : pth n R s t = []
    · rw [if_pos h, if_pos h]
    · rw [if_neg h, if_neg h]
      obtain ⟨hst, W⟩ := pth_way hs h
      obtain ⟨h1, h2⟩ := narw_pos W
      obtain ⟨F', e⟩ := F.augment W h1 h2 hst
      exact mfR_more hs k _ F' (by rw [e]; clear e F' h2 W F u1; omega)
theorem mfR_plus {C : Tb} {n s t : Nat} (hs : s < n) {K : Nat} (F : FI C C n s t) (hK : sm n (C s) < K) : ∀ j, mfR n s t (K + j) C = mfR n s t K C
  | 0 => rfl
  | j + 1 => (mfR_more hs (K + j) C F (Int.lt_of_lt_of_le hK (Int.ofNat_le.mpr (Nat.le_add_right K j)))).trans (mfR_plus hs F hK j)
/-! the sums -/
theorem mi1 : 0 ≤ b - min b c := Int.sub_nonneg.mpr (Int.min_le_left _ _)
theorem mi2 : 0 ≤ c - min b c := Int.sub_nonneg.mpr (Int.min_le_right _ _)
theorem mi3 : b - min b c = 0 ∨ c - min b c = 0 := by
  rcases Int.le_total b c with h | h
  · rw [Int.min_eq_left h]; exact .inl (Int.sub_self _)
  · rw [Int.min_eq_right h]; exact .inr (Int.sub_self _)
theorem or_no (h : b = 0 ∨ c = 0) : ¬ (0 < b ∧ 0 < c) := fun k => h.elim (fun h => by rw [h] at k; exact Int.lt_irrefl 0 k.1) (fun h => by rw [h] at k; exact Int.lt_irrefl 0 k.2)
/-- x = min (min b f) e -/
structure Mn (b f e x : Int) : Prop where
  nn : 0 ≤ x
  l1 : x ≤ b
  l2 : x ≤ f
  l3 : x ≤ e
  or : x = b ∨ x = f ∨ x = e
theorem Mn.of (h1 : 0 ≤ b) (h2 : 0 ≤ f) (h3 : 0 ≤ e) : Mn b f e (min (min b f) e) := by
  refine ⟨Int.le_min.mpr ⟨Int.le_min.mpr ⟨h1, h2⟩, h3⟩, Int.le_trans (Int.min_le_left _ _) (Int.min_le_left _ _), Int.le_trans (Int.min_le_left _ _) (Int.min_le_right _ _), Int.min_le_right _ _, ?_⟩
  rcases Int.le_total (min b f) e with h | h
  · rw [Int.min_eq_left h]
    rcases Int.le_total b f with k | k
    · exact .inl (Int.min_eq_left k)
    · exact .inr (.inl (Int.min_eq_right k))
  · exact .inr (.inr (Int.min_eq_right h))
section
variable {A B D E x y : Int}
theorem le_or (h : A = 0 ∨ B = 0) (hx : 0 ≤ x) (hy : 0 ≤ y) : ¬ (0 < A - x ∧ 0 < B - y) := by omega
theorem Mn.no (M : Mn A f E x) : ¬ (0 < A - x ∧ 0 < f - x ∧ 0 < E - x) := by
  rintro ⟨h1, h2, h3⟩
  rcases M.or with h | h | h <;> rw [h] at h1 h2 h3
  · exact absurd h1 (by rw [Int.sub_self]; exact Int.lt_irrefl 0)
  · exact absurd h2 (by rw [Int.sub_self]; exact Int.lt_irrefl 0)
  · exact absurd h3 (by rw [Int.sub_self]; exact Int.lt_irrefl 0)
theorem le0 (h1 : 0 ≤ x) (h2 : x ≤ A) (h3 : A = 0) : x = 0 := Int.le_antisymm (h3 ▸ h2) h1
/-- not both rings -/
theorem xy0 (ab : A = 0 ∨ B = 0) (Mx : Mn A f E x) (My : Mn D g B y) : x = 0 ∨ y = 0 := ab.elim (fun h => .inl (le0 Mx.nn Mx.l1 h)) (fun h => .inr (le0 My.nn My.l3 h))
theorem end3 (ab : A = 0 ∨ B = 0) (Mx : Mn A f E x) (My : Mn D g B y) : ¬ (0 < A - x ∧ 0 < f - x + y ∧ 0 < E - x) := by
  rcases ab with h | h
  · rintro ⟨h1, _⟩
    rw [h, le0 Mx.nn Mx.l1 h] at h1
    exact absurd h1 (by decide)
  · rw [le0 My.nn My.l3 h, Int.add_zero]; exact Mx.no
theorem end4 (de : D = 0 ∨ E = 0) (Mx : Mn A f E x) (My : Mn D g B y) : ¬ (0 < D - y ∧ 0 < g + x - y ∧ 0 < B - y) := by
  rcases de with h | h
  · rintro ⟨h1, _⟩
    rw [h, le0 My.nn My.l1 h] at h1
    exact absurd h1 (by decide)
  · rw [le0 Mx.nn Mx.l3 h, Int.add_zero]; exact My.no
theorem mid5 (de : D = 0 ∨ E = 0) (Mx : Mn A f E x) (hD : 0 ≤ D) (hg : 0 ≤ g) (hB : 0 ≤ B) : min (min D g) B = 0 ∨ (0 < D ∧ 0 < g + x ∧ 0 < B ∧ min (min D g) B = min (min D (g + x)) B) := by
  by_cases h : min (min D g) B = 0
  · exact .inl h
  · obtain ⟨k1, k2, k3⟩ := min3_nz hD hg hB h
    have hE : E = 0 := de.resolve_left fun q => by rw [q] at k1; exact Int.lt_irrefl 0 k1
    rw [le0 Mx.nn Mx.l3 hE, Int.add_zero]
    exact .inr ⟨k1, k2, k3, rfl⟩
end
structure Vals where
  sp : Int
  sq : Int
  x : Int
  y : Int
noncomputable def vals (C : Tb) (s t p q : Nat) : Vals :=
  let sp := min (C s p) (C p t)
  let sq := min (C s q) (C q t)
  ⟨sp, sq, min (min (C s p - sp) (C p q)) (C q t - sq), min (min (C s q - sq) (C q p)) (C p t - sp)⟩
theorem pre {K k m : Nat} (h : K + m + 1 ≤ k) : ∃ j, k = j + 1 ∧ K + m ≤ j := ⟨k - 1, by omega, by omega⟩
theorem vals_x (h0 : ∀ u v, 0 ≤ C u v) : Mn (C s p - (vals C s t p q).sp) (C p q) (C q t - (vals C s t p q).sq) (vals C s t p q).x := Mn.of mi1 (h0 _ _) mi2
theorem vals_y (h0 : ∀ u v, 0 ≤ C u v) : Mn (C s q - (vals C s t p q).sq) (C q p) (C p t - (vals C s t p q).sp) (vals C s t p q).y := Mn.of mi1 (h0 _ _) mi2
theorem mf_end (G : Gd n s t p q) (hz : Zo n C) (h0 : ∀ u v, 0 ≤ C u v) {K : Nat} (hK : sm n (C s) < K) :
    Stt n (mfR n s t K C) s t p q 0 (C s p - (vals C s t p q).sp - (vals C s t p q).x) (C p t - (vals C s t p q).sp - (vals C s t p q).y) (C s q - (vals C s t p q).sq - (vals C s t p q).y) (C q t - (vals C s t p q).sq - (vals C s t p q).x)
      (C p q - (vals C s t p q).x + (vals C s t p q).y) (C q p + (vals C s t p q).x - (vals C s t p q).y) (sm n (C s) - C s t - (vals C s t p q).sp - (vals C s t p q).sq - (vals C s t p q).x - (vals C s t p q).y) := by
  have Mx := vals_x (s := s) (t := t) (p := p) (q := q) h0
  have My := vals_y (s := s) (t := t) (p := p) (q := q) h0
  have ab : C s p - (vals C s t p q).sp = 0 ∨ C p t - (vals C s t p q).sp = 0 := mi3
  have de : C s q - (vals C s t p q).sq = 0 ∨ C q t - (vals C s t p q).sq = 0 := mi3
  have S0 : Stt n C s t p q _ _ _ _ _ _ _ _ := ⟨hz, rfl, rfl, rfl, rfl, rfl, rfl, rfl, rfl⟩
  rw [← mfR_plus G.ne.1 (FI.init fun u v _ _ => h0 u v) hK 7]
  refine cps fun W k => ?_
  obtain ⟨k1, R1, l1, e1, S1⟩ := step_st G S0 (h0 s t) (k := K + 6)
  obtain ⟨j1, rfl, m1⟩ := pre l1
  obtain ⟨k2, R2, l2, e2, S2⟩ := step_spt G S1 (h0 s p) (h0 p t) (k := j1)
  obtain ⟨j2, rfl, m2⟩ := pre (Nat.le_trans m1 l2)
  obtain ⟨k3, R3, l3, e3, S3⟩ := step_sqt G S2 (or_no ab) (h0 s q) (h0 q t) (k := j2)
  obtain ⟨j3, rfl, m3⟩ := pre (Nat.le_trans m2 l3)
  obtain ⟨k4, R4, l4, e4, S4⟩ := step_spqt G S3 (or_no ab) (or_no de) mi1 (h0 p q) mi2 (k := j3)
  obtain ⟨j4, rfl, m4⟩ := pre (Nat.le_trans m3 l4)
  obtain ⟨k5, R5, l5, e5, S5⟩ := step_sqpt G S4 (by have := le_or ab Mx.nn (Int.le_refl 0); rw [Int.sub_zero] at this; exact this) (by have := le_or de (Int.le_refl 0) Mx.nn; rw [Int.sub_zero] at this; exact this) Mx.no (mid5 de Mx mi1 (h0 q p) mi2) (k := j4)
  obtain ⟨j5, rfl, m5⟩ := pre (Nat.le_trans m4 l5)
  have e6 := no_way G S5 (le_or ab Mx.nn My.nn) (le_or de My.nn Mx.nn) (end3 ab Mx My) (end4 de Mx My) (k := j5)
  refine k ?_
  rw [show K + 7 = K + 6 + 1 from rfl, e1, e2, e3, e4, e5, e6]
  exact S5
end
end Mine


namespace Mine
open PySem PySem.Spec PySem.Calls PyProof.Rows

section
variable {c : Cx} {f : Fm} {ρ ρ1 ρ2 : Rho} {mo : Addr → Prop} {val : Nat → Value} {fp : Nat → List Addr} {s : Shared} {E : Value → Shared → Prop}
  {Q : Fl → Rho → Prop} {rest : List Stmt} {e ei l : Expr} {d : PyData} {k k2 : EK} {pos xp yp ap cp sp : Pos} {x y : Str} {i j : Nat} {xs : List PyData} {sk : K}

end
end Mine

namespace Mine
open PySem PySem.Spec PySem.Calls PyProof.Rows

/-! dicts from tuples of ints to ints -/
noncomputable abbrev dD (ps : List (List Int × Int)) : PyData := .dict (ps.map fun p => (.tuple (p.1.map .int), .int p.2))
noncomputable def dfind (ps : List (List Int × Int)) (k : List Int) : Option Int := (ps.find? fun p => decide (p.1 = k)).map (·.2)
noncomputable def dput (ps : List (List Int × Int)) (k : List Int) (v : Int) : List (List Int × Int) := if (dfind ps k).isSome then ps.map (fun p => if p.1 = k then (p.1, v) else p) else ps ++ [(k, v)]
theorem ints_inj : ∀ {a b : List Int}, a.map PyData.int = b.map PyData.int → a = b
  | [], [], _ => rfl
  | [], _ :: _, h => by cases h
  | _ :: _, [], h => by cases h
  | x :: a, y :: b, h => by
    rw [List.map_cons, List.map_cons] at h
    injection h with h1 h2
    injection h1 with h1
    rw [h1, ints_inj h2]
theorem dD_inj : ∀ {a b : List (List Int × Int)}, (a.map fun p => ((PyData.tuple (p.1.map .int), PyData.int p.2) : PyData × PyData)) = (b.map fun p => (.tuple (p.1.map .int), .int p.2)) → a = b
  | [], [], _ => rfl
  | [], _ :: _, h => by cases h
  | _ :: _, [], h => by cases h
  | (k, x) :: a, (l, y) :: b, h => by
    rw [List.map_cons, List.map_cons] at h
    injection h with h1 h2
    injection h1 with h3 h4
    injection h3 with h3
    injection h4 with h4
    have h3 := ints_inj h3
    simp only at h3 h4
    rw [h3, h4, dD_inj h2]
theorem reads_dict {h : Heap} {v : Value} {ps : List (List Int × Int)} {as : List Addr} (r : Reads h v (dD ps) as) :
    ∃ a xs, v = .ref a ∧ as = [a] ∧ (a == sysModules) = false ∧ (∀ prog w, h.DictOfH (tupleKind (intKind prog w)) a xs) ∧ xs.map (·.1) = ps.map (·.1) ∧ (∀ (j : Nat) x p, xs[j]? = some x → ps[j]? = some p → ∃ t, x.2.2 = .int p.2 t) := by
  generalize hd : dD ps = d at r
  cases r with
  | dict k1 k2 k3 h0 h1 h2 h3 =>
    injection hd with hd
    have := dD_inj hd
    subst this
    exact ⟨_, _, rfl, rfl, h0, h1, h2, h3⟩
  | _ => cases hd
theorem items_of {h : Heap} {prog : Program} {w : World} {ks : List Int} : ∀ {vs : List Value} {as : List Addr}, ReadsAll h vs (ks.map .int) as → ItemsAre (intKind prog w) ks vs := by
  induction ks with
  | nil => intro vs as r; rw [rd_nil r]; exact .nil
  | cons k ks ih =>
    intro vs as r
    obtain ⟨v, ws, bs, cs, e, r1, r2⟩ := rd_cons r
    obtain ⟨t, e1⟩ := rd_int r1
    rw [e, e1]
    exact .cons (show Value.isInt k (.int k t) = true by simp [Value.isInt]) (ih r2)
theorem key_of {h : Heap} {prog : Program} {w : World} {v : Value} {ks : List Int} {as : List Addr} (r : Reads h v (.tuple (ks.map .int)) as) : ∃ b, v = .ref b ∧ (tupleKind (intKind prog w)).is h ks b := by
  cases r with | tuple g1 g2 g3 g4 => exact ⟨_, rfl, _, _, _, g1, g2, g3, items_of g4⟩
theorem items_conv {prog prog' : Program} {w w' : World} {ks : List Int} {vs : List Value} (h : ItemsAre (intKind prog w) ks vs) : ItemsAre (intKind prog' w') ks vs := by
  induction h with
  | nil => exact .nil
  | cons h1 _ ih => exact .cons h1 ih
theorem dict_conv {h : Heap} {a : Addr} {xs : List (List Int × Addr × Value)} {prog : Program} {w : World} (x : h.DictOfH (tupleKind (intKind prog w)) a xs) (prog' : Program) (w' : World) : h.DictOfH (tupleKind (intKind prog' w')) a xs := by
  obtain ⟨o, es, ep, g1, g2, g3, g4, g5, g6⟩ := x
  refine ⟨o, es, ep, g1, g2, g3, g4, fun y hy => ?_, g6⟩
  obtain ⟨o', items, n, k1, k2, k3, k4⟩ := g5 y hy
  exact ⟨o', items, n, k1, k2, k3, items_conv k4⟩
theorem at_find {xs : List (List Int × Addr × Value)} : ∀ {ps : List (List Int × Int)}, xs.map (·.1) = ps.map (·.1) → (∀ (j : Nat) x p, xs[j]? = some x → ps[j]? = some p → ∃ t, x.2.2 = .int p.2 t) → ∀ k,
    (atKey xs k = none ∧ dfind ps k = none) ∨ ∃ q i t, atKey xs k = some q ∧ dfind ps k = some i ∧ q.2 = .int i t
  := by
  induction xs with
  | nil =>
    intro ps h _ k
    cases ps with
    | nil => exact .inl ⟨rfl, rfl⟩
    | cons p ps => cases h
  | cons x xs ih =>
    intro ps h hv k
    cases ps with
    | nil => cases h
    | cons p ps =>
      have h1 : x.1 = p.1 := (List.cons.inj h).1
      by_cases q : x.1 = k
      · exact (hv 0 x p rfl rfl).elim fun t e => .inr ⟨x.2, p.2, t, by simp [atKey, q], by simp [dfind, ← h1, q], e⟩
      · have e1 : atKey (x :: xs) k = atKey xs k := by simp [atKey, q]
        have e2 : dfind (p :: ps) k = dfind ps k := by simp [dfind, ← h1, q]
        rw [e1, e2]; exact ih (List.cons.inj h).2 (fun j y r a b => hv (j + 1) y r a b) k
theorem put_rel {xs : List (List Int × Addr × Value)} {ps : List (List Int × Int)} (h2 : xs.map (·.1) = ps.map (·.1)) (h3 : ∀ (j : Nat) x p, xs[j]? = some x → ps[j]? = some p → ∃ t, x.2.2 = .int p.2 t) (k : List Int) (a : Addr) (i : Int) (t : Tok) :
    (storedH xs k a (.int i t)).map (·.1) = (dput ps k i).map (·.1) ∧ ∀ (j : Nat) x p, (storedH xs k a (.int i t))[j]? = some x → (dput ps k i)[j]? = some p → ∃ t, x.2.2 = .int p.2 t := by
  unfold storedH dput
  rcases at_find h2 h3 k with ⟨e1, e2⟩ | ⟨q, i', t', e1, e2, _⟩
  · rw [e1, e2]
    simp only [Option.isSome_none, Bool.false_eq_true, if_false]
    refine ⟨by rw [List.map_append, List.map_append, h2]; rfl, fun j x p hx hp => ?_⟩
    have hl : xs.length = ps.length := by have := congrArg List.length h2; simpa using this
    by_cases q : j < xs.length
    · rw [List.getElem?_append_left q] at hx
      rw [List.getElem?_append_left (by omega)] at hp
      exact h3 j x p hx hp
    · rw [List.getElem?_append_right (by omega)] at hx
      rw [List.getElem?_append_right (by omega)] at hp
      have ej : j - xs.length = 0 := by
        rcases Nat.eq_zero_or_pos (j - xs.length) with r | r
        · exact r
        · rw [List.getElem?_eq_none (by show 1 ≤ _; omega)] at hx; cases hx
      rw [ej] at hx
      rw [← hl, ej] at hp
      cases hx; cases hp
      exact ⟨t, rfl⟩
  · rw [e1, e2]
    simp only [Option.isSome_some, if_true]
    refine ⟨?_, fun j x p hx hp => ?_⟩
    · rw [keys_map_putAt, List.map_map, h2]
      refine List.map_congr_left fun p _ => ?_
      simp only [Function.comp]; split <;> rfl
    · rw [List.getElem?_map] at hx hp
      cases hx' : xs[j]? with
      | none => rw [hx'] at hx; cases hx
      | some x' =>
        cases hp' : ps[j]? with
        | none => rw [hp'] at hp; cases hp
        | some p' =>
          rw [hx'] at hx; rw [hp'] at hp
          cases hx; cases hp
          have hk : x'.1 = p'.1 := by
            have a1 : (xs.map (·.1))[j]? = some x'.1 := by rw [List.getElem?_map, hx']; rfl
            have a2 : (ps.map (·.1))[j]? = some p'.1 := by rw [List.getElem?_map, hp']; rfl
            rw [h2, a2] at a1; exact (Option.some.inj a1).symm
          unfold putAt
          by_cases r : x'.1 = k
          · have e : (fun p : List Int × Int => if p.1 = k then (p.1, i) else p) p' = (p'.1, i) := if_pos (hk ▸ r)
            rw [if_pos r, e]; exact ⟨t, rfl⟩
          · have e : (fun p : List Int × Int => if p.1 = k then (p.1, i) else p) p' = p' := if_neg (hk ▸ r)
            rw [if_neg r, e]; exact h3 j x' p' hx' hp'

section
variable {c : Cx} {f : Fm} {ρ ρ1 : Rho} {mo : Addr → Prop} {val : Nat → Value} {fp : Nat → List Addr} {s : Shared} {E : Value → Shared → Prop}
  {Q : Fl → Rho → Prop} {rest : List Stmt} {e ei l r : Expr} {k k1 k2 : EK} {pos xp sp : Pos} {x : Str} {i : Nat} {ps : List (List Int × Int)} {ks : List Int}

theorem room_in1 {n : Nat} {A : Around} (R : Room n A) : (tupleKind (intKind c.prog c.w)).room A.in1 := tupleKind_room_in1 (by have := R.units; omega)

/-- x[key] = e -/
theorem s_dset {v : Int} (FS : FmS c f) (hat : At f.xs ρ x ⟨.ow, dD ps⟩ i) (hv : Ev c f ρ e (.int v) k) (hi : Ev c f ρ ei (.tuple (ks.map .int)) k2) (hsz : ps.length ≤ sizeLine)
    (hU : Upd f.xs ρ x (some ⟨.ow, dD (dput ps ks v)⟩) ρ1 i) (hQ : Ex c f rest ρ1 Q)
    (hdb : (x == ("__debug__" : Str)) = false := by decide +kernel) (hn : (x == ("__classdict__" : Str)) = false := by decide +kernel)
    (hs : ∀ env, swapsWith e (some (.Subscript (.Name x xp) ei sp)) pos.line env = pure false := by intro _; rfl) : Ex c f (.Assign [.Subscript (.Name x xp) ei sp] e pos :: rest) ρ Q := by
  obtain ⟨h1, h2, rfl⟩ := hU.get
  refine ex_cons fun mo val fp s S => ?_
  refine wpAny_Assign_Subscript (hv.bind S fun v1 s1 as1 x1 S1 r1 _ => name_step S1 hat (fun _ => hi.bind S1 fun iv s3 as3 x3 S3 r3 _ => ?_) hdb hn) (hs _)
  have e0 := hat.slot
  obtain ⟨_, _, _, rd⟩ := S3.var i _ e0
  obtain ⟨a, xs, hva, hfp, hsm, hm, hk2, hk3⟩ := reads_dict rd
  obtain ⟨b, rfl, hkey⟩ := key_of (prog := c.prog) (w := c.w) r3
  cases r1 with | int _ t =>
  rw [hva]
  have hl : xs.length = ps.length := by have := congrArg List.length hk2; simpa using this
  refine wpAny_setItem_heap (room_in1 S.ok.room) hkey (hm _ _) (fun h' hD hsb => ?_) (by omega)
  obtain ⟨p1, p2⟩ := put_rel hk2 hk3 ks b v t
  obtain ⟨o, es, ep, g1, g2, g3, g4, g5, g6⟩ := id hD
  have rd' : Reads h' (val i) (dD (dput ps ks v)) (fp i) := by
    rw [hva, hfp]
    exact .dict g1 g2.1 g3 hsm (fun prog w => dict_conv hD prog w) p1 p2
  have hb : a ∈ fp i := by rw [hfp]; simp
  have := (S3.mut (tk := s3.toks + (tupleKind (intKind c.prog c.w)).draws ks) (as' := fp i) (extra := []) FS e0 hb hsb ⟨o, g1, .inr ⟨g2.1, _, _, g3⟩, g2.2.1, g2.2.2⟩ rd' (S3.own i _ e0 rfl).1 (fun a ha => .inl ha) nofun (fun _ _ _ _ _ _ h => by cases h) nofun)
  have x13 := x1.trans x3
  exact ⟨.next, _, _, _, _, trivial, this.1, ⟨fun b o h1 h2 h3 q => this.2.1 b o h3 (x13.up.kp b o h1 q), fun b o q => let ⟨o', q'⟩ := x13.up.th b o q; this.2.2 b o' q', fun b h => h.elim .inl (fun q => by cases q)⟩, hQ⟩

/-- dict[key] -/
theorem ev_dget {v : Int} (h1 : Ev c f ρ l (dD ps) k1) (h2 : Ev c f ρ r (.tuple (ks.map .int)) k2) (hv : dfind ps ks = some v) (hs : ∀ o i, subscripted r false o i = operate [o, i] (getItem o i) := by intros; rfl) : Ev c f ρ (.Subscript l r pos) (.int v) .fr := by
  intro mo val fp s E S
  refine Subscript_ (h1.bind S fun v1 s1 as1 x1 S1 r1 _ => h2.bind S1 fun v2 s2 as2 x2 S2 r2 _ => ?_)
  obtain ⟨b, rfl, hkey⟩ := key_of (prog := c.prog) (w := c.w) r2
  obtain ⟨a, xs, rfl, _, hsm, hm, hk2, hk3⟩ := reads_dict (x2.reads S1.wf r1)
  rcases at_find hk2 hk3 ks with ⟨e1, e2⟩ | ⟨q, i', t', e1, e2, e3⟩
  · rw [e2] at hv; cases hv
  · rw [e2] at hv; cases hv
    refine tail_any (T := "dict") (hm c.prog c.w).typeIs slot_dict_getitem.lookup (wpAny_getItem_heap (room_in1 S.ok.room) hkey (hm _ _) e1 ?_) (hs _ _)
    rw [e3]
    exact ⟨(x1.trans x2).trans (Ext.toks x2.wf _), [], .int _ _, frNil⟩
end
end Mine

namespace Mine
open PySem PySem.Spec PySem.Calls PyProof.Rows
section
variable {c : Cx} {f : Fm} {ρ : Rho} {mo : Addr → Prop} {val : Nat → Value} {fp : Nat → List Addr} {s : Shared} {E : Value → Shared → Prop}
end
end Mine

namespace Mine
open PySem PySem.Spec PySem.Calls PyProof.Rows

/-! comprehensions with two generators: [elt for x in i1 for y in i2 if ..] -/
noncomputable abbrev comp2 (elt i1 i2 : Expr) (x y : Str) (xp yp : Pos) (ifs : List Expr) (scope : Scope) (pos : Pos) : Expr := .ListComp elt [⟨.Name x xp, i1, [], 0⟩, ⟨.Name y yp, i2, ifs, 0⟩] scope pos
theorem turn0 (elt i1 i2 : Expr) (x y : Str) (xp yp : Pos) (ifs : List Expr) (scope : Scope) (pos : Pos) (it acc : Value) (env : Env) :
    compTurn (comp2 elt i1 i2 x y xp yp ifs scope pos) 0 it acc env = (do
      standAt i1.pos
      match ← pyNext it with
      | none => pure (.done .next)
      | some v =>
        letOwnedTupleGo (.Name x xp) it v
        assign (.Name x xp) env v
        let x' ← eval i2 env
        standAt i2.pos
        let x' ← foldedSetIterable i2 env x'
        let _ ← runOwn (.compStart (comp2 elt i1 i2 x y xp yp ifs scope pos) 1 (← holding [x'] (pyIter x')) acc env) env
        again (.compLoop (comp2 elt i1 i2 x y xp yp ifs scope pos) 0 it acc env)) := by rfl
theorem turn1 (elt i1 i2 : Expr) (x y : Str) (xp yp : Pos) (ifs : List Expr) (scope : Scope) (pos : Pos) (it acc : Value) (env : Env) :
    compTurn (comp2 elt i1 i2 x y xp yp ifs scope pos) 1 it acc env = (do
      standAt i2.pos
      match ← pyNext it with
      | none => pure (.done .next)
      | some v =>
        letOwnedTupleGo (.Name y yp) it v
        assign (.Name y yp) env v
        let mut ok := true
        for c in ifs do
          if ok then ok ← isTrue c env (eval c env)
        if ok then
          (do let _ ← call (.builtin "list.append") [acc, ← eval elt env])
        again (.compLoop (comp2 elt i1 i2 x y xp yp ifs scope pos) 1 it acc env)) := by rfl

section
variable {prog : Program} {w : World} {A : Around} {E : Value → Shared → Prop} {R : Result → Shared → Prop} {s : Shared} {elt i1 i2 : Expr} {x y : Str} {xp yp : Pos} {ifs : List Expr} {scope : Scope} {pos : Pos} {it acc : Value} {env : Env}
theorem loop1 (I : Nat → Shared → Prop)
    (turn : ∀ n s, I n s → wpAny (model prog w) A (pyNext it) (fun r s₁ => match r with
      | none => R (.ok .next) s₁
      | some v => wpAny (model prog w) A (assign (.Name y yp) env v) (fun _ s₂ =>
          wpAny (model prog w) A (forIn ifs true fun c r => if r = true then do let ok ← isTrue c env (eval c env); pure (ForInStep.yield ok) else pure (ForInStep.yield r)) (fun ok s₃ =>
            if ok = true then wpAny (model prog w) A (eval elt env) (fun x s₄ =>
              wpAny (model prog w) A (call (.builtin "list.append") [acc, x]) (fun _ s₅ => ∃ m, m < n ∧ I m s₅) (notedBy (model prog w) A env fun e s' => R (.error e) s') s₄) (notedBy (model prog w) A env fun e s' => R (.error e) s') s₃
            else ∃ m, m < n ∧ I m s₃) (notedBy (model prog w) A env fun e s' => R (.error e) s') s₂) (notedBy (model prog w) A env fun e s' => R (.error e) s') s₁) (notedBy (model prog w) A env fun e s' => R (.error e) s') s)
    (n : Nat) (h : I n s) : codeAny (model prog w) A (.compLoop (comp2 elt i1 i2 x y xp yp ifs scope pos) 1 it acc env) R s := by
  refine codeAny_loop rfl I (fun n s hI => ?_) n h
  show wpAny _ A ((compTurn (comp2 elt i1 i2 x y xp yp ifs scope pos) 1 it acc env).onRaise (fun x => do noteFrame x env; theTreesLotGoes x)) _ _ s
  refine wpAny_noted ?_
  rw [turn1]
  refine wpAny_bind (wpAny_standAt (wpAny_bind (wpAny_mono (turn n s hI) (fun r s₁ h₁ => ?_) fun _ _ h' => h')))
  cases r with
  | none => exact wpAny_pure h₁
  | some v =>
    refine wpAny_bind (wpAny_of_eq (show letOwnedTupleGo (.Name y yp) it v = pure () from rfl) ?_)
    refine wpAny_bind (wpAny_mono h₁ (fun _ s₂ h₂ => wpAny_bind (wpAny_mono h₂ (fun ok s₃ h₃ => ?_) fun _ _ h' => h')) fun _ _ h' => h')
    cases ok with
    | false => exact wpAny_pure ⟨rfl, h₃⟩
    | true =>
      exact wpAny_bind (wpAny_bind (wpAny_mono h₃ (fun x s₄ h₄ => wpAny_bind (wpAny_mono h₄ (fun _ s₅ h₅ => wpAny_pure (wpAny_pure ⟨rfl, h₅⟩)) fun _ _ h' => h')) fun _ _ h' => h'))
theorem start1 (h0 : codeAny (model prog w) A (.compLoop (comp2 elt i1 i2 x y xp yp ifs scope pos) 1 it acc env) R s)
    (h : wpAny (model prog w) A (pyIter it) (fun it' s' => codeAny (model prog w) A (.compLoop (comp2 elt i1 i2 x y xp yp ifs scope pos) 1 it' acc env) R s')
      (notedBy (model prog w) A env fun x s' => R (.error x) s') s) :
    codeAny (model prog w) A (.compStart (comp2 elt i1 i2 x y xp yp ifs scope pos) 1 it acc env) R s := by
  refine codeAny_of_tree ?_
  show wpAny _ _ ((compStart (comp2 elt i1 i2 x y xp yp ifs scope pos) 1 it acc env).onRaise (fun x => do noteFrame x env; standAt theWindowsPlace)) _ _ s
  refine wpAny_notedAt ?_
  unfold compStart
  show wpAny _ _ (ask >>= _) _ _ s
  refine wpAny_bind (wpAny_askSetting (wpAny_ite ?_))
  split
  · first
      | exact wpAny_bind (wpAny_pure (wpAny_pure (And.intro rfl h0)))
      | exact wpAny_pure (And.intro rfl h0)
  · first
      | exact wpAny_bind (wpAny_rule (wpAny_bind (wpAny_standAt (wpAny_bind (wpAny_mono h (fun it' s' h' => wpAny_pure (And.intro rfl h')) fun _ _ x => x)))))
      | (refine wpAny_bind (wpAny_rule ?_); show wpAny _ _ (standAt i2.pos >>= _) _ _ s; exact wpAny_bind (wpAny_standAt (wpAny_bind (wpAny_mono h (fun it' s' h' => wpAny_pure (And.intro rfl h')) fun _ _ x => x))))
theorem loop0 (I : Nat → Shared → Prop) (hs : ∀ x, foldedSetIterable i2 env x = pure x)
    (turn : ∀ n s, I n s → wpAny (model prog w) A (pyNext it) (fun r s₁ => match r with
      | none => R (.ok .next) s₁
      | some v => wpAny (model prog w) A (assign (.Name x xp) env v) (fun _ s₂ =>
          wpAny (model prog w) A (eval i2 env) (fun xv s₃ => wpAny (model prog w) A (pyIter xv) (fun it2 s₄ =>
            codeAny (model prog w) A (.compStart (comp2 elt i1 i2 x y xp yp ifs scope pos) 1 it2 acc env) (fun r s₅ => match r with | .ok _ => ∃ m, m < n ∧ I m s₅ | .error _ => False) s₄) (notedBy (model prog w) A env fun e s' => R (.error e) s') s₃) (notedBy (model prog w) A env fun e s' => R (.error e) s') s₂) (notedBy (model prog w) A env fun e s' => R (.error e) s') s₁) (notedBy (model prog w) A env fun e s' => R (.error e) s') s)
    (n : Nat) (h : I n s) : codeAny (model prog w) A (.compLoop (comp2 elt i1 i2 x y xp yp ifs scope pos) 0 it acc env) R s := by
  refine codeAny_loop rfl I (fun n s hI => ?_) n h
  show wpAny _ A ((compTurn (comp2 elt i1 i2 x y xp yp ifs scope pos) 0 it acc env).onRaise (fun x => do noteFrame x env; theTreesLotGoes x)) _ _ s
  refine wpAny_noted ?_
  rw [turn0]
  refine wpAny_bind (wpAny_standAt (wpAny_bind (wpAny_mono (turn n s hI) (fun r s₁ h₁ => ?_) fun _ _ h' => h')))
  cases r with
  | none => exact wpAny_pure h₁
  | some v =>
    refine wpAny_bind (wpAny_of_eq (show letOwnedTupleGo (.Name x xp) it v = pure () from rfl) ?_)
    refine wpAny_bind (wpAny_mono h₁ (fun _ s₂ h₂ => ?_) fun _ _ h' => h')
    refine wpAny_bind (wpAny_mono h₂ (fun xv s₃ h₃ => wpAny_bind (wpAny_standAt (wpAny_bind (wpAny_of_eq (hs xv) ?_)))) fun _ _ h' => h')
    refine wpAny_bind (wpAny_holding (wpAny_mono h₃ (fun it2 s₄ h₄ => ?_) fun _ _ h' => h'))
    refine wpAny_bind (wpAny_runOwn (codeAny_mono h₄ fun r s₅ h₅ => ?_))
    cases r with
    | ok _ => exact wpAny_pure ⟨rfl, h₅⟩
    | error e => exact h₅.elim
end

section
variable {c : Cx} {f : Fm} {ρ : Rho} {mo : Addr → Prop} {val : Nat → Value} {fp : Nat → List Addr} {s : Shared} {E : Value → Shared → Prop}

/-- one more name -/
theorem St.add {y : Str} {v : Value} {d : PyData} {bs : List Addr} {sk : K} (S : St c f ρ mo val fp s) (hld : Loads f.env s.heap y v) (r : Reads s.heap v d bs) (hsk : sk ≠ .ow) (h1 : ∀ a ∈ bs, ¬ mo a) (h2 : sk = .lo → ∀ a ∈ bs, f.h₀.get? a = none) (h3 : f.env.locals ∉ bs) :
    St c ⟨f.env, f.A, f.h₀, y :: f.xs, f.lv⟩ (some ⟨sk, d⟩ :: ρ) mo (fun i => match i with | 0 => v | i + 1 => val i) (fun i => match i with | 0 => bs | i + 1 => fp i) s where
  wf := S.wf
  ok := ⟨S.ok.kind, S.ok.glob, S.ok.bi, S.ok.room, S.ok.base⟩
  keep := S.keep
  ns := S.ns
  cells := S.cells
  var := fun i sl e => by
    cases i with
    | zero => simp at e; subst e; exact ⟨y, rfl, hld, r⟩
    | succ i => exact S.var i sl (by simpa using e)
  own := fun i sl e ho => by
    cases i with
    | zero => simp at e; subst e; exact absurd ho hsk
    | succ i => exact S.own i sl (by simpa using e) ho
  shr := fun i sl e ho => by
    cases i with
    | zero => exact h1
    | succ i => exact S.shr i sl (by simpa using e) ho
  loc := fun i sl e hl => by
    cases i with
    | zero => simp at e; subst e; exact h2 hl
    | succ i => exact S.loc i sl (by simpa using e) hl
  apart := fun i j sl sl' hne e e' ho ho' => by
    cases i with
    | zero => simp at e; subst e; exact absurd ho hsk
    | succ i =>
      cases j with
      | zero => simp at e'; subst e'; exact absurd ho' hsk
      | succ j => exact S.apart i j sl sl' (fun q => hne (by rw [q])) (by simpa using e) (by simpa using e') ho ho'
  moNew := S.moNew
  moPl := S.moPl
  moL := S.moL
  fpL := fun i sl e => by
    cases i with
    | zero => exact h3
    | succ i => exact S.fpL i sl (by simpa using e)

/-- what may be walked by an iterator of its own, its items plain at any time -/
noncomputable def ItN (c : Cx) (f : Fm) (ρ : Rho) (e : Expr) (ds : List PyData) : Prop :=
  ∀ mo val fp s E, St c f ρ mo val fp s → wpAny c.M f.A (eval e f.env) (fun xv s1 => wpAny c.M f.A (pyIter xv) (fun it s2 => Ext c s s2 ∧ ∃ I P Sx, it = .ref I ∧ Walks c.prog c.w f.A I [I] [I] ds.length P Sx ∧ Sx 0 s2.heap ∧ s.heap.get? I = none ∧
    (∀ i h, Sx i h → ∃ o vs, h.get? I = some o ∧ o.data = .fields vs) ∧ ∀ j v d, P j v → ds[j]? = some d → ∀ h, Reads h v d []) E s1) E s
theorem itn_range {e : Expr} {n : Int} {k : EK} {rp pos : Pos} (C : CxOk c) (B : Bi c "range" (.type "range")) (hx : f.env.kindOf "range" = some .globalImplicit) (h : Ev c f ρ e (.int n) k) (hn : n < 2 ^ 62) (hn' : -(2 ^ 62) ≤ n)
    (he : ∀ env rest, starEach (e :: rest) env = (false, eval e env) :: starEach rest env := by intros; rfl) :
    ItN c f ρ (.Call (.Name "range" rp) [e] [] pos) ((List.range n.toNat).map encN) := fun mo val fp s E S => by
  rw [← intsL0]
  refine range_open C B hx h hn hn' he S fun s1 o tk x1 S1 => ⟨(itr_range (a := 0) (n := n.toNat) S x1 S1).1, _, _, _, rfl, by rw [intsL_length]; exact Walks.range S.ok.room.hand _ 0 1 n.toNat, ?_, ?_, fun i h st => ⟨_, _, st, rfl⟩, fun j v d hP hd h => ?_⟩
  · have e1 : ((0 : Int) + ((0 : Nat) : Int) * 1) = 0 := by simp
    have e2 : (((n.toNat : Nat) : Int) - ((0 : Nat) : Int)) = n.toNat := by simp
    rw [e1, e2]
    exact Heap.get?_push_size _ rfl
  · exact x1.up.none (by
      cases q : s1.heap.get? (s1.heap.push _).objs.size with
      | none => rfl
      | some o' => have := Heap.lt_size q; rw [Heap.size_push] at this; exact absurd this (Nat.not_lt.mpr (Nat.le_succ _)))
  · obtain ⟨h1, rfl⟩ := intsL_get hd
    obtain ⟨t, rfl⟩ := hP
    rw [Int.mul_one]; exact .int _ _
end
end Mine

namespace Mine
open PySem PySem.Spec PySem.Calls PyProof.Rows
section
variable {c : Cx} {f : Fm} {ρ : Rho} {mo : Addr → Prop} {val : Nat → Value} {fp : Nat → List Addr} {s : Shared} {E : Value → Shared → Prop}

noncomputable abbrev cf2 (f : Fm) (scope : Scope) (C : Addr) (x y : Str) (cp : List Nat) : Fm := ⟨(chFm f scope C x cp).env, (chFm f scope C x cp).A, (chFm f scope C x cp).h₀, y :: (chFm f scope C x cp).xs, (chFm f scope C x cp).lv⟩

theorem flat_len {α β γ : Type} {p : α → β → Bool} {g : α → β → γ} {zs : List β} : ∀ l : List α, (l.flatMap fun el => (zs.filter (p el)).map (g el)).length ≤ l.length * zs.length := fun l => by
  induction l with
  | nil => exact Nat.zero_le _
  | cons a l ih =>
    rw [List.flatMap_cons, List.length_append, List.length_map, List.length_cons, Nat.succ_mul, Nat.add_comm]
    exact Nat.add_le_add ih (List.length_filter_le (p a) zs)
theorem flat_len2 {α β γ : Type} {p : α → β → Bool} {g : α → β → γ} {xs : List α} {zs : List β} {el : α} {i j : Nat} (hj : j < xs.length) : (((xs.take j).flatMap fun el => (zs.filter (p el)).map (g el)) ++ ((zs.take i).filter (p el)).map (g el)).length ≤ xs.length * zs.length := by
  rw [List.length_append, List.length_map]
  have a1 := flat_len (p := p) (g := g) (zs := zs) (xs.take j)
  have a2 : ((zs.take i).filter (p el)).length ≤ zs.length := Nat.le_trans (List.length_filter_le ..) (by rw [List.length_take]; exact Nat.min_le_right _ _)
  rw [List.length_take, Nat.min_eq_left (Nat.le_of_lt hj)] at a1
  exact Nat.le_trans (Nat.add_le_add a1 a2) (by rw [← Nat.succ_mul]; exact Nat.mul_le_mul_right _ hj)
/-- two generators, any sum -/
theorem comp_core2K {node i1 i2 : Expr} {x y : Str} {xp yp : Pos} {scope : Scope} {cp : List Nat} {α β γ : Type} {enc : α → PyData} {enc2 : β → PyData} {xs : List α} {zs : List β} {k0 : EK} {sk : K} {dat : List γ → PyData} {p : α → β → Bool} {g : α → β → γ} {oD : Obj} {newAcc : Sem Value}
    {BODY : Addr → Env → (Value → Shared → Prop) → (Shared → Prop) → Shared → Prop}
    (CO : CompOk c f ρ scope x cp) (hxl : scope.names.lookup x = some .local) (hyl : scope.names.lookup y = some .local) (hxy : x ≠ y) (hnc : ∀ z ∈ scope.names, z.2 ≠ .cell) (h : It c f ρ i1 (xs.map enc) k0) (hk : Fills3 k0 (xs.map enc) sk)
    (h2 : ∀ C, ∀ el ∈ xs, ItN c (chFm f scope C x cp) (chRho ρ cp ⟨sk, enc el⟩) i2 (zs.map enc2))
    (hB : ∀ (C D : Addr) (s2 : Shared) (wr as0 : List Addr) (L : List γ), ∀ el ∈ xs, ∀ z ∈ zs, L.length ≤ xs.length * zs.length → ∀ val fp (s : Shared) (N : Value → Shared → Prop) (G : Shared → Prop), St c (cf2 f scope C x y cp) (some ⟨.lo, enc2 z⟩ :: chRho ρ cp ⟨sk, enc el⟩) mo val fp s → CI c s2 wr as0 C D true (dat L) s → s2.heap.get? D = none → c.hB.get? D = none → (∀ b ∈ wr, (∃ o, s.heap.get? b = some o) ∧ ¬ c.X b) →
      (∀ s5, CI c s2 wr as0 C D true (dat (L ++ if p el z = true then [g el z] else [])) s5 → (∀ b o, b ≠ D → ¬ c.X b → s.heap.get? b = some o → s5.heap.get? b = some o) → G s5) → BODY D (chEnv scope C f.env) N G s)
    (hnew : ∀ (s : Shared) (K : Value → Shared → Prop), K (.ref s.heap.objs.size) { s with heap := s.heap.push oD } → wpAny c.M f.A newAcc K E s)
    (hrd : ∀ s2 : Shared, Wf c s2 → Reads (s2.heap.push oD) (.ref s2.heap.objs.size) (dat []) [s2.heap.objs.size] ∧ Pl (s2.heap.push oD) s2.heap.objs.size)
    (hst : ∀ {it acc : Value} {env : Env} {R : Result → Shared → Prop} {s : Shared}, codeAny c.M f.A (.compLoop node 0 it acc env) R s → wpAny c.M f.A (pyIter it) (fun it' s' => codeAny c.M f.A (.compLoop node 0 it' acc env) R s') (notedBy c.M f.A env fun x s' => R (.error x) s') s → codeAny c.M f.A (.compStart node 0 it acc env) R s)
    (hs1 : ∀ {it : Value} {D : Addr} {env : Env} {R : Result → Shared → Prop} {s : Shared}, codeAny c.M f.A (.compLoop node 1 it (.ref D) env) R s → wpAny c.M f.A (pyIter it) (fun it' s' => codeAny c.M f.A (.compLoop node 1 it' (.ref D) env) R s') (notedBy c.M f.A env fun x s' => R (.error x) s') s → codeAny c.M f.A (.compStart node 1 it (.ref D) env) R s)
    (hl0 : ∀ {it : Value} {D : Addr} {env : Env} {R : Result → Shared → Prop} {s : Shared} (I : Nat → Shared → Prop), (∀ n s, I n s → wpAny c.M f.A (pyNext it) (fun r s₁ => match r with
      | none => R (.ok .next) s₁
      | some v => wpAny c.M f.A (assign (.Name x xp) env v) (fun _ s₂ => wpAny c.M f.A (eval i2 env) (fun xv s₃ => wpAny c.M f.A (pyIter xv) (fun it2 s₄ =>
            codeAny c.M f.A (.compStart node 1 it2 (.ref D) env) (fun r s₅ => match r with | .ok _ => ∃ m, m < n ∧ I m s₅ | .error _ => False) s₄) (notedBy c.M f.A env fun e s' => R (.error e) s') s₃) (notedBy c.M f.A env fun e s' => R (.error e) s') s₂) (notedBy c.M f.A env fun e s' => R (.error e) s') s₁) (notedBy c.M f.A env fun e s' => R (.error e) s') s) →
      ∀ n, I n s → codeAny c.M f.A (.compLoop node 0 it (.ref D) env) R s)
    (hl1 : ∀ {it : Value} {D : Addr} {env : Env} {R : Result → Shared → Prop} {s : Shared} (I : Nat → Shared → Prop), (∀ n s, I n s → wpAny c.M f.A (pyNext it) (fun r s₁ => match r with
      | none => R (.ok .next) s₁
      | some v => wpAny c.M f.A (assign (.Name y yp) env v) (fun _ s₂ => BODY D env (notedBy c.M f.A env fun e s' => R (.error e) s') (fun s₅ => ∃ m, m < n ∧ I m s₅) s₂) (notedBy c.M f.A env fun e s' => R (.error e) s') s₁) (notedBy c.M f.A env fun e s' => R (.error e) s') s) →
      ∀ n, I n s → codeAny c.M f.A (.compLoop node 1 it (.ref D) env) R s)
    {RR : Value → Addr → Result → Shared → Prop} (S : St c f ρ mo val fp s)
    (hRR : ∀ D C s' as s2 as0, Ext c s s' → s.heap.get? D = none → s.heap.get? C = none → D ≠ C → (∃ m, s'.heap.Ns C m) → Reads s'.heap (.ref D) (dat (xs.flatMap fun el => (zs.filter (p el)).map (g el))) (D :: as) → Pl s'.heap D → Ext c s s2 → AOk s2 as0 C D true as s'.heap → RR (.ref D) C (.ok .next) s') :
    wpAny c.M f.A (eval i1 f.env) (fun xv s₁ => wpAny c.M f.A (pyIter xv) (fun it s₂ => wpAny c.M f.A newAcc (fun acc s₃ =>
      wpAny c.M f.A (newFunctionEnv scope f.env.globals (clOf f.env scope.names []) [] f.env.qual none .none (some f.env)) (fun cenv s₄ =>
        codeAny c.M f.A (.compStart node 0 it acc { cenv with scope := relabel scope f.env }) (RR acc cenv.locals) s₄) E s₃) E s₂) E s₁) E s := by
  refine comp_open (fr := true) h S hnew hrd ?_ hst
  intro I Fp wr P Sx as0 s2 D C s4 x2 T hDs2 hCs2 I0 hSx0 ns0 own
  clear hst hnew hrd own ns0
  have hW := T.walks
  rw [List.length_map] at hW
  have S2 := S.ext x2
  have nB : ∀ b, s.heap.get? b = none → c.hB.get? b = none := fun b q => S.ok.base.none (S.keep.none q)
  have hCs := x2.up.none hCs2
  have wrX : ∀ b ∈ wr, ¬ c.X b := fun b hb => T.nX b (hW.sub b hb)
  have soft : ∀ {j dt s' h3 tk}, CI c s2 wr as0 C D true dt s' → Sx j s'.heap → (∀ b o, b ∉ wr → s'.heap.get? b = some o → h3.get? b = some o) → CI c s2 wr as0 C D true dt { s' with heap := h3, toks := tk } ∧ ∀ m, s'.heap.Ns C m → h3.Ns C m := fun hI hSx hk3 =>
    hI.soft hk3 (T.fld _ _ hSx) (fun b hb => .inl hb) (fun b hb => nB b (T.new b hb)) wrX
  have stC : ∀ {dt s' h4 tk m m'}, CI c s2 wr as0 C D true dt s' → s'.heap.Ns C m → Heap.SameBut C s'.heap h4 → h4.Ns C m' → CI c s2 wr as0 C D true dt { s' with heap := h4, toks := tk } := fun {dt s' h4 tk m m'} hI n hs n' =>
    hI.but hs hCs2 (nB C hCs) (fun hX => by obtain ⟨ps, q⟩ := hI.wf.tab C hX; obtain ⟨es, ep, z⟩ := ns_data ⟨_, n⟩ q; cases z) ⟨_, n'⟩ (.inl rfl)
  have Fpn : ∀ b ∈ Fp, b ≠ C ∧ b ≠ D := fun b hb => by
    obtain ⟨o, q⟩ := T.inH b hb
    exact ⟨fun e => (by rw [e, hCs2] at q; cases q), fun e => (by rw [e, hDs2] at q; cases q)⟩
  have kX : (chEnv scope C f.env).kindOf x = some .local := lookup_relabel_local hxl
  have kY : (chEnv scope C f.env).kindOf y = some .local := lookup_relabel_local hyl
  have kKind : ((relabel scope f.env).kind == .class || ((relabel scope f.env).kind == .module && (chEnv scope C f.env).locals != (chEnv scope C f.env).globals)) = false := by
    rw [show (relabel scope f.env).kind = .function from CO.kind]; rfl
  refine cps fun G K => ?_
  obtain ⟨II, hout, hin⟩ : ∃ II : Nat → Shared → Prop, (∀ n s', II n s' → ∃ j, j ≤ xs.length ∧ n = xs.length + 1 - j ∧ CI c s2 wr as0 C D true (dat ((xs.take j).flatMap fun el => (zs.filter (p el)).map (g el))) s' ∧ Sx j s'.heap) ∧ ∀ j s', j ≤ xs.length → CI c s2 wr as0 C D true (dat ((xs.take j).flatMap fun el => (zs.filter (p el)).map (g el))) s' → Sx j s'.heap → II (xs.length + 1 - j) s' :=
    ⟨_, fun _ _ h => h, fun j _ a b q => ⟨j, a, rfl, b, q⟩⟩
  refine K (hl0 II (fun n s' h => ?_) (xs.length + 1) (hin 0 s4 (Nat.zero_le _) I0 hSx0))
  clear K
  refine cps fun G K => ?_
  obtain ⟨j, hj, e, hI, hSx⟩ := hout n s' h
  refine K ?_
  clear K h hout
  subst e
  by_cases hlt : j < xs.length
  · refine hW.item j s' _ _ hlt hSx fun v h3 tk hP hSx3 hk3 => ?_
    refine cps fun G K => ?_
    obtain ⟨el, hel⟩ : ∃ el, xs[j]? = some el := ⟨_, List.getElem?_eq_getElem hlt⟩
    have hdm := List.mem_of_getElem? hel
    obtain ⟨bs, hbs, r2⟩ := T.val j v (enc el) hP (by rw [List.getElem?_map, hel]; rfl)
    have okBs := hk.okBs S T.ok hbs (List.mem_map_of_mem hdm) r2
    have hCbs : C ∉ bs := fun q => by obtain ⟨o, z, _⟩ := T.asIn C (hbs.subset q); rw [hCs2] at z; cases z
    obtain ⟨mC, hmC⟩ := hI.ns
    obtain ⟨I3, n3⟩ := soft (tk := tk) hI hSx hk3
    have ns3 := n3 mC hmC
    have mkS : ∀ {dt} {s9 : Shared} {m9}, CI c s2 wr as0 C D true dt s9 → s9.heap.Ns C m9 → m9 x = some v → St c (chFm f scope C x cp) (chRho ρ cp ⟨sk, enc el⟩) mo (fun i => match i with | 0 => v | i + 1 => val (cp.getD i 0)) (fun i => match i with | 0 => bs | i + 1 => fp (cp.getD i 0)) s9 := fun I9 n9 h9 =>
      child_St (sk := sk) CO S (I9.toExt x2 T.new) hCs ⟨_, n9⟩ (fun z hz => absurd rfl (hnc _ hz)) (.inl ⟨kX, _, n9, h9⟩) (I9.item S2.wf (T.fld 0 s2.heap T.start) r2) hk.ne okBs.1 okBs.2 hCbs
    refine K ?_
    clear K hSx hI hmC
    refine wpAny_assign_Name (wpAny_storeName_local kX ns3 (fun h4 hn4 hs4 => ?_) kKind)
    have I4 : CI c s2 wr as0 C D true (dat ((xs.take j).flatMap fun el => (zs.filter (p el)).map (g el))) { s' with heap := h4, toks := tk + 1 } := stC (s' := { s' with heap := h3, toks := tk }) I3 ns3 hs4 hn4
    have hSx4 : Sx (j + 1) h4 := hW.frame _ _ _ hSx3 fun b hb o q => (hs4.2 b (Fpn b hb).1).trans q
    refine wpAny_mono (h2 C el hdm mo _ _ _ _ (mkS I4 hn4 (by simp))) (fun xv s5 h5 => wpAny_mono h5 (fun it2 s6 h6 => ?_) fun _ _ z => z) fun _ _ z => z
    refine cps fun G K => ?_
    obtain ⟨x6, I2, P2, Sx2, e2, W2, st2, new2, fld2, val2⟩ := h6
    refine K ?_
    clear K
    subst e2
    rw [List.length_map] at W2
    clear hP hSx3 hk3 n3 ns3 hs4 I3
    have hI2 : ∀ b o, s2.heap.get? b = some o → b ≠ I2 := fun b o q e => by
      have : ∃ o', h4.get? b = some o' := by
        by_cases hb : b ∈ wr
        · obtain ⟨o', _, g1, _⟩ := T.fld (j + 1) h4 hSx4 b hb; exact ⟨o', g1⟩
        · exact I4.th b o hb q
      obtain ⟨o', q'⟩ := this
      rw [e, show h4.get? I2 = none from new2] at q'; cases q'
    have nI2 : s2.heap.get? I2 = none := by
      cases q : s2.heap.get? I2 with
      | none => rfl
      | some o => exact absurd rfl (hI2 I2 o q)
    have nX2 : ¬ c.X I2 := fun q => by obtain ⟨ps, q'⟩ := I4.wf.tab I2 q; rw [show h4.get? I2 = none from new2] at q'; cases q'
    have nB2 := nB I2 ((I4.toExt x2 T.new).up.none new2)
    have FpI : ∀ b ∈ Fp, b ≠ I2 := fun b hb => by obtain ⟨o, q⟩ := T.inH b hb; exact hI2 b o q
    have hfin : ∀ s5, CI c s2 wr as0 C D true (dat (((xs.take j).flatMap fun el => (zs.filter (p el)).map (g el)) ++ (zs.filter (p el)).map (g el))) s5 → Sx (j + 1) s5.heap → ∃ m, m < xs.length + 1 - j ∧ II m s5 := fun s5 i1 i2 => by
      refine ⟨_, Nat.sub_lt_sub_left (Nat.lt_succ_of_lt hlt) (Nat.lt_succ_self j), hin (j + 1) s5 hlt ?_ i2⟩
      rw [List.take_add_one, hel, Option.toList_some, List.flatMap_append, List.flatMap_cons, List.flatMap_nil, List.append_nil]; exact i1
    have hlen := fun i => flat_len2 (p := p) (g := g) (zs := zs) (el := el) (i := i) hlt
    generalize ((xs.take j).flatMap fun el => (zs.filter (p el)).map (g el)) = L0 at I4 hfin hlen
    have loopIn : codeAny c.M f.A (.compLoop node 1 (.ref I2) (.ref D) (chEnv scope C f.env)) (fun r s₅ => match r with | .ok _ => ∃ m, m < xs.length + 1 - j ∧ II m s₅ | .error _ => False) s6 := by
      refine hl1 (fun n s' => ∃ i, i ≤ zs.length ∧ n = zs.length + 1 - i ∧ CI c s2 wr as0 C D true (dat (L0 ++ ((zs.take i).filter (p el)).map (g el))) s' ∧ Sx (j + 1) s'.heap ∧ Sx2 i s'.heap ∧ ∃ m, s'.heap.Ns C m ∧ m x = some v) ?_ (zs.length + 1)
        ⟨0, Nat.zero_le _, rfl, by rw [List.take_zero, List.filter_nil, List.map_nil, List.append_nil]; exact I4.ext x6, hW.frame _ _ _ hSx4 (fun b hb o q => x6.up.kp b o (T.nX b hb) q), st2, _, Ns.ext I4.wf x6 hn4, by simp⟩
      intro n s7 h7
      refine cps fun G K => ?_
      obtain ⟨i, hi, e7, I7, hSx7, hS27, m7, hn7, hm7⟩ := h7
      refine K ?_
      clear K
      subst e7
      have step : ∀ h8 tk8, (∀ b o, b ∉ [I2] → s7.heap.get? b = some o → h8.get? b = some o) → CI c s2 wr as0 C D true (dat (L0 ++ ((zs.take i).filter (p el)).map (g el))) { s7 with heap := h8, toks := tk8 } ∧ Sx (j + 1) h8 ∧ h8.Ns C m7 := fun h8 tk8 hk8 => by
        obtain ⟨I8, n8⟩ := I7.soft (ws := [I2]) (tk := tk8) hk8 (fun b hb => by rw [List.mem_singleton.mp hb]; exact fld2 i _ hS27) (fun b hb => .inr (by rw [List.mem_singleton.mp hb]; exact nI2)) (fun b hb => by rw [List.mem_singleton.mp hb]; exact nB2) (fun b hb => by rw [List.mem_singleton.mp hb]; exact nX2)
        exact ⟨I8, hW.frame _ _ _ hSx7 fun b hb o q => hk8 b o (fun r => FpI b hb (List.mem_singleton.mp r)) q, n8 m7 hn7⟩
      by_cases hilt : i < zs.length
      · refine W2.item i s7 _ _ hilt hS27 fun v2 h8 tk8 hP2 hS28 hk8 => ?_
        refine cps fun G K => ?_
        obtain ⟨z, hz⟩ : ∃ z, zs[i]? = some z := ⟨_, List.getElem?_eq_getElem hilt⟩
        have hzm := List.mem_of_getElem? hz
        have r9 := fun h => val2 i v2 (enc2 z) hP2 (by rw [List.getElem?_map, hz]; rfl) h
        obtain ⟨I8, hSx8, ns8⟩ := step h8 tk8 hk8
        have hI2ne : I2 ≠ C ∧ I2 ≠ D := by
          obtain ⟨o2, vs, g1, g2⟩ := fld2 (i + 1) _ hS28
          refine ⟨fun q => ?_, fun q => ?_⟩
          · rw [q] at g1
            obtain ⟨es, ep, g3⟩ := ns_data ⟨_, ns8⟩ g1
            rw [g2] at g3; cases g3
          · obtain ⟨_, _, ⟨o, w, l, _⟩, _⟩ := I8.rd
            rw [q] at g1
            rw [show h8.get? D = some o from w] at g1; cases g1
            exact (fields_not g2).1 l
        refine K ?_
        clear K
        refine wpAny_assign_Name (wpAny_storeName_local kY ns8 (fun h9 hn9 hs9 => ?_) kKind)
        have I9 : CI c s2 wr as0 C D true (dat (L0 ++ ((zs.take i).filter (p el)).map (g el))) { s7 with heap := h9, toks := tk8 + 1 } := stC (s' := { s7 with heap := h8, toks := tk8 }) I8 ns8 hs9 hn9
        have hSx9 : Sx (j + 1) h9 := hW.frame _ _ _ hSx8 fun b hb o q => (hs9.2 b (Fpn b hb).1).trans q
        have hS29 : Sx2 (i + 1) h9 := W2.frame _ _ _ hS28 fun b hb o q => (hs9.2 b (by rw [List.mem_singleton.mp hb]; exact hI2ne.1)).trans q
        clear hSx8 hS28 hk8 hs9 I8 ns8 step hSx7 hS27 I7 hn7
        have CS2 := (mkS I9 hn9 (by simp [hxy, hm7])).add (y := y) (sk := .lo) (.inl ⟨kY, _, hn9, by simp⟩) (r9 h9) (by decide) nofun (fun _ => nofun) nofun
        refine hB C D s2 wr as0 _ el hdm z hzm (hlen i) _ _ _ _ _ CS2 I9 hDs2 (nB D (x2.up.none hDs2)) (fun b hb => ⟨?_, wrX b hb⟩) fun s5 I5 k5 => ⟨_, Nat.sub_lt_sub_left (Nat.lt_succ_of_lt hilt) (Nat.lt_succ_self i), i + 1, hilt, rfl, ?_, hW.frame _ _ _ hSx9 fun b hb o q => k5 b o (Fpn b hb).2 (T.nX b hb) q, W2.frame _ _ _ hS29 fun b hb o q => k5 b o (by rw [List.mem_singleton.mp hb]; exact hI2ne.2) (by rw [List.mem_singleton.mp hb]; exact nX2) q, _, ns_keep hn9 fun o q => k5 C o I9.hDC.symm (fun hX => ?_) q, by simp [hxy, hm7]⟩
        · obtain ⟨o, vs, q, _⟩ := T.fld (j + 1) h9 hSx9 b hb; exact ⟨o, q⟩
        · rw [List.take_add_one, hz, Option.toList_some, List.filter_append, List.map_append, ← List.append_assoc, List.filter_cons]
          cases hp : p el z with
          | true => rw [hp] at I5; exact I5
          | false => rw [hp] at I5; exact I5
        · obtain ⟨ps, w⟩ := I9.wf.tab C hX
          obtain ⟨es, ep, z⟩ := ns_data ⟨_, hn9⟩ w; cases z
      · have hi' : i = zs.length := Nat.le_antisymm hi (Nat.le_of_not_lt hilt)
        subst hi'
        refine W2.done s7 _ _ hS27 fun h8 tk8 hk8 => ?_
        obtain ⟨I8, hSx8, ns8⟩ := step h8 tk8 hk8
        rw [List.take_length] at I8
        exact hfin _ I8 hSx8
    exact hs1 loopIn (W2.self 0 _ _ _ st2 loopIn)
  · have hj' : j = xs.length := Nat.le_antisymm hj (Nat.le_of_not_lt hlt)
    subst hj'
    refine hW.done s' _ _ hSx fun h3 tk hk3 => ?_
    have I3 := (soft (tk := tk) hI hSx hk3).1
    rw [List.take_length] at I3
    exact I3.rd.elim fun as h => hRR D C _ as s2 as0 (I3.toExt x2 T.new) (x2.up.none hDs2) hCs I3.hDC I3.ns h.1 h.2.1 x2 h.2.2
theorem comp_core2 {elt i1 i2 : Expr} {x y : Str} {xp yp : Pos} {ifs : List Expr} {scope : Scope} {pos : Pos} {cp : List Nat} {α β : Type} {enc : α → PyData} {enc2 : β → PyData} {xs : List α} {zs : List β} {k0 : EK} {sk : K} {p : α → β → Bool} {g : α → β → PyData}
    (CO : CompOk c f ρ scope x cp) (hxl : scope.names.lookup x = some .local) (hyl : scope.names.lookup y = some .local) (hxy : x ≠ y) (hnc : ∀ z ∈ scope.names, z.2 ≠ .cell) (h : It c f ρ i1 (xs.map enc) k0) (hk : Fills3 k0 (xs.map enc) sk) (hsz : xs.length * zs.length ≤ sizeLine)
    (h2 : ∀ C, ∀ el ∈ xs, ItN c (chFm f scope C x cp) (chRho ρ cp ⟨sk, enc el⟩) i2 (zs.map enc2))
    (ht : ∀ C, ∀ el ∈ xs, ∀ z ∈ zs, Ifs c (cf2 f scope C x y cp) (some ⟨.lo, enc2 z⟩ :: chRho ρ cp ⟨sk, enc el⟩) ifs (p el z))
    (he : ∀ C, ∀ el ∈ xs, ∀ z ∈ zs, p el z = true → Ev c (cf2 f scope C x y cp) (some ⟨.lo, enc2 z⟩ :: chRho ρ cp ⟨sk, enc el⟩) elt (g el z) .fr)
    {RR : Value → Addr → Result → Shared → Prop} (S : St c f ρ mo val fp s)
    (hRR : ∀ D C s' as, Ext c s s' → s.heap.get? D = none → s.heap.get? C = none → D ≠ C → (∃ m, s'.heap.Ns C m) → Reads s'.heap (.ref D) (.list (xs.flatMap fun el => (zs.filter (p el)).map (g el))) (D :: as) → (D :: as).Nodup → (∀ a ∈ D :: as, s.heap.get? a = none) → (∀ a ∈ D :: as, Pl s'.heap a) → C ∉ as →
      RR (.ref D) C (.ok .next) s')
    (hs2 : ∀ env x, foldedSetIterable i2 env x = pure x) :
    wpAny c.M f.A (eval i1 f.env) (fun xv s₁ => wpAny c.M f.A (pyIter xv) (fun it s₂ => wpAny c.M f.A (newList []) (fun acc s₃ =>
      wpAny c.M f.A (newFunctionEnv scope f.env.globals (clOf f.env scope.names []) [] f.env.qual none .none (some f.env)) (fun cenv s₄ =>
        codeAny c.M f.A (.compStart (comp2 elt i1 i2 x y xp yp ifs scope pos) 0 it acc { cenv with scope := relabel scope f.env }) (RR acc cenv.locals) s₄) E s₃) E s₂) E s₁) E s := by
  refine comp_core2K (dat := fun L => .list L) CO hxl hyl hxy hnc h hk h2 (BODY := fun D env N G s => wpAny c.M f.A (forIn ifs true fun e r => if r = true then do let ok ← isTrue e env (eval e env); pure (ForInStep.yield ok) else pure (ForInStep.yield r)) (fun ok s₃ => if ok = true then wpAny c.M f.A (eval elt env) (fun x s₄ => wpAny c.M f.A (call (.builtin "list.append") [.ref D, x]) (fun _ s₅ => G s₅) N s₄) N s₃ else G s₃) N s)
    (fun C D s2 wr as0 L el hel z hz hL val fp s N G CS I hD hB hwr hG => comp_turn CS I (Nat.le_trans hL hsz) hD hB hwr (ht C el hel z hz) (he C el hel z hz) (fun q => by cases q) hG)
    (fun s K hK => wpAny_newList hK (by simp)) (fun s2 W => ⟨.list (Heap.get?_push_size _ rfl) rfl rfl .nil, ⟨_, Heap.get?_push_size _ rfl, .inl ⟨rfl, _, _, rfl⟩, rfl, rfl⟩⟩) (fun h0 h1 => codeAny_compStart_list h0 h1) (fun h0 h1 => start1 h0 h1) (fun I t n hn => loop0 I (hs2 _) t n hn) (fun I t n hn => loop1 I t n hn) S ?_
  exact fun D C s' as s2 as0 x1 hD hC hDC hn r pD x2 a => hRR D C s' as x1 hD hC hDC hn r (List.nodup_cons.mpr ⟨fun q => (a.1 D q).1 rfl, (a.2.1 rfl).1⟩) (fun b hb => (List.mem_cons.mp hb).elim (fun e => e ▸ hD) fun hb => x2.up.none ((a.2.1 rfl).2 b hb).1) (fun b hb => (List.mem_cons.mp hb).elim (fun e => e ▸ pD) fun hb => ((a.2.1 rfl).2 b hb).2) fun q => (a.1 C q).2 rfl
end
end Mine

namespace Mine
open PySem PySem.Spec PySem.Calls PyProof.Rows
section
variable {c : Cx} {f : Fm} {ρ : Rho} {mo : Addr → Prop} {val : Nat → Value} {fp : Nat → List Addr} {s : Shared} {E : Value → Shared → Prop}
/-- the frame within a comprehension with two generators, its names written out -/
noncomputable abbrev cfB (f : Fm) (scope : Scope) (C : Addr) (x y : Str) (names : List Str) : Fm := ⟨chEnv scope C f.env, f.A, f.h₀, y :: x :: names, f.lv⟩
noncomputable def comp2Chk (scope : Scope) (x x2 : Str) : Bool := scope.names.lookup x == some .local && scope.names.lookup x2 == some .local && x != x2 && scope.names.all fun z => z.2 != .cell
end
end Mine

namespace Mine
open PySem PySem.Spec PySem.Calls PyProof.Rows
section
variable {c : Cx} {f : Fm} {ρ : Rho} {mo : Addr → Prop} {val : Nat → Value} {fp : Nat → List Addr} {s : Shared} {E : Value → Shared → Prop}
end
end Mine

namespace Mine
open PySem PySem.Spec PySem.Calls PyProof.Rows
/-! for v, x in enumerate(list of ints) -/
theorem ints_get {h : Heap} {vs : Array Value} {ns : List Int} {as : List Addr} (r : ReadsAll h vs.toList (ns.map .int) as) {j : Nat} {x : Value} (hx : vs[j]? = some x) : ∃ n t, ns[j]? = some n ∧ x = .int n t := by
  have hl : vs.size = ns.length := by simpa using readsAll_length r
  have hj : j < ns.length := by rw [← hl]; exact (Array.getElem?_eq_some_iff.mp hx).1
  have hd : (ns.map PyData.int)[j]? = some (.int ns[j]) := by rw [List.getElem?_map, List.getElem?_eq_getElem hj]; rfl
  obtain ⟨v', cs, q1, q2, q3⟩ := readsAll_item r hd
  have : v' = x := by
    have h1 : vs.toList[j]? = some x := by simpa using hx
    rw [q1] at h1; exact Option.some.inj h1
  subst this
  cases q2 with | int _ t => exact ⟨_, t, List.getElem?_eq_getElem hj, rfl⟩
section
variable {c : Cx} {f : Fm} {ρ : Rho} {mo : Addr → Prop} {val : Nat → Value} {fp : Nat → List Addr} {s : Shared} {E : Value → Shared → Prop} {Q : Fl → Rho → Prop} {body : List Stmt} {pos : Pos}
/-- a walk that hands out pairs: its places -/
structure ItT (c : Cx) (f : Fm) (mo : Addr → Prop) (s : Shared) (ns : List Int) (I : Addr) (Fp wr : List Addr) (Sx : Nat → Heap → Prop) (Mid : Nat → Addr → Heap → Prop) : Prop where
  walks : WalksT c.prog c.w f.A I Fp wr ns.length (fun i vals => ∃ (m : Int) (t t' : Tok), ns[i]? = some m ∧ vals = #[.int i t, .int m t']) Sx Mid
  npv : ∀ b ∈ Fp, ¬ Pv f b
  nX : ∀ b ∈ Fp, ¬ c.X b
  nmo : ∀ b ∈ Fp, ¬ mo b
  inH : ∀ i h, Sx i h → ∀ b ∈ Fp, ∃ o, h.get? b = some o
  fld : ∀ i h, Sx i h → ∀ b ∈ wr, ∃ o vs, h.get? b = some o ∧ o.data = .fields vs
  new : ∀ b ∈ wr, s.heap.get? b = none
theorem en_loop {x y : Str} {xp yp tp : Pos} {tn i1 i2 : Nat} {ns : List Int} {I : Addr} {Fp wr : List Addr} {Sx : Nat → Heap → Prop} {Mid : Nat → Addr → Heap → Prop} {s2 : Shared} (FS : FmS c f) (S : St c f ρ mo val fp s) (x2 : Ext c s s2) (Z : ItT c f mo s ns I Fp wr Sx Mid) (st0 : Sx 0 s2.heap)
    (J : Nat → Rho → Prop) (h0 : J 0 ρ)
    (hb : ∀ j n ρ', ns[j]? = some n → J j ρ' → ∃ ρ1 ρ2, Upd f.xs ρ' x (some ⟨.lo, .int (j : Int)⟩) ρ1 i1 ∧ Upd f.xs ρ1 y (some ⟨.lo, .int n⟩) ρ2 i2 ∧ Ex c f body ρ2 (loopQ (J (j + 1)) Q))
    (hend : ∀ ρ', J ns.length ρ' → Q .next ρ') {R : Result → Shared → Prop} (hR : ∀ fl s', Post c f mo s Q fl s' → R (.ok fl) s') :
    codeAny c.M f.A (.forLoop (.Tuple [.Name x xp, .Name y yp] tn tp) (.ref I) body [] f.env) R s2 := by
  have wrH0 : ∀ b ∈ wr, f.h₀.get? b = none := fun b hb => S.keep.none (Z.new b hb)
  have soft : ∀ {j ρ' mo' val' fp'} {s' : Shared} {h3 : Heap} {tk : Nat}, St c f ρ' mo' val' fp' s' → Sx j s'.heap → (∀ b o, b ∉ wr → s'.heap.get? b = some o → h3.get? b = some o) → St c f ρ' mo' val' fp' { s' with heap := h3, toks := tk } := fun S' hSx hk3 =>
    S'.soft hk3 (Z.fld _ _ hSx) wrH0 (fun b hb => FS.base.none (wrH0 b hb)) (fun b hb => Z.nX b (Z.walks.sub b hb))
  refine for_any (N := ns.length) J (fun j mo' h => Sx j h ∧ ∀ b ∈ Fp, ¬ mo' b) (S.ext x2) (Step.ext x2) h0 ⟨st0, Z.nmo⟩ (fun j ρ' mo' val' fp' s' B R0 E hlt hJ S' X' hY hB4 => Z.walks.item j s' _ _ hlt hY.1 fun Ta vals h3 tk hP hTs hTt hMid hk3 => ?_)
    (fun ρ' mo' val' fp' s' R0 P0 E S' X' hY hR0 => Z.walks.done s' _ _ hY.1 fun h3 tk hk3 => hR0 _ (soft S' hY.1 hk3) (step_soft Z.new X' hk3)) hend hR
  refine Z.walks.go _ _ _ j Ta { s' with heap := h3, toks := tk } _ _ hMid fun h4 hSx4 hk4 => ?_
  refine cps fun G K => ?_
  obtain ⟨m, t, t', hm, e⟩ := hP
  obtain ⟨ρ1, ρ2, hU1, hU2, hB⟩ := hb j m ρ' hm hJ
  have kk : ∀ b o, b ∉ wr → s'.heap.get? b = some o → h4.get? b = some o := fun b o hb q => hk4 b o hb (hk3 b o hb q)
  have S3 : St c f ρ' mo' val' fp' { s' with heap := h4, toks := tk } := soft S' hY.1 kk
  have X3 : Step c f mo s mo' { s' with heap := h4, toks := tk } := step_soft Z.new X' kk
  have hT4 : IsTup h4 Ta #[.int j t, .int m t'] := e ▸ hTt.imp fun o h => ⟨hk4 Ta o (Z.walks.apart j Ta h3 hMid) h.1, h.2⟩
  have nmo := hY.2
  refine K ?_
  clear K hTt hMid hk3 hk4 hTs soft S' X' hY kk hJ hm e
  refine asg_pair (s := { s' with heap := h4, toks := tk }) FS hU1 hU2 S3 hT4 fun s4 mo4 val4 fp4 S4 m4 k4 t4 => hB4 ρ2 mo4 val4 fp4 s4 S4 (step_asg X3 m4 k4 t4) hB fun mo5 s5 X5 => ⟨Z.walks.frame _ _ _ hSx4 fun b hb o e => X5.kp b o (Z.nX b hb) (Z.npv b hb) (fun q => nmo b hb (m4 b q)) (k4 b o (Z.npv b hb) e), fun b hb h => ?_⟩
  rcases X5.mo b h with q | q
  · exact nmo b hb (m4 b q)
  · obtain ⟨o, e⟩ := Z.inH _ _ hSx4 b hb
    have := k4 b o (Z.npv b hb) e
    rw [q] at this; cases this
/-- the walk of enumerate, on a list of ints -/
theorem en_open {s1 : Shared} {l en it : Addr} {o : Obj} {vs : Array Value} {n : Nat} {bs : List Addr} {ns : List Int} {k : EK} (S : St c f ρ mo val fp s) (x1 : Ext c s s1) (S1 : St c f ρ mo val fp s1) (g1 : s1.heap.get? l = some o) (g2 : o.cls = .type "list") (g3 : o.data = .seq vs n) (g4 : ReadsAll s1.heap vs.toList (ns.map .int) bs) (ko : KOk f mo fp s.heap s1.heap k (l :: bs)) (hk : k.safe = true)
    (nIt : s1.heap.get? it = none) (nEn : s1.heap.get? en = none) (hie : en ≠ it) :
    ∃ Mid, ItT c f mo s ns en [en, it, l] [en, it] (fun i h => (∃ old, IsEnum h en it (i : Nat) old) ∧ h.IsListIter it l i ∧ h.IsList l vs) Mid := by
  have hsz1 : vs.size = ns.length := by simpa using readsAll_length g4
  have hlit : l ≠ it := fun e => by rw [e, nIt] at g1; cases g1
  have hlen : l ≠ en := fun e => by rw [e, nEn] at g1; cases g1
  have hnL : l ≠ f.env.locals := fun q => ko.1 (q ▸ List.mem_cons_self ..)
  have T := WalksT.enumerateD (prog := c.prog) (w := c.w) (A := f.A) (Draws.list (prog := c.prog) (w := c.w) (A := f.A.in1) S.ok.room.hand it l hlit vs) en hie (by simp [hie, hlen.symm]) (by simp)
  rw [hsz1] at T
  have wrN : ∀ b ∈ [en, it], s1.heap.get? b = none := fun b hb => (List.mem_cons.mp hb).elim (fun e => e ▸ nEn) fun hb => by rw [List.mem_singleton.mp hb]; exact nIt
  have split : ∀ b ∈ [en, it, l], b ∈ [en, it] ∨ b = l := fun b hb => (List.mem_append.mp (show b ∈ [en, it] ++ [l] from hb)).imp id List.mem_singleton.mp
  have fld : ∀ i (hh : Heap), ((∃ old, IsEnum hh en it (i : Nat) old) ∧ hh.IsListIter it l i ∧ hh.IsList l vs) → ∀ b ∈ [en, it], ∃ o vs, hh.get? b = some o ∧ o.data = .fields vs := fun i hh st b hb => by
    obtain ⟨⟨old, q1⟩, ⟨o2, q2, _, q3⟩, _⟩ := st
    rcases List.mem_cons.mp hb with rfl | hb
    · exact ⟨_, _, q1, rfl⟩
    · rw [List.mem_singleton.mp hb]; exact ⟨_, _, q2, q3⟩
  refine ⟨_, ⟨⟨T.sub, T.frame, fun i s Q E hi st hQ => T.item i s Q E hi st fun Ta vals h' tk hP => hQ Ta vals h' tk ?_, T.go, T.apart, T.done, T.self⟩, fun b hb hp => ?_, fun b hb hp => ?_, fun b hb hp => ?_, fun i hh st b hb => ?_, fld, fun b hb => x1.up.none (wrN b hb)⟩⟩
  · obtain ⟨t, x', hPx, rfl⟩ := hP
    obtain ⟨m, t', hm', rfl⟩ := ints_get g4 hPx
    exact ⟨m, t, t', hm', rfl⟩
  · rcases split b hb with q | rfl
    · obtain ⟨o2, h2, _⟩ := pv_obj S1 hp
      rw [wrN b q] at h2; cases h2
    · exact pv_ld S1 g1 (.inl ⟨g2, _, _, g3⟩) hnL hp
  · rcases split b hb with q | rfl
    · obtain ⟨ps, h2⟩ := S1.wf.tab _ hp
      rw [wrN b q] at h2; cases h2
    · exact not_tab S1.wf g1 (by rw [g2]; nofun) hp
  · rcases split b hb with q | rfl
    · obtain ⟨o2, h2, _⟩ := S1.moIn _ hp
      rw [wrN b q] at h2; cases h2
    · revert hp
      cases k <;> first | (cases hk; done) | skip
      · exact ko.2 b (List.mem_cons_self ..)
      · exact (ko.2 b (List.mem_cons_self ..)).1
      · exact ((KOk.fr_lo S ko).2 b (List.mem_cons_self ..)).1
  · rcases split b hb with q | rfl
    · obtain ⟨o2, _, g, _⟩ := fld i hh st b q; exact ⟨o2, g⟩
    · obtain ⟨_, _, o2, q2, _⟩ := st; exact ⟨o2, q2⟩
theorem ex_forEn {x y : Str} {xp yp tp rp ep : Pos} {tn : Nat} {e : Expr} {i1 i2 : Nat} {ns : List Int} {k : EK} (C : CxOk c) (B : Bi c "enumerate" (.type "enumerate")) (hx : f.env.kindOf "enumerate" = some .globalImplicit) (FS : FmS c f) (h : Ev c f ρ e (.list (ns.map .int)) k) (hk : k.safe = true)
    (J : Nat → Rho → Prop) (h0 : J 0 ρ)
    (hb : ∀ j n ρ', ns[j]? = some n → J j ρ' → ∃ ρ1 ρ2, Upd f.xs ρ' x (some ⟨.lo, .int (j : Int)⟩) ρ1 i1 ∧ Upd f.xs ρ1 y (some ⟨.lo, .int n⟩) ρ2 i2 ∧ Ex c f body ρ2 (loopQ (J (j + 1)) Q))
    (hend : ∀ ρ', J ns.length ρ' → Q .next ρ')
    (he : ∀ env rest, starEach (e :: rest) env = (false, eval e env) :: starEach rest env := by intros; rfl)
    (hs : ∀ env x, foldedSetIterable (.Call (.Name "enumerate" rp) [e] [] ep) env x = pure x := by intro _ _; rfl) : Ex1 c f (.For (.Tuple [.Name x xp, .Name y yp] tn tp) (.Call (.Name "enumerate" rp) [e] [] ep) body [] pos) ρ Q := fun mo val fp s S => by
  refine wpAny_For ?_ (hs _)
  refine Call_ (builtin_name C B hx S ?_)
  refine PySem.callWith_type (by rw [he]; rfl) ?_
  rw [he]
  refine evalArgs_plain (spliced_cons (h.bind S fun v s1 as x1 S1 r1 ko => spliced_nil ?_))
  cases r1 with | list g1 g2 g3 g4 =>
  rename_i l o vs n bs
  refine call_enumerate_list (l := l) (items := vs) ⟨_, g1, g2, _, g3⟩ fun h' hE hI hsz hkp => ?_
  have nIt : s1.heap.get? s1.heap.objs.size = none := get_size_none s1.heap
  have nEn : s1.heap.get? (s1.heap.objs.size + 1) = none := by
    cases q : s1.heap.get? (s1.heap.objs.size + 1) with
    | none => rfl
    | some o' => exact absurd (Heap.lt_size q) (Nat.not_lt.mpr (Nat.le_succ _))
  have hne : s1.heap.objs.size + 1 ≠ s1.heap.objs.size := Nat.succ_ne_self _
  generalize s1.heap.objs.size = it at *
  generalize it + 1 = en at *
  obtain ⟨Mid, Z⟩ := en_open S x1 S1 g1 g2 g3 g4 ko hk nIt nEn hne
  have st0 : (∃ old, IsEnum h' en it (0 : Nat) old) ∧ h'.IsListIter it l 0 ∧ h'.IsList l vs := ⟨⟨_, hE⟩, hI, ⟨_, hkp _ _ g1, g2, _, g3⟩⟩
  refine Z.walks.self 0 { s1 with heap := h' } _ _ st0 ?_
  exact en_loop FS S (x1.trans (Ext.of S1.wf hkp)) Z st0 J h0 hb hend fun _ _ h => h
theorem s_forEn {x y : Str} {xp yp tp rp ep : Pos} {tn : Nat} {e : Expr} {i1 i2 : Nat} {ns : List Int} {k : EK} {rest : List Stmt} (C : CxOk c) (B : Bi c "enumerate" (.type "enumerate")) (hx : f.env.kindOf "enumerate" = some .globalImplicit) (FS : FmS c f) (h : Ev c f ρ e (.list (ns.map .int)) k) (hk : k.safe = true)
    (J : Nat → Rho → Prop) (h0 : J 0 ρ)
    (hb : ∀ j n ρ', ns[j]? = some n → J j ρ' → ∃ ρ1 ρ2, Upd f.xs ρ' x (some ⟨.lo, .int (j : Int)⟩) ρ1 i1 ∧ Upd f.xs ρ1 y (some ⟨.lo, .int n⟩) ρ2 i2 ∧ Ex c f body ρ2 (loopQ (J (j + 1)) (seqQ c f rest Q)))
    (hend : ∀ ρ', J ns.length ρ' → Ex c f rest ρ' Q)
    (he : ∀ env rest, starEach (e :: rest) env = (false, eval e env) :: starEach rest env := by intros; rfl)
    (hs : ∀ env x, foldedSetIterable (.Call (.Name "enumerate" rp) [e] [] ep) env x = pure x := by intro _ _; rfl) : Ex c f (.For (.Tuple [.Name x xp, .Name y yp] tn tp) (.Call (.Name "enumerate" rp) [e] [] ep) body [] pos :: rest) ρ Q :=
  ex_cons (ex_forEn C B hx FS h hk J h0 hb hend he hs)
end
end Mine

namespace Mine
open PySem PySem.Spec PySem.Calls PyProof.Rows
section
variable {c : Cx} {f : Fm} {ρ : Rho} {e : Expr} {es : List Expr} {k : EK} {pos : Pos} {a : Int} {x y acc out : Str}
/-- {e}, an int -/
theorem ev_fint (h : Ev c f ρ e (.int a) k) (ha : a.natAbs.log2 < 1920) : Ev c f ρ (.FormattedValue e (-1) none pos) (.str (Str.ofString (toString a))) .fr := by
  intro mo val fp s E S
  refine FormattedValue_plain (h.bind S fun v s1 as x1 S1 r1 ko => ?_)
  cases r1
  exact formatField_int_small ha ⟨x1.trans (Ext.toks x1.wf _), [], .str _ _, frNil⟩
/-- {e}, a str -/
theorem ev_fstr (h : Ev c f ρ e (.str x) k) (hx : x.length ≤ sizeLine) : Ev c f ρ (.FormattedValue e (-1) none pos) (.str x) .fr := by
  intro mo val fp s E S
  refine FormattedValue_plain (h.bind S fun v s1 as x1 S1 r1 ko => ?_)
  cases r1
  exact PySem.wpAny_formatField_str ⟨x1, [], .str _ _, frNil⟩ ⟨x1.trans (Ext.toks x1.wf _), [], .str _ _, frNil⟩ hx
/-- the parts of an f-string, behind a text -/
noncomputable def Jp (c : Cx) (f : Fm) (ρ : Rho) (es : List Expr) (acc out : Str) : Prop := ∀ mo val fp s0 s (E : Value → Shared → Prop), St c f ρ mo val fp s → Ext c s0 s → wpAny c.M f.A (joinParts acc (evalEach es f.env)) (fun v s' => Ext c s0 s' ∧ ∃ t, v = .str out t) E s
theorem jp_nil (h : acc.length ≤ sizeLine) : Jp c f ρ [] acc acc := fun mo val fp s0 s E S x => joinParts_nil ⟨x.trans (Ext.toks x.wf _), _, rfl⟩ h
theorem jp_cons (h : Ev c f ρ e (.str y) k) (hs : (acc ++ y).length ≤ sizeLine) (hr : Jp c f ρ es (acc ++ y) out) : Jp c f ρ (e :: es) acc out := fun mo val fp s0 s E S x => by
  refine joinParts_cons (h.bind S fun v s1 as x1 S1 r1 ko => ?_)
  cases r1
  exact ⟨hs, hr _ _ _ _ _ _ S1 (x.trans x1)⟩
theorem ev_joined {e1 e2 : Expr} (h : Jp c f ρ (e1 :: e2 :: es) Str.empty out) : Ev c f ρ (.JoinedStr (e1 :: e2 :: es) pos) (.str out) .fr := by
  intro mo val fp s E S
  refine JoinedStr_many (wpAny_mono (h mo val fp s s E S (Ext.refl S.wf)) (fun v s' ⟨x, t, hv⟩ => ?_) fun _ _ z => z)
  subst hv
  exact ⟨x, [], .str _ _, frNil⟩
end
end Mine

namespace Mine
open PySem PySem.Spec PySem.Calls PyProof.Rows
section
variable {c : Cx} {f : Fm} {ρ : Rho} {mo : Addr → Prop} {val : Nat → Value} {fp : Nat → List Addr} {s : Shared} {E : Value → Shared → Prop}
/-- [.. for x in .. for y in .. if ..], as an expression -/
theorem ev_comp2 {elt i1 i2 : Expr} {x x2 : Str} {xp xp2 : Pos} {ifs : List Expr} {scope : Scope} {pos : Pos} {cp : List Nat} {α β : Type} {enc : α → PyData} {enc2 : β → PyData} {xs : List α} {zs : List β} {k0 : EK} {sk : K} {p : α → β → Bool} {g : α → β → PyData}
    (CO : CompOk c f ρ scope x cp) (hxl : scope.names.lookup x = some .local) (hyl : scope.names.lookup x2 = some .local) (hxy : x ≠ x2) (hnc : ∀ z ∈ scope.names, z.2 ≠ .cell) (h : It c f ρ i1 (xs.map enc) k0) (hk : Fills3 k0 (xs.map enc) sk) (hsz : xs.length * zs.length ≤ sizeLine)
    (h2 : ∀ C, ∀ el ∈ xs, ItN c (chFm f scope C x cp) (chRho ρ cp ⟨sk, enc el⟩) i2 (zs.map enc2))
    (ht : ∀ C, ∀ el ∈ xs, ∀ z ∈ zs, Ifs c (cf2 f scope C x x2 cp) (some ⟨.lo, enc2 z⟩ :: chRho ρ cp ⟨sk, enc el⟩) ifs (p el z))
    (he : ∀ C, ∀ el ∈ xs, ∀ z ∈ zs, p el z = true → Ev c (cf2 f scope C x x2 cp) (some ⟨.lo, enc2 z⟩ :: chRho ρ cp ⟨sk, enc el⟩) elt (g el z) .fr)
    (hs : ∀ env x, foldedSetIterable i1 env x = pure x := by intro _ _; rfl) (hs2 : ∀ env x, foldedSetIterable i2 env x = pure x := by intro _ _; rfl) :
    Ev c f ρ (comp2 elt i1 i2 x x2 xp xp2 ifs scope pos) (.list (xs.flatMap fun el => (zs.filter (p el)).map (g el))) .fr := fun mo val fp s E S => by
  show wpAny _ _ (eval (.ListComp ..) _) _ _ _
  rw [eval_ListComp]
  refine wpAny_comprehension_free (use := none) rfl (hs _) (closureFor_eq CO.free) CO.kind CO.names (comp_core2 (RR := fun acc C => compPost c.M f.A E none _ acc C) CO hxl hyl hxy hnc h hk hsz h2 ht he S ?_ hs2)
  intro D C s' as x1 hD hC hDC hns r nd fr pl hCas
  obtain ⟨m, hm⟩ := hns
  refine ⟨m, hm, fun h' hs' => ?_⟩
  have hCD : C ∉ D :: as := fun q => (List.mem_cons.mp q).elim (fun h => hDC h.symm) hCas
  have hX : ¬ c.X C := fun hx => by
    obtain ⟨ps, q⟩ := x1.wf.tab C hx
    obtain ⟨o, es, ep, ho, hd, _⟩ := hm
    rw [q] at ho; cases ho; cases hd
  refine ⟨⟨⟨fun b o hXb q => (hs'.2 b fun h => by rw [h, hC] at q; cases q).trans (x1.up.kp b o hXb q), fun b o q => by
      obtain ⟨o', q'⟩ := x1.up.th b o q
      exact ⟨o', (hs'.2 b fun h => by rw [h, hC] at q; cases q).trans q'⟩⟩, x1.wf.sameBut hs' (S.ok.base.none (S.keep.none hC)) hX⟩, D :: as, ?_, frOk S nd fr fun a ha => ?_⟩
  · exact reads_upon r (fun b hb o q _ => (hs'.2 b fun h => hCD (h ▸ hb)).trans q) (fun b o q _ hdd => (hs'.2 b fun h => ns_notSeq hm (h ▸ q) hdd).trans q)
  · obtain ⟨o, q, r⟩ := pl a ha
    exact ⟨o, (hs'.2 a fun h => hCD (h ▸ ha)).trans q, r⟩
theorem ev_comp2X {elt i1 i2 : Expr} {x x2 : Str} {xp xp2 : Pos} {ifs : List Expr} {scope : Scope} {pos : Pos} {α β : Type} {enc : α → PyData} {enc2 : β → PyData} {ls : List α} {zs : List β} {k0 : EK} (sk : K) {p : α → β → Bool} {g : α → β → PyData}
    {cells : List Str} (H : HasCells f cells) (cp : List Nat) (capn : List Str) (slots : Rho) (cells' : List Str) (h : It c f ρ i1 (ls.map enc) k0) (hk : Fills3 k0 (ls.map enc) sk) (hsz : ls.length * zs.length ≤ sizeLine)
    (h2 : ∀ C, ∀ el ∈ ls, ItN c (cf f scope C x capn) (some ⟨sk, enc el⟩ :: slots) i2 (zs.map enc2))
    (ht : ∀ C, HasCells (cf f scope C x capn) cells' → ∀ el ∈ ls, ∀ z ∈ zs, Ifs c (cfB f scope C x x2 capn) (some ⟨.lo, enc2 z⟩ :: some ⟨sk, enc el⟩ :: slots) ifs (p el z))
    (he : ∀ C, HasCells (cf f scope C x capn) cells' → ∀ el ∈ ls, ∀ z ∈ zs, p el z = true → Ev c (cfB f scope C x x2 capn) (some ⟨.lo, enc2 z⟩ :: some ⟨sk, enc el⟩ :: slots) elt (g el z) .fr)
    (hchk : (compChk scope x cp capn cells && chChk scope cells cells') = true := by decide +kernel) (hchk2 : comp2Chk scope x x2 = true := by decide +kernel)
    (hn : cp.map (fun j => f.xs[j]?) = capn.map some := by rfl) (hn2 : cp.map (fun j => f.xs.getD j default) = capn := by rfl) (hsl : cp.map (fun j => (ρ[j]?).join) = slots := by rfl)
    (hs : ∀ env x, foldedSetIterable i1 env x = pure x := by intro _ _; rfl) (hs2 : ∀ env x, foldedSetIterable i2 env x = pure x := by intro _ _; rfl) :
    Ev c f ρ (.ListComp elt [⟨.Name x xp, i1, [], 0⟩, ⟨.Name x2 xp2, i2, ifs, 0⟩] scope pos) (.list (ls.flatMap fun el => (zs.filter (p el)).map (g el))) .fr := by
  obtain ⟨h1, h2'⟩ := Bool.and_eq_true_iff.mp hchk
  have CO : CompOk c f ρ scope x cp := compOk_mk H hn h1
  have e1 : ∀ C, chFm f scope C x cp = cf f scope C x capn := fun C => by unfold chFm; rw [hn2]
  have e3 : ∀ C, cf2 f scope C x x2 cp = cfB f scope C x x2 capn := fun C => by unfold cf2 chFm; rw [hn2]
  have e2 : ∀ d, chRho ρ cp ⟨sk, d⟩ = some ⟨sk, d⟩ :: slots := fun d => by unfold chRho; rw [hsl]
  have HC : ∀ C, HasCells (cf f scope C x capn) cells' := fun C => e1 C ▸ child_cells H h2'
  unfold comp2Chk at hchk2
  simp only [Bool.and_eq_true, List.all_eq_true, beq_iff_eq, bne_iff_ne, ne_eq] at hchk2
  obtain ⟨⟨⟨q1, q2⟩, q3⟩, q4⟩ := hchk2
  exact ev_comp2 CO q1 q2 q3 q4 h hk hsz (fun C el hel => by rw [e1, e2]; exact h2 C el hel) (fun C el hel z hz => by rw [e3, e2]; exact ht C (HC C) el hel z hz) (fun C el hel z hz hp => by rw [e3, e2]; exact he C (HC C) el hel z hz hp) hs hs2
end
end Mine

set_option maxRecDepth 100000
namespace Mine
open PySem PySem.Spec PySem.Calls PyProof.Rows
theorem slot_list_iadd : PySem.Slot "list" "__iadd__" "list.__iadd__" :=
  .of (owner := "list") (n := "__iadd__") (by rw [typeLookup_type, builtinLookup_eq_fast]; kernel_rfl) (by decide +kernel) (by decide +kernel) (by decide +kernel)
    (by first | exact .inl (by decide +kernel) | exact .inr (by decide +kernel)) (by rw [isSubtype_type]; kernel_rfl)
theorem args_list_iadd_2 (a b : Value) : argsOk "list.__iadd__" ⟨[a, b], []⟩ := by
  unfold argsOk; rw [signature?_of (id := "list.__iadd__") (n := ['_', '_', 'd', 'd', 'a', 'i', '_', '_']) (o := ['t', 's', 'i', 'l']) (by kernel_rfl) F.owner_list]; kernel_rfl
section
variable {prog : Program} {w : World} {A : Around} {E : Value → Shared → Prop} {s : Shared} {l b : Addr} {items items2 : Array Value} {n n2 : Nat}
theorem inplace_list {Q : Value → Shared → Prop} (hl : IsL s.heap l items n) (hb : IsL s.heap b items2 n2) (hsz : items.size + items2.size ≤ sizeLine)
    (h : Q (.ref l) { s with heap := s.heap.update l (Obj.mapSeq fun x => x ++ items2) }) : wpAny (model prog w) A (inplaceOp .Add (.ref l) (.ref b)) Q E s := by
  have ha : s.TypeIs (.ref l) "list" := ⟨_, hl, rfl⟩
  have hb' : s.TypeIs (.ref b) "list" := ⟨_, hb, rfl⟩
  have hlk : typeLookup (.type "list") (dunderI "add") = pure (some (.builtin "list.__iadd__")) := slot_list_iadd.lookup
  unfold inplaceOp
  refine wpAny_holding ?_
  have hfi : fillsInplaceSlot (.type "list") "add" (Operator.Add == .Add) = pure false := by
    unfold fillsInplaceSlot
    show (typeLookup (.type "list") (dunderI "add") >>= fun fi => pure (fi.isSome && !isSeqSlot fi)) = pure false
    rw [hlk]
    rw [pure_bind]
    show pure (true && !isSeqSlotId "list.__iadd__") = _
    rw [show isSeqSlotId "list.__iadd__" = true from by decide +kernel]; rfl
  have hsi : seqSlot? (.type "list") (dunderI "add") = pure (some (.builtin "list.__iadd__")) := PySem.seqSlot_of slot_list_iadd.lookup (by decide +kernel)
  refine wpAny_bind (wpAny_typeOf ha (wpAny_bind (wpAny_of_eq hfi ?_)))
  show wpAny _ A (if false = true then _ else _) Q E s
  rw [if_neg Bool.false_ne_true]
  refine wpAny_bind (wpAny_binaryOp1_none (nm := "add") ha hb' noFill_list_add ?_)
  refine wpAny_bind (wpAny_of_eq hsi ?_)
  refine wpAny_bind (wpAny_rule ?_)
  exact call_meets slot_list_iadd ha F.entry_list_iadd (args_list_iadd_2 _ _) (AutoSeq1.list___iadd___list_list_0 l items n b items2 n2 (extend_door hsz) (by omega) (by omega)) ⟨hl, hb, h⟩
end
section
variable {c : Cx} {f : Fm} {ρ ρ' : Rho} {mo : Addr → Prop} {val : Nat → Value} {fp : Nat → List Addr} {s : Shared} {E : Value → Shared → Prop} {Q : Fl → Rho → Prop} {rest : List Stmt} {e : Expr} {k : EK} {pos xp : Pos} {x : Str} {i : Nat} {xs ys : List PyData} {d : PyData}
/-- an owner gone -/
theorem St.forget (S : St c f ρ mo val fp s) (e : ρ[i]? = some (some ⟨.ow, d⟩)) : St c f (ρ.set i none) (fun a => mo a ∧ a ∉ fp i) val fp s := by
  have hg : ∀ {j sl}, (ρ.set i none)[j]? = some (some sl) → j ≠ i ∧ ρ[j]? = some (some sl) := fun {j sl} q => by
    rw [List.getElem?_set] at q
    by_cases h : i = j
    · rw [if_pos h] at q; split at q <;> cases q
    · rw [if_neg h] at q; exact ⟨fun z => h z.symm, q⟩
  refine ⟨S.wf, S.ok, S.keep, S.ns, S.cells, fun j sl q => S.var j sl (hg q).2, fun j sl q hk => ⟨(S.own j sl (hg q).2 hk).1, fun a ha => ⟨(S.own j sl (hg q).2 hk).2 a ha, S.apart j i sl _ (hg q).1 (hg q).2 e hk rfl a ha⟩⟩,
    fun j sl q hk a ha z => S.shr j sl (hg q).2 hk a ha z.1, fun j sl q hk => S.loc j sl (hg q).2 hk, fun j j' sl sl' hne q q' h1 h2 => S.apart j j' sl sl' hne (hg q).2 (hg q').2 h1 h2, fun a h => S.moNew a h.1, fun a h => S.moPl a h.1, fun h => S.moL h.1, fun j sl q => S.fpL j sl (hg q).2⟩
/-- x += e, lists -/
theorem s_iadd (FS : FmS c f) (hat : At f.xs ρ x ⟨.ow, .list xs⟩ i) (h : Ev c f ρ e (.list ys) .fr) (hf : flats ys = true) (hsz : xs.length + ys.length ≤ sizeLine) (hU : Upd f.xs ρ x (some ⟨.ow, .list (xs ++ ys)⟩) ρ' i) (hQ : Ex c f rest ρ' Q)
    (hn : (x == ("__classdict__" : Str)) = false := by decide +kernel) :
    Ex c f (.AugAssign (.Name x xp) .Add e pos :: rest) ρ Q := by
  obtain ⟨hx, hi, rfl⟩ := hU.get
  refine ex_cons fun mo val fp s S => ?_
  rw [arm_exec_AugAssign]
  have e0 := hat.slot
  obtain ⟨y, h1, h2, h3⟩ := S.var i _ e0
  rw [hat.name] at h1; cases h1
  refine wpAny_bind (wpAny_standAt (wpAny_bind (load_any S.ok.kind h2 ?_ hn)))
  obtain ⟨a, vs, n, as, hv, hfp, hl, hr, hma⟩ := owned_list S e0
  rw [hv]
  refine wpAny_bind (wpAny_holding (h.bind S fun v s1 as1 x1 S1 r1 ko => ?_))
  refine wpAny_bind (wpAny_standAt ?_)
  have hl1 : IsL s1.heap a vs n := listOrDict_ext S.wf x1 hl (.inl ⟨rfl, _, _, rfl⟩)
  have hr1 := x1.readsAll S.wf hr
  have hlen : vs.size = xs.length := by simpa using readsAll_length hr
  cases r1 with | list g1 g2 g3 g4 =>
  rename_i b o vs2 n2 bs
  have hb : IsL s1.heap b vs2 n2 := Pl.isL (ko.2.2.2 b (List.mem_cons_self ..)) g1 g2 g3
  have hlen2 : vs2.size = ys.length := by simpa using readsAll_length g4
  have hbs : bs = [] := readsAll_flat g4 hf
  subst hbs
  refine wpAny_bind (wpAny_operateT (inplace_list hl1 hb (by omega) ?_))
  have hl2 := hl1.update (fun xs => xs ++ vs2)
  have hsb : Heap.SameBut a s1.heap (s1.heap.update a (Obj.mapSeq fun xs => xs ++ vs2)) := sameBut_update ..
  obtain ⟨nd, hm⟩ := S1.own i _ e0 rfl
  have nd' := nd
  rw [hfp] at nd
  have haas : a ∉ as := (List.nodup_cons.mp nd).1
  have hr2 := readsAll_but hsb (isL_notTup hl1) haas hr1
  have r2 := readsAll_but hsb (isL_notTup hl1) (by nofun) g4
  have key : Reads (s1.heap.update a (Obj.mapSeq fun xs => xs ++ vs2)) (val i) (.list (xs ++ ys)) (fp i) := by
    rw [hv, hfp]
    exact .list hl2 rfl rfl (by rw [Array.toList_append]; simpa using ra_app hr2 r2)
  have T := S1.mut (tk := s1.toks) (as' := fp i) (extra := []) FS e0 (by rw [hfp]; exact List.mem_cons_self ..) hsb (Pl.of_isL hl2) key nd' (fun a ha => .inl ha) nofun (fun _ _ _ _ _ _ h => by cases h) nofun
  have S2 := T.1
  have e2 : (ρ.set i (some ⟨.ow, .list (xs ++ ys)⟩))[i]? = some (some ⟨.ow, .list (xs ++ ys)⟩) := by rw [List.getElem?_set, if_pos rfl, if_pos hi]
  have S3 := S2.forget e2
  refine wpAny_bind (wpAny_standAt (wpAny_bind (wpAny_bindName ?_)))
  refine store_step (sl := ⟨.ow, .list (xs ++ ys)⟩) (as := fp i) FS S3 hx (by simpa using hi) (by rw [← hv]; exact key) (S.fpL i _ e0) ?_ fun s4 S4 hk4 th4 => ?_
  · refine ⟨nd', fun a ha => ⟨fun q => q.2 (by rw [upd_self]; exact ha), S.moNew a (hm a ha)⟩, fun j sl hj ej a ha q => ?_, fun a ha => S2.moPl a (.inl (hm a ha))⟩
    rw [upd_ne _ _ _ hj] at ha
    rw [List.set_set, List.getElem?_set, if_neg (fun z => hj z.symm)] at ej
    by_cases hk : sl.k = .ow
    · exact S.apart j i sl _ hj ej e0 hk rfl a ha q
    · exact S.shr j sl ej hk a ha (hm a q)
  · rw [List.set_set, List.set_set] at S4
    refine wpAny_pure ⟨.next, _, _, _, _, trivial, S4, ⟨fun b o h1 h2 h3 q => hk4 b o h2 (T.2.1 b o h3 (x1.up.kp b o h1 q)), fun b o q => ?_, fun b h => ?_⟩, hQ⟩
    · obtain ⟨o1, q1⟩ := x1.up.th b o q
      obtain ⟨o2, q2⟩ := T.2.2 b o1 q1
      exact th4 b o2 q2
    · rcases h with h | ⟨_, h⟩
      · exact h.1.elim .inl (fun z => by cases z)
      · exact .inl (hm b h)
end
end Mine

set_option maxRecDepth 100000
namespace Mine
open PySem PySem.Spec PySem.Calls PyProof.Rows
/-- the texts that a walk through str's gives -/
theorem items_txt {l : List (Str × Tok)} {n : Nat} {g : Nat → Str} {P : Nat → Value → Prop} (h : ItemsOf P (strValues l).toArray n) (hP : ∀ i v, P i v → i < n → ∃ t, v = .str (g i) t) : l.map (·.1) = (List.range n).map g := by
  obtain ⟨h1, h2⟩ := h
  have hl : l.length = n := by simpa [strValues] using h1
  refine List.ext_getElem? fun j => ?_
  rw [List.getElem?_map, List.getElem?_map]
  by_cases hj : j < l.length
  · have e1 : l[j]? = some l[j] := List.getElem?_eq_getElem hj
    have e2 : (strValues l).toArray[j]? = some (.str l[j].1 l[j].2) := by simp [strValues, e1]
    obtain ⟨t, q2⟩ := hP j _ (h2 j _ e2) (by omega)
    injection q2 with q2 _
    rw [e1, List.getElem?_range (by omega)]
    exact congrArg some q2
  · rw [List.getElem?_eq_none (by omega), List.getElem?_eq_none (by simp; omega)]; rfl
theorem range_getD {l : List Nat} {g : Nat → Str} : (List.range l.length).map (fun j => g (l.getD j 0)) = l.map g := by
  refine List.ext_getElem? fun j => ?_
  rw [List.getElem?_map, List.getElem?_map]
  by_cases hj : j < l.length
  · rw [List.getElem?_range hj, List.getElem?_eq_getElem hj, Option.map_some, Option.map_some, List.getD_eq_getElem?_getD, List.getElem?_eq_getElem hj]; rfl
  · rw [List.getElem?_eq_none (by simp; omega), List.getElem?_eq_none (by omega)]; rfl
section
variable {c : Cx} {f : Fm} {ρ : Rho} {mo : Addr → Prop} {val : Nat → Value} {fp : Nat → List Addr} {s : Shared} {E : Value → Shared → Prop}
noncomputable abbrev strI (i : Nat) : Str := Str.ofString (toString (i : Int))
/-- what a generator's test or element may lean on -/
noncomputable def GenT (c : Cx) (f : Fm) (ρ : Rho) (scope : Scope) (cl : List (Str × Addr)) (x : Str) (n : Nat) {α : Type} (m : Env → Sem α) (K : Nat → α → Prop) : Prop :=
  ∀ mo val fp s1, St c f ρ mo val fp s1 → ∀ (L : Addr) (code : Value) (A' : Around) (E' : Value → Shared → Prop) (i : Nat) (u : Tok) (t : Shared) (m₂ : Str → Option Value), A'.handled = none → A'.depth ≤ f.A.depth + 1 → A'.units ≤ f.A.units + 8 →
    i < n → t.heap.Ns L m₂ → m₂ x = some (.int (i : Int) u) → (∀ b o, ¬ c.X b → s1.heap.get? b = some o → t.heap.get? b = some o) →
    wpAny c.M A' (m (genEnv scope cl L code builtinsNs f.env)) (fun y s₃ => K i y ∧ Keeps t s₃) E' t
theorem gen_core {test elt : Expr} {x : Str} {pos : Pos} {scope : Scope} {s1 : Shared} (o : Obj) (tk : Nat) {n : Nat} (K : Value → Shared → Prop) (C : CxOk c) (BM : BMok c) (HT : CodeTab c f) (S1 : St c f ρ mo val fp s1)
    (cl : List (Str × Addr)) (pz : Nat → Bool) (hn : n ≤ sizeLine)
    (ht : GenT c f ρ scope cl x n (fun env => isTrue test env (eval test env)) (fun i b => b = pz i)) (he : GenT c f ρ scope cl x n (fun env => eval elt env) (fun i y => ∃ t', y = .str (strI i) t'))
    (hK : ∀ g s5 fp' wr G P Q, WalksS c.prog c.w f.A.in4 g fp' wr G (passing pz n 0).length P Q → Q 0 s5 → (∀ i s, Q i s → s.TypeIs (.ref g) "generator") → (∀ b ∈ fp', b < s5.heap.objs.size) → g ∈ fp' → (∀ j v, P j v → ∃ i t', (passing pz n 0)[j]? = some i ∧ v = .str (strI i) t') →
      (∀ s', Moved wr G s5 s' → Ext c s1 s') → K (.ref g) s5) :
    let s2 : Shared := { s1 with heap := (s1.heap.push o).push { cls := .type "range_iterator", data := .fields #[rawInt 0, rawInt n, rawInt 1] }, toks := tk }
    s2.heap.NoLimit ∧ wpAny c.M f.A (genexprCode f.env pos (f.env.qual ++ "<genexpr>") scope) (fun code s₃ => wpAny c.M f.A (builtinsFor f.env.globals f.env.builtins) (fun bi s₄ =>
        ∃ I fp wr n₀ P St₀ pz F, Value.ref (s1.heap.push o).objs.size = .ref I ∧ (∀ A' : Around, A'.handled = none → Walks c.prog c.w A' I fp wr n₀ P St₀) ∧ St₀ 0 s₄.heap ∧ (∀ b ∈ fp, b < s₄.heap.objs.size) ∧ s₄.heap.NoLimit ∧ cStatics ∉ wr ∧
          (∀ href : Heap, (∀ b o, s₄.heap.get? b = some o → href.get? b = some o) →
            QuietGenD c.prog c.w (genEnv scope cl s₄.heap.objs.size code bi f.env) x [test] elt (List.range s₄.heap.objs.size) wr P pz F href (f.A.depth + 1) (f.A.units + 8)) ∧
          (∀ a h₅ tk gs, gs.bare = true → s₄.heap.objs.size < a → h₅.objs.size = a + 1 → (∀ b o, s₄.heap.get? b = some o → h₅.get? b = some o) →
            WalksS c.prog c.w f.A.in4 a (a :: s₄.heap.objs.size :: List.range s₄.heap.objs.size) (s₄.heap.objs.size :: wr) (GenOnlyQ s₄.gens.size) (passing pz n₀ 0).length
              (fun j y => ∃ i, (passing pz n₀ 0)[j]? = some i ∧ F i y) (GenAt c.prog c.w f.A.in4 a s₄.gens.size s₄.heap.objs.size (List.range s₄.heap.objs.size) wr pz n₀ F) →
            GenAt c.prog c.w f.A.in4 a s₄.gens.size s₄.heap.objs.size (List.range s₄.heap.objs.size) wr pz n₀ F 0 { s₄ with gens := s₄.gens.push gs, toks := tk, heap := h₅ } →
            K (.ref a) { s₄ with gens := s₄.gens.push gs, toks := tk, heap := h₅ })) E s₃) E s2 := by
  intro s2
  have x2 : Ext c s1 s2 := Ext.of S1.wf fun _ _ e => Heap.get?_push_of_some _ (Heap.get?_push_of_some _ e)
  have hIn : s1.heap.get? (s1.heap.push o).objs.size = none := by
    cases e : s1.heap.get? (s1.heap.push o).objs.size with
    | none => rfl
    | some o' => have := Heap.lt_size e; rw [Heap.size_push] at this; exact absurd this (Nat.not_lt.mpr (Nat.le_succ _))
  have hI2 : s2.heap.get? (s1.heap.push o).objs.size = some { cls := .type "range_iterator", data := .fields #[rawInt 0, rawInt n, rawInt 1] } := Heap.get?_push_size _ rfl
  generalize hI : (s1.heap.push o).objs.size = I at *
  have hIs : s1.heap.objs.size < I := by rw [← hI, Heap.size_push]; exact Nat.lt_succ_self _
  refine ⟨NoLimit.base x2.wf C, ?_⟩
  refine gen_code x2.wf HT fun code h3 tk3 x3 hsz3 => ?_
  have x13 := x2.trans x3
  refine cps fun W k => ?_
  obtain ⟨bm, ob, b1, b2, b3, b4, b5, b6, b7⟩ := BM
  refine k (wpAny_builtinsFor (bm := bm) (o := ob) (by rw [S1.ok.glob]; exact Ns.base x3.wf C.g C.gX) b1 b2 (x3.wf.base _ _ b7 b3) b4 b5 b6 ?_)
  clear k b1 b2 b3 b4 b5 b6 b7
  have ltI : ∀ b o, s1.heap.get? b = some o → b ≠ I := fun b o e => Nat.ne_of_lt (Nat.lt_trans (Heap.lt_size e) hIs)
  have nXI : ¬ c.X I := fun hX => by obtain ⟨ps, q⟩ := S1.wf.tab _ hX; rw [hIn] at q; cases q
  have hI3 : h3.get? I = some { cls := .type "range_iterator", data := .fields #[rawInt 0, rawInt n, rawInt 1] } := x3.up.kp _ _ nXI hI2
  refine ⟨I, [I], [I], n, _, _, pz, fun i y => ∃ t', y = .str (strI i) t', rfl, fun A' hA => (Walks.range hA I 0 1 n).bound,
    ?_, fun b hb => ?_, NoLimit.base x3.wf C, fun hm => ?_, fun href hk => ⟨fun A' E' i v t m₂ hA hD hU hP hn hm hkp => ?_, fun A' E' i v t m₂ hA hD hU hP _ hn hm hkp => ?_⟩, fun g h5 tk gs hgb hag hsz5 hk5 W hat => ?_⟩
  · have e1 : ((0 : Int) + ((0 : Nat) : Int) * 1) = 0 := by simp
    have e2 : ((n : Int) - ((0 : Nat) : Int)) = n := by simp
    show IsRangeIter _ _ _ _ _
    rw [e1, e2]
    exact hI3
  · rw [List.mem_singleton.mp hb]; exact Heap.lt_size hI3
  · obtain ⟨mc, n1, _⟩ := NoLimit.base S1.wf C
    obtain ⟨o2, _, _, e2, _⟩ := n1
    rw [List.mem_singleton.mp hm, hIn] at e2; cases e2
  · obtain ⟨hil, u, rfl⟩ := hP
    have kp : ∀ b o, ¬ c.X b → s1.heap.get? b = some o → t.heap.get? b = some o := fun b o hb e => by
      have e3 := x13.up.kp b o hb e
      exact hkp b (List.mem_range.mpr (Heap.lt_size e3)) (fun q => ltI b o e (List.mem_singleton.mp q)) o (hk b o e3)
    have := ht mo val fp s1 S1 _ code A' E' i u t m₂ hA hD hU hil hn (by rw [hm]; simp) kp
    simp only [List.forIn_cons, List.forIn_nil, if_true]
    refine wpAny_bind (wpAny_bind (wpAny_mono this (fun ok s₃ q => wpAny_pure (wpAny_pure q)) fun _ _ z => z))
  · obtain ⟨hil, u, rfl⟩ := hP
    have kp : ∀ b o, ¬ c.X b → s1.heap.get? b = some o → t.heap.get? b = some o := fun b o hb e => by
      have e3 := x13.up.kp b o hb e
      exact hkp b (List.mem_range.mpr (Heap.lt_size e3)) (fun q => ltI b o e (List.mem_singleton.mp q)) o (hk b o e3)
    exact he mo val fp s1 S1 _ code A' E' i u t m₂ hA hD hU hil hn (by rw [hm]; simp) kp
  · refine hK g _ _ _ _ _ _ W hat ?_ (fun b hb => ?_) (List.mem_cons_self ..) (fun j v ⟨i, hi, t', hv⟩ => ⟨i, t', hi, hv⟩) fun s' hm => ?_
    · exact fun i s q => by obtain ⟨o, _, _, ho, hc, _⟩ := q.1; exact ⟨o, ho, hc⟩
    · have hag' : h3.objs.size < g := hag
      have hb' : b ∈ g :: h3.objs.size :: List.range h3.objs.size := hb
      show b < h5.objs.size
      rw [hsz5]
      simp only [List.mem_cons, List.mem_range] at hb'
      rcases hb' with hb' | hb' | hb'
      · rw [hb']; exact Nat.lt_succ_self _
      · rw [hb']; exact Nat.lt_succ_of_lt hag'
      · exact Nat.lt_succ_of_lt (Nat.lt_trans hb' hag')
    · have hle : I < h3.objs.size := Heap.lt_size hI3
      have kp : ∀ b o, b < s1.heap.objs.size → h3.get? b = some o → s'.heap.get? b = some o := fun b o hb e =>
        hm.heap b o (fun q => by
          rcases List.mem_cons.mp q with q | q
          · exact absurd (show b = h3.objs.size from q) (Nat.ne_of_lt (Nat.lt_trans hb (Nat.lt_trans hIs hle)))
          · exact absurd (List.mem_singleton.mp q) (Nat.ne_of_lt (Nat.lt_trans hb hIs))) (hk5 b o e)
      refine ⟨⟨fun b o hb e => kp b o (Heap.lt_size e) (x13.up.kp b o hb e), fun b o e => let ⟨o', e'⟩ := x13.up.th b o e; ⟨o', kp b o' (Heap.lt_size e) e'⟩⟩,
        ⟨fun b o hb e => kp b o (Heap.lt_size (S1.wf.base b o hb e)) (x3.wf.base b o hb e), fun b hb => ?_, ?_, ?_, ?_⟩⟩
      · obtain ⟨ps, e⟩ := x3.wf.tab b hb
        obtain ⟨ps1, e1⟩ := S1.wf.tab b hb
        exact ⟨ps, kp b _ (Heap.lt_size e1) e⟩
      · refine oldK_on x3.wf.old fun b o o' e e' => ?_
        obtain ⟨o1, e1⟩ := S1.wf.old.there b o e
        exact kp b o' (Heap.lt_size e1) e'
      · exact hm.gens.bare (x3.wf.gens.push hgb)
      · exact hm.os.trans x3.wf.os
theorem small_n {n : Nat} (h : n < 1000) : (n : Int) < 2 ^ 62 := by omega
theorem neg_n (n : Nat) : -(2 ^ 62) ≤ (n : Int) := by omega
theorem thou_line {n : Nat} (h : n < 1000) : n ≤ sizeLine := Nat.le_trans (Nat.le_of_lt h) (by decide +kernel)
/-- the generator (str(x) for x in range(e) if test) -/
theorem gen_strs {test e : Expr} {x : Str} {px pos rp rp2 np xp cp2 : Pos} {scope : Scope} {n : Nat} {k : EK} {Q : Value → Shared → Prop} (C : CxOk c) (BM : BMok c) (HT : CodeTab c f) (Brange : Bi c "range" (.type "range")) (Bstr : Bi c "str" (.type "str")) (hxr : f.env.kindOf "range" = some .globalImplicit)
    (S0 : St c f ρ mo val fp s) (h : Ev c f ρ e (.int (n : Int)) k) (hn : n < 1000)
    (cl : List (Str × Addr)) (hclos : closureFor scope f.env = pure cl) (hcell : ∀ y ∈ scope.names, y.2 ≠ .cell) (h0 : scope.names.lookup (".0" : Str) = some NameKind.local) (hxl : scope.names.lookup x = some .local) (hstr : scope.names.lookup ("str" : Str) = some .globalImplicit) (hkind : scope.kind = .function) (hco : scope.isCoroutine = false)
    (pz : Nat → Bool) (ht : GenT c f ρ scope cl x n (fun env => isTrue test env (eval test env)) (fun i b => b = pz i))
    (hK : ∀ g s5 fp' wr G P T, WalksS c.prog c.w f.A.in4 g fp' wr G (passing pz n 0).length P T → T 0 s5 → (∀ i s, T i s → s.TypeIs (.ref g) "generator") → (∀ b ∈ fp', b < s5.heap.objs.size) → g ∈ fp' → (∀ j v, P j v → ∃ i t', (passing pz n 0)[j]? = some i ∧ v = .str (strI i) t') →
      (∀ s', Moved wr G s5 s' → Ext c s s') → Q (.ref g) s5)
    (hs : ∀ env x, genFold (.Call (.Name "range" rp) [e] [] rp2) env x = pure x) (he : ∀ env rest, starEach (e :: rest) env = (false, eval e env) :: starEach rest env)
    (hdx : (x == ("__debug__" : Str)) = false) :
    wpAny c.M f.A (eval (.GeneratorExp (.Call (.Name "str" np) [.Name x xp] [] cp2) [⟨.Name x px, .Call (.Name "range" rp) [e] [] rp2, [test], 0⟩] scope pos) f.env) Q E s := by
  have hns := thou_line hn
  refine wpAny_GeneratorExp_walksQD S0.ok.room.hand hco hclos hcell h0 hxl hkind (room_in S0.ok.room.depth) ?_ (hs _)
  refine range_open C Brange hxr h (small_n hn) (neg_n n) he S0 fun s1 o tk x1 S1 => ?_
  refine gen_core (n := n) (test := test) o tk Q C BM HT S1 cl pz hns ht ?_ fun g s5 fp' wr G P T W hat hT hfp hg hP hx => hK g s5 fp' wr G P T W hat hT hfp hg hP fun s' hm => x1.trans (hx s' hm)
  intro mo val fp s1 S1 L code A' E' i u t m₂ hA hD hU hi hn' hm hk
  have ng : t.heap.Ns mainGlobals c.mg := by
    obtain ⟨o, es, ep, ho, q⟩ := Ns.base S1.wf C.g C.gX
    exact ⟨o, es, ep, hk _ o C.gX ho, q⟩
  have nb : t.heap.Ns builtinsNs c.mb := by
    obtain ⟨o, es, ep, ho, q⟩ := Ns.base S1.wf C.b C.bX
    exact ⟨o, es, ep, hk _ o C.bX ho, q⟩
  have hgl : (genEnv scope cl L code builtinsNs f.env).globals = mainGlobals := S1.ok.glob
  refine Call_ (Name_function_global hkind hstr (loadGlobal_builtin (mg := c.mg) (mb := c.mb) (by rw [hgl]; exact ng) Bstr.no nb ((C.builtins _ Bstr.ne).trans Bstr.is) ?_) (by decide +kernel))
  refine PySem.callWith_type rfl ?_
  refine evalArgs_plain (spliced_cons (wpAny_Name (wpAny_loadName_local hkind hxl hn' hm (spliced_nil ?_)) hdx))
  refine P.str_of_int ?_ ⟨⟨_, rfl⟩, t.heap, _, rfl, fun _ _ e => e⟩
  rw [Int.natAbs_natCast]
  exact Nat.lt_of_le_of_lt (Nat.log2_le_self i) (Nat.lt_of_lt_of_le (Nat.lt_trans hi hn) (by decide))
/-- sep.join(str(x) for x in range(e) if test) -/
theorem ev_joinG {test e : Expr} {x : Str} {px pos cp sp ap rp rp2 np xp cp2 : Pos} {nn : Nat} {scope : Scope} {n : Nat} {k : EK} {sep : Str} (C : CxOk c) (BM : BMok c) (HT : CodeTab c f) (Brange : Bi c "range" (.type "range")) (Bstr : Bi c "str" (.type "str")) (hxr : f.env.kindOf "range" = some .globalImplicit)
    (h : Ev c f ρ e (.int (n : Int)) k) (hn : n < 1000)
    (cl : List (Str × Addr)) (hclos : closureFor scope f.env = pure cl) (hcell : ∀ y ∈ scope.names, y.2 ≠ .cell) (h0 : scope.names.lookup (".0" : Str) = some NameKind.local) (hxl : scope.names.lookup x = some .local) (hstr : scope.names.lookup ("str" : Str) = some .globalImplicit) (hkind : scope.kind = .function) (hco : scope.isCoroutine = false)
    (pz : Nat → Bool) (ht : GenT c f ρ scope cl x n (fun env => isTrue test env (eval test env)) (fun i b => b = pz i))
    (hok : JoinOk sep ((passing pz n 0).map strI) = true)
    (hs : ∀ env x, genFold (.Call (.Name "range" rp) [e] [] rp2) env x = pure x := by intro _ _; rfl) (he : ∀ env rest, starEach (e :: rest) env = (false, eval e env) :: starEach rest env := by intros; rfl)
    (hdx : (x == ("__debug__" : Str)) = false := by decide +kernel)
    (hbase : ∀ env, attributeBase (.Constant (.str sep) nn sp) "join" env (eval (.Constant (.str sep) nn sp) env) = eval (.Constant (.str sep) nn sp) env := by intro _; rfl) (hline : (ap.endLine == cp.line) = true := by rfl)
    (htrees : ∀ env, backTo cp (starEach [.GeneratorExp (.Call (.Name "str" np) [.Name x xp] [] cp2) [⟨.Name x px, .Call (.Name "range" rp) [e] [] rp2, [test], 0⟩] scope pos] env) = [(false, eval (.GeneratorExp (.Call (.Name "str" np) [.Name x xp] [] cp2) [⟨.Name x px, .Call (.Name "range" rp) [e] [] rp2, [test], 0⟩] scope pos) env)] := by intro _; rfl) :
    Ev c f ρ (.Call (.Attribute (.Constant (.str sep) nn sp) "join" ap) [.GeneratorExp (.Call (.Name "str" np) [.Name x xp] [] cp2) [⟨.Name x px, .Call (.Name "range" rp) [e] [] rp2, [test], 0⟩] scope pos] [] cp) (.str (Str.join sep ((passing pz n 0).map strI))) .fr := by
  intro mo val fp s E S
  refine wpAny_Call_method1_late (hbase _) hline (htrees _) (ev_str.bind S fun v0 s0 as0 x0 S0 r0 _ => ?_)
  cases r0 with | str _ t =>
  refine ⟨"str", "str.join", F.plainAttrs_str, F.slot_str_join, F.type_str_join, typeIs_str _ _ _, nofun, ?_⟩
  refine Calls.callWith_builtin rfl (evalArgs_plain (spliced_cons ?_))
  have hns := thou_line hn
  refine gen_strs C BM HT Brange Bstr hxr S0 h hn cl hclos hcell h0 hxl hstr hkind hco pz ht (fun g s5 fp' wr G P T W hat hT hfp hg hP hx => ?_) hs he hdx
  refine spliced_nil ?_
  have hlen : (passing pz n 0).length ≤ n := by
    unfold passing
    refine Nat.le_trans (List.length_filter_le ..) ?_
    simp
  refine SC.joinGen W.in4_2 hT hat hfp hg (fun j v hv => let ⟨i, t', _, q⟩ := hP j v hv; ⟨_, _, q⟩) (fun s' l hm hacc => ?_) (by omega)
  have e1 : l.map (·.1) = (passing pz n 0).map strI := by
    rw [← range_getD]
    refine items_txt hacc fun j v hv hj => ?_
    obtain ⟨i, t', q1, q2⟩ := hP j v hv
    refine ⟨t', ?_⟩
    rw [q2, List.getD_eq_getElem?_getD, q1]; rfl
  rw [e1]
  refine ⟨hok, fun t' kk => ?_⟩
  refine ⟨x0.trans ((hx s' hm).trans (Ext.toks (hx s' hm).wf _)), [], ?_, frNil⟩
  show Reads _ (.str (Builtin.Str.glued sep _) t') _ _
  rw [StrLaws.glued_eq_join]
  exact .str _ _
/-- y[x] within a generator, y a list of bools -/
theorem gt_sub {x y : Str} {p1 p2 p3 : Pos} {scope : Scope} {n m : Nat} {b : Nat → Bool} {kk : K} {j : Nat} (hat : At f.xs ρ y ⟨kk, .list ((List.range n).map fun v => .bool (b v))⟩ j) {cells : List Str} (H : HasCells f cells) (hyc : y ∈ cells) (hn : n < 1000) (hmn : m ≤ n)
    (hxl : scope.names.lookup x = some .local) (hyf : scope.names.lookup y = some .free) (hym : (y, NameKind.free) ∈ scope.names) (hkind : scope.kind = .function)
    (hdx : (x == ("__debug__" : Str)) = false := by decide +kernel) (hdy : (y == ("__debug__" : Str)) = false := by decide +kernel) (hny : (y == ("__classdict__" : Str)) = false := by decide +kernel) :
    GenT c f ρ scope (clOf f.env scope.names []) x m (fun env => isTrue (.Subscript (.Name y p1) (.Name x p2) p3) env (eval (.Subscript (.Name y p1) (.Name x p2) p3) env)) (fun i q => q = b i) := by
  intro mo val fp s1 S1 L code A' E' i u t m₂ hA hD hU hi hn' hm hk
  have up : ∀ {v d as}, Reads s1.heap v d as → Reads t.heap v d as := fun r => reads_upon r (fun a ha o e p => hk a o (not_tab S1.wf e (plainish_cls p)) e) (fun a o e p _ => hk a o (not_tab S1.wf e (by rw [p]; nofun)) e)
  obtain ⟨z, g1, g2, g3⟩ := S1.var j _ hat.slot
  rw [hat.name] at g1; cases g1
  have g3' := up g3
  have ld : Loads (genEnv scope (clOf f.env scope.names []) L code builtinsNs f.env) t.heap y (val j) := by
    rcases g2 with ⟨k1, _⟩ | ⟨k1, ca, k2, k3⟩
    · rcases (H y hyc).1 with q | q <;> rw [k1] at q <;> cases q
    · obtain ⟨o, ho, hod⟩ := k3
      have hX : ¬ c.X ca := fun q => by
        obtain ⟨pp, q'⟩ := S1.wf.tab ca q
        rw [q'] at ho; cases ho; cases hod
      exact .inr ⟨.inr hyf, ca, clOf_lookup k2 scope.names [] (.inl hym) (fun b q => by simp at q), o, hk ca o hX ho, hod⟩
  refine wpAny_isTrue_value ?_ (by rfl)
  refine Subscript_ (wpAny_Name (load_any hkind ld ?_ hny) hdy)
  refine wpAny_Name (wpAny_loadName_local hkind hxl hn' hm ?_) hdx
  generalize val j = vv at g3' ⊢
  simp only at g3'
  generalize fp j = ff at g3'
  cases g3' with | list q1 q2 q3 q4 =>
  rename_i a o vs mm bs
  obtain ⟨v', cs, w1, w2, w3⟩ := readsAll_item (i := i) (d := .bool (b i)) q4 (rangeMap_at (by omega))
  have hsz : vs.size = n := by simpa using readsAll_length q4
  refine tail_any (T := "list") ⟨_, q1, q2⟩ slot_list_getitem.lookup ?_ (by rfl)
  cases w2
  refine wpAny_getItem_list ⟨_, q1, q2, _, q3⟩ (by omega) (by omega) (by simpa using w1) ?_
  exact wpAny_truthy_bool ⟨rfl, t.heap, _, rfl, fun _ _ e => e⟩
theorem gt_not {x : Str} {e : Expr} {p : Pos} {scope : Scope} {cl : List (Str × Addr)} {n : Nat} {b : Nat → Bool} (h : GenT c f ρ scope cl x n (fun env => isTrue e env (eval e env)) (fun i q => q = b i)) :
    GenT c f ρ scope cl x n (fun env => isTrue (.UnaryOp .Not e p) env (eval (.UnaryOp .Not e p) env)) (fun i q => q = !b i) := by
  intro mo val fp s1 S1 L code A' E' i u t m₂ hA hD hU hi hn' hm hk
  exact wpAny_isTrue_Not (wpAny_mono (h mo val fp s1 S1 L code A' E' i u t m₂ hA hD hU hi hn' hm hk) (fun q s3 ⟨q1, q2⟩ => ⟨by rw [q1], q2⟩) fun _ _ z => z)
end
end Mine

set_option maxRecDepth 100000
namespace Mine
open PySem PySem.Spec PySem.Calls PyProof.Rows
theorem strs_vals {h : Heap} {ts : List Str} : ∀ {vs : List Value} {as : List Addr}, ReadsAll h vs (ts.map .str) as → ∃ l : List (Str × Tok), strValues l = vs ∧ l.map (·.1) = ts := by
  induction ts with
  | nil => intro vs as r; exact ⟨[], (rd_nil r).symm, rfl⟩
  | cons t ts ih =>
    intro vs as r
    obtain ⟨w, ws, bs, cs, rfl, r1, r2⟩ := rd_cons r
    obtain ⟨l, rfl, hl⟩ := ih r2
    cases r1 with | str _ u => exact ⟨(t, u) :: l, rfl, congrArg (t :: ·) hl⟩
section
variable {c : Cx} {f : Fm} {ρ : Rho} {mo : Addr → Prop} {val : Nat → Value} {fp : Nat → List Addr} {s : Shared} {E : Value → Shared → Prop} {e e1 e2 e3 : Expr} {d d1 d2 d3 : PyData} {k k1 k2 k3 : EK} {x : Str} {np pos sp ap cp : Pos} {n nn : Nat} {a b z : Int}
theorem ev_vcall3 {id : String} (C : CxOk c) (B : Bi c x (.builtin id)) (hx : f.env.kindOf x = some .globalImplicit) (h1 : Ev c f ρ e1 d1 k1) (h2 : Ev c f ρ e2 d2 k2) (h3 : Ev c f ρ e3 d3 k3) (h : VC c f.lv (.builtin id) [d1, d2, d3] d)
    (he : ∀ env rest, starEach (e1 :: rest) env = (false, eval e1 env) :: starEach rest env := by intros; rfl) (he2 : ∀ env rest, starEach (e2 :: rest) env = (false, eval e2 env) :: starEach rest env := by intros; rfl) (he3 : ∀ env rest, starEach (e3 :: rest) env = (false, eval e3 env) :: starEach rest env := by intros; rfl)
    (hd : (x == ("__debug__" : Str)) = false := by decide +kernel) :
    Ev c f ρ (.Call (.Name x np) [e1, e2, e3] [] pos) d .fr := fun mo val fp s E S => by
  refine Call_ (builtin_name C B hx S ?_ hd)
  have fin : wpAny c.M f.A (evalArgs (.builtin id) true (backTo pos (starEach [e1, e2, e3] f.env)) []) (fun a s₁ => wpAny c.M f.A (call (.builtin id) ([] ++ a.pos) a.kw) (fun v s' => Ext c s s' ∧ ∃ as, Reads s'.heap v d as ∧ KOk f mo fp s.heap s'.heap .fr as) E s₁) E s := by
    rw [he, he2, he3]
    refine evalArgs_plain (spliced_cons (h1.bind S fun v s1 as x1 S1 r1 ko => spliced_cons (h2.bind S1 fun v2 s2 as2 x2 S2 r2 ko2 => spliced_cons (h3.bind S2 fun v3 s3 as3 x3 S3 r3 ko3 => spliced_nil ?_))))
    refine wpAny_mono (h f.A s3 [v, v2, v3] _ E S.ok.room S3.wf (.cons (x3.reads S2.wf (x2.reads S1.wf r1)) (.cons (x3.reads S2.wf r2) (.cons r3 .nil)))) (fun v s' ⟨x4, bs, r4, n4, q4, p4⟩ => ⟨((x1.trans x2).trans x3).trans x4, bs, r4, frOk S n4 (fun a ha => ((x1.trans x2).trans x3).up.none (q4 a ha)) p4⟩) fun _ _ z => z
  exact callWith_builtin (by rw [he, he2, he3]; rfl) fin
theorem min3_rd {a b z : Int} {t u x : Tok} : ∃ t', (if b < a then (if z < b then Value.int z x else .int b u) else (if z < a then .int z x else .int a t)) = .int (min (min a b) z) t' := by
  split
  · split
    · exact ⟨_, congrArg (Value.int · _) (by omega)⟩
    · exact ⟨_, congrArg (Value.int · _) (by omega)⟩
  · split
    · exact ⟨_, congrArg (Value.int · _) (by omega)⟩
    · exact ⟨_, congrArg (Value.int · _) (by omega)⟩
theorem vc_min3 : VC c n (.builtin "min") [.int a, .int b, .int z] (.int (min (min a b) z)) := fun A s vals ass E R W r => by
  obtain ⟨us, e, hl⟩ := rd_ints (ns := [a, b, z]) r
  obtain ⟨t, u, x, e2⟩ := len3 hl
  subst e2
  subst e
  exact min_three_ints (t := t) (u := u) (x := x) R.hand fun h' tk hk => ⟨Ext.of W hk, [], min3_rd.elim fun t' e => e ▸ .int _ _, .nil, nofun, nofun⟩
/-- sep.join(e), a list of texts -/
theorem ev_joinL {sep : Str} {ts : List Str} (h : Ev c f ρ e (.list (ts.map .str)) k) (hok : JoinOk sep ts = true)
    (hbase : ∀ env, attributeBase (.Constant (.str sep) nn sp) "join" env (eval (.Constant (.str sep) nn sp) env) = eval (.Constant (.str sep) nn sp) env := by intro _; rfl) (hline : (ap.endLine == cp.line) = true := by rfl)
    (htrees : ∀ env, backTo cp (starEach [e] env) = [(false, eval e env)] := by intro _; rfl) :
    Ev c f ρ (.Call (.Attribute (.Constant (.str sep) nn sp) "join" ap) [e] [] cp) (.str (Str.join sep ts)) .fr := by
  intro mo val fp s E S
  refine wpAny_Call_method1_late (hbase _) hline (htrees _) (ev_str.bind S fun v0 s0 as0 x0 S0 r0 _ => ?_)
  cases r0 with | str _ t =>
  refine ⟨"str", "str.join", F.plainAttrs_str, F.slot_str_join, F.type_str_join, typeIs_str _ _ _, nofun, ?_⟩
  refine Calls.callWith_builtin rfl (evalArgs_plain (spliced_cons (h.bind S0 fun v s1 as x1 S1 r1 ko => spliced_nil ?_)))
  cases r1 with | list g1 g2 g3 g4 =>
  rename_i D o vs m bs
  obtain ⟨l, hl, ht⟩ := strs_vals g4
  refine SC.join (l := l) (texts := ts) ⟨_, g1, g2, _, by rw [g3, hl]⟩ ht hok fun t' kk => ?_
  refine ⟨(x0.trans x1).trans (Ext.toks x1.wf _), [], ?_, frNil⟩
  show Reads _ (.str (Builtin.Str.glued sep _) t') _ _
  rw [StrLaws.glued_eq_join]
  exact .str _ _
end
end Mine

namespace Mine
open PySem PySem.Spec PySem.Calls PyProof.Rows
/-! {key: value for x in .. for y in .. if ..}, keys tuples of ints, values ints -/
noncomputable abbrev dcomp2 (kx vx i1 i2 : Expr) (x y : Str) (xp yp : Pos) (ifs : List Expr) (scope : Scope) (pos : Pos) : Expr := .DictComp kx vx [⟨.Name x xp, i1, [], 0⟩, ⟨.Name y yp, i2, ifs, 0⟩] scope pos
theorem dturn0 (kx vx i1 i2 : Expr) (x y : Str) (xp yp : Pos) (ifs : List Expr) (scope : Scope) (pos : Pos) (it : Value) (acc : Addr) (env : Env) :
    compTurn (dcomp2 kx vx i1 i2 x y xp yp ifs scope pos) 0 it (.ref acc) env = (do
      standAt i1.pos
      match ← pyNext it with
      | none => pure (.done .next)
      | some v =>
        letOwnedTupleGo (.Name x xp) it v
        assign (.Name x xp) env v
        let x' ← eval i2 env
        standAt i2.pos
        let x' ← foldedSetIterable i2 env x'
        let _ ← runOwn (.compStart (dcomp2 kx vx i1 i2 x y xp yp ifs scope pos) 1 (← holding [x'] (pyIter x')) (.ref acc) env) env
        again (.compLoop (dcomp2 kx vx i1 i2 x y xp yp ifs scope pos) 0 it (.ref acc) env)) := by rfl
theorem dturn1 (kx vx i1 i2 : Expr) (x y : Str) (xp yp : Pos) (ifs : List Expr) (scope : Scope) (pos : Pos) (it : Value) (acc : Addr) (env : Env) :
    compTurn (dcomp2 kx vx i1 i2 x y xp yp ifs scope pos) 1 it (.ref acc) env = (do
      standAt i2.pos
      match ← pyNext it with
      | none => pure (.done .next)
      | some v =>
        letOwnedTupleGo (.Name y yp) it v
        assign (.Name y yp) env v
        let mut ok := true
        for c in ifs do
          if ok then ok ← isTrue c env (eval c env)
        if ok then
          (do
            let kv ← eval kx env
            let vv ← holding [kv] (eval vx env)
            standAt { kx.pos with endLine := vx.pos.endLine, endCol := vx.pos.endCol }
            holding [kv, vv] (dictSet acc kv vv))
        again (.compLoop (dcomp2 kx vx i1 i2 x y xp yp ifs scope pos) 1 it (.ref acc) env)) := by rfl

section
variable {prog : Program} {w : World} {A : Around} {E : Value → Shared → Prop} {R : Result → Shared → Prop} {s : Shared} {kx vx i1 i2 : Expr} {x y : Str} {xp yp : Pos} {ifs : List Expr} {scope : Scope} {pos : Pos} {it : Value} {acc : Addr} {env : Env}
theorem dloop1 (I : Nat → Shared → Prop)
    (turn : ∀ n s, I n s → wpAny (model prog w) A (pyNext it) (fun r s₁ => match r with
      | none => R (.ok .next) s₁
      | some v => wpAny (model prog w) A (assign (.Name y yp) env v) (fun _ s₂ =>
          wpAny (model prog w) A (forIn ifs true fun c r => if r = true then do let ok ← isTrue c env (eval c env); pure (ForInStep.yield ok) else pure (ForInStep.yield r)) (fun ok s₃ =>
            if ok = true then wpAny (model prog w) A (eval kx env) (fun kv s₄ => wpAny (model prog w) A (eval vx env) (fun vv s₅ =>
              wpAny (model prog w) A (dictSet acc kv vv) (fun _ s₆ => ∃ m, m < n ∧ I m s₆) (notedBy (model prog w) A env fun e s' => R (.error e) s') s₅) (notedBy (model prog w) A env fun e s' => R (.error e) s') s₄) (notedBy (model prog w) A env fun e s' => R (.error e) s') s₃
            else ∃ m, m < n ∧ I m s₃) (notedBy (model prog w) A env fun e s' => R (.error e) s') s₂) (notedBy (model prog w) A env fun e s' => R (.error e) s') s₁) (notedBy (model prog w) A env fun e s' => R (.error e) s') s)
    (n : Nat) (h : I n s) : codeAny (model prog w) A (.compLoop (dcomp2 kx vx i1 i2 x y xp yp ifs scope pos) 1 it (.ref acc) env) R s := by
  refine codeAny_loop rfl I (fun n s hI => ?_) n h
  show wpAny _ A ((compTurn (dcomp2 kx vx i1 i2 x y xp yp ifs scope pos) 1 it (.ref acc) env).onRaise (fun x => do noteFrame x env; theTreesLotGoes x)) _ _ s
  refine wpAny_noted ?_
  rw [dturn1]
  refine wpAny_bind (wpAny_standAt (wpAny_bind (wpAny_mono (turn n s hI) (fun r s₁ h₁ => ?_) fun _ _ h' => h')))
  cases r with
  | none => exact wpAny_pure h₁
  | some v =>
    refine wpAny_bind (wpAny_of_eq (show letOwnedTupleGo (.Name y yp) it v = pure () from rfl) ?_)
    refine wpAny_bind (wpAny_mono h₁ (fun _ s₂ h₂ => wpAny_bind (wpAny_mono h₂ (fun ok s₃ h₃ => ?_) fun _ _ h' => h')) fun _ _ h' => h')
    cases ok with
    | false => exact wpAny_pure ⟨rfl, h₃⟩
    | true =>
      exact wpAny_bind (wpAny_bind (wpAny_mono h₃ (fun kv s₄ h₄ => wpAny_bind (wpAny_holding (wpAny_mono h₄ (fun vv s₅ h₅ => wpAny_bind (wpAny_standAt (wpAny_holding (wpAny_mono h₅ (fun _ s₆ h₆ => wpAny_pure ⟨rfl, h₆⟩) fun _ _ h' => h')))) fun _ _ h' => h'))) fun _ _ h' => h'))
theorem dstart1 (h0 : codeAny (model prog w) A (.compLoop (dcomp2 kx vx i1 i2 x y xp yp ifs scope pos) 1 it (.ref acc) env) R s)
    (h : wpAny (model prog w) A (pyIter it) (fun it' s' => codeAny (model prog w) A (.compLoop (dcomp2 kx vx i1 i2 x y xp yp ifs scope pos) 1 it' (.ref acc) env) R s')
      (notedBy (model prog w) A env fun x s' => R (.error x) s') s) :
    codeAny (model prog w) A (.compStart (dcomp2 kx vx i1 i2 x y xp yp ifs scope pos) 1 it (.ref acc) env) R s := by
  refine codeAny_of_tree ?_
  show wpAny _ _ ((compStart (dcomp2 kx vx i1 i2 x y xp yp ifs scope pos) 1 it (.ref acc) env).onRaise (fun x => do noteFrame x env; standAt theWindowsPlace)) _ _ s
  refine wpAny_notedAt ?_
  unfold compStart
  show wpAny _ _ (ask >>= _) _ _ s
  refine wpAny_bind (wpAny_askSetting (wpAny_ite ?_))
  split
  · first
      | exact wpAny_bind (wpAny_pure (wpAny_pure (And.intro rfl h0)))
      | exact wpAny_pure (And.intro rfl h0)
  · first
      | exact wpAny_bind (wpAny_rule (wpAny_bind (wpAny_standAt (wpAny_bind (wpAny_mono h (fun it' s' h' => wpAny_pure (And.intro rfl h')) fun _ _ x => x)))))
      | (refine wpAny_bind (wpAny_rule ?_); show wpAny _ _ (standAt i2.pos >>= _) _ _ s; exact wpAny_bind (wpAny_standAt (wpAny_bind (wpAny_mono h (fun it' s' h' => wpAny_pure (And.intro rfl h')) fun _ _ x => x))))
theorem dloop0 (I : Nat → Shared → Prop) (hs : ∀ x, foldedSetIterable i2 env x = pure x)
    (turn : ∀ n s, I n s → wpAny (model prog w) A (pyNext it) (fun r s₁ => match r with
      | none => R (.ok .next) s₁
      | some v => wpAny (model prog w) A (assign (.Name x xp) env v) (fun _ s₂ =>
          wpAny (model prog w) A (eval i2 env) (fun xv s₃ => wpAny (model prog w) A (pyIter xv) (fun it2 s₄ =>
            codeAny (model prog w) A (.compStart (dcomp2 kx vx i1 i2 x y xp yp ifs scope pos) 1 it2 (.ref acc) env) (fun r s₅ => match r with | .ok _ => ∃ m, m < n ∧ I m s₅ | .error _ => False) s₄) (notedBy (model prog w) A env fun e s' => R (.error e) s') s₃) (notedBy (model prog w) A env fun e s' => R (.error e) s') s₂) (notedBy (model prog w) A env fun e s' => R (.error e) s') s₁) (notedBy (model prog w) A env fun e s' => R (.error e) s') s)
    (n : Nat) (h : I n s) : codeAny (model prog w) A (.compLoop (dcomp2 kx vx i1 i2 x y xp yp ifs scope pos) 0 it (.ref acc) env) R s := by
  refine codeAny_loop rfl I (fun n s hI => ?_) n h
  show wpAny _ A ((compTurn (dcomp2 kx vx i1 i2 x y xp yp ifs scope pos) 0 it (.ref acc) env).onRaise (fun x => do noteFrame x env; theTreesLotGoes x)) _ _ s
  refine wpAny_noted ?_
  rw [dturn0]
  refine wpAny_bind (wpAny_standAt (wpAny_bind (wpAny_mono (turn n s hI) (fun r s₁ h₁ => ?_) fun _ _ h' => h')))
  cases r with
  | none => exact wpAny_pure h₁
  | some v =>
    refine wpAny_bind (wpAny_of_eq (show letOwnedTupleGo (.Name x xp) it v = pure () from rfl) ?_)
    refine wpAny_bind (wpAny_mono h₁ (fun _ s₂ h₂ => ?_) fun _ _ h' => h')
    refine wpAny_bind (wpAny_mono h₂ (fun xv s₃ h₃ => wpAny_bind (wpAny_standAt (wpAny_bind (wpAny_of_eq (hs xv) ?_)))) fun _ _ h' => h')
    refine wpAny_bind (wpAny_holding (wpAny_mono h₃ (fun it2 s₄ h₄ => ?_) fun _ _ h' => h'))
    refine wpAny_bind (wpAny_runOwn (codeAny_mono h₄ fun r s₅ h₅ => ?_))
    cases r with
    | ok _ => exact wpAny_pure ⟨rfl, h₅⟩
    | error e => exact h₅.elim
end

noncomputable abbrev dput1 (L : List (List Int × Int)) (q : List Int × Int) : List (List Int × Int) := dput L q.1 q.2
theorem dput_len (L : List (List Int × Int)) (k : List Int) (v : Int) : (dput L k v).length ≤ L.length + 1 := by
  unfold dput; split <;> simp
theorem dputs_len : ∀ (l L : List (List Int × Int)), (l.foldl dput1 L).length ≤ L.length + l.length
  | [], L => Nat.le_refl _
  | q :: l, L => by
    rw [List.foldl_cons]
    have h1 := dputs_len l (dput1 L q)
    have h2 := dput_len L q.1 q.2
    rw [List.length_cons]
    have h3 : (dput1 L q).length = (dput L q.1 q.2).length := rfl
    omega
section
variable {c : Cx} {f : Fm} {ρ : Rho} {mo : Addr → Prop} {val : Nat → Value} {fp : Nat → List Addr} {s : Shared} {E : Value → Shared → Prop}
theorem comp_turnD {f' : Fm} {ρ' : Rho} {s2 s4 : Shared} {wr as0 : List Addr} {C D : Addr} {L : List (List Int × Int)} {d : List Int × Int} {q : Bool} {kx vx : Expr} {ifs : List Expr} {G : Shared → Prop} {N : Value → Shared → Prop} (CS : St c f' ρ' mo val fp s4) (I : CI c s2 wr as0 C D true (dD (L.foldl dput1 [])) s4) (hL : L.length ≤ sizeLine) (h2 : s2.heap.get? D = none) (hB : c.hB.get? D = none)
    (ht : Ifs c f' ρ' ifs q) (he : q = true → Ev c f' ρ' kx (.tuple (d.1.map .int)) .fr ∧ Ev c f' ρ' vx (.int d.2) .fr)
    (hG : ∀ s5, CI c s2 wr as0 C D true (dD ((L ++ if q = true then [d] else []).foldl dput1 [])) s5 → (∀ b o, b ≠ D → ¬ c.X b → s4.heap.get? b = some o → s5.heap.get? b = some o) → G s5) :
    wpAny c.M f'.A (forIn ifs true fun e r => if r = true then do let ok ← isTrue e f'.env (eval e f'.env); pure (ForInStep.yield ok) else pure (ForInStep.yield r)) (fun ok s₃ =>
      if ok = true then wpAny c.M f'.A (eval kx f'.env) (fun kv s₄ => wpAny c.M f'.A (eval vx f'.env) (fun vv s₅ => wpAny c.M f'.A (dictSet D kv vv) (fun _ s₆ => G s₆) N s₅) N s₄) N s₃ else G s₃) N s4 := by
  refine wpAny_mono (ht _ _ _ _ _ CS) (fun ok s5 h5 => ?_) fun _ _ z => z
  obtain ⟨rfl, x5⟩ := h5
  have I5 := I.ext x5
  cases ok with
  | false =>
    rw [if_neg Bool.false_ne_true]
    refine hG s5 ?_ fun b o _ hX q => x5.up.kp b o hX q
    rw [if_neg Bool.false_ne_true, List.append_nil]; exact I5
  | true =>
    rw [if_pos rfl]
    obtain ⟨hek, hev⟩ := he rfl
    refine hek.bind (CS.ext x5) fun w s11 cs x11 S11 r11 ko11 => hev.bind S11 fun w2 s12 cs2 x12 S12 r12 ko12 => ?_
    have I12 := (I5.ext x11).ext x12
    obtain ⟨b, rfl, hkey⟩ := key_of (prog := c.prog) (w := c.w) (x12.reads S11.wf r11)
    obtain ⟨t, rfl⟩ := rd_int r12
    obtain ⟨as, l1, l2, _⟩ := I12.rd
    obtain ⟨D', ys, hva, has, hsm, hm, hk2, hk3⟩ := reads_dict l1
    cases hva
    obtain rfl : as = [] := (List.cons.inj has).2
    have hl : ys.length ≤ sizeLine := by
      have e1 := congrArg List.length hk2
      rw [List.length_map, List.length_map] at e1
      have e2 := dputs_len L []
      rw [List.length_nil] at e2
      omega
    refine wpAny_dictSet_heap (hsz := hl) (by have := CS.ok.room.units; show f'.A.units < cLine; omega) hkey (hm _ _) fun h13 hD13 hs13 => ?_
    obtain ⟨p1, p2⟩ := put_rel hk2 hk3 d.1 b d.2 t
    obtain ⟨o, es, ep, g1, g2, g3, g4, g5, g6⟩ := id hD13
    refine hG _ ?_ fun b o hb hX q => (hs13.2 b hb).trans (x12.up.kp b o hX (x11.up.kp b o hX (x5.up.kp b o hX q)))
    rw [if_pos rfl, List.foldl_append]
    exact I12.sum (as := []) hs13 h2 hB (.dict g1 g2.1 g3 hsm (fun prog w => dict_conv hD13 prog w) p1 p2) ⟨o, g1, .inr ⟨g2.1, _, _, g3⟩, g2.2.1, g2.2.2⟩ ⟨nofun, fun _ => ⟨.nil, nofun⟩, fun _ => nofun⟩
theorem dcomp_core2 {kx vx i1 i2 : Expr} {x y : Str} {xp yp : Pos} {ifs : List Expr} {scope : Scope} {pos : Pos} {cp : List Nat} {α β : Type} {enc : α → PyData} {enc2 : β → PyData} {xs : List α} {zs : List β} {k0 : EK} {sk : K} {p : α → β → Bool} {g : α → β → List Int × Int}
    (CO : CompOk c f ρ scope x cp) (hxl : scope.names.lookup x = some .local) (hyl : scope.names.lookup y = some .local) (hxy : x ≠ y) (hnc : ∀ z ∈ scope.names, z.2 ≠ .cell) (h : It c f ρ i1 (xs.map enc) k0) (hk : Fills3 k0 (xs.map enc) sk) (hsz : xs.length * zs.length ≤ sizeLine)
    (h2 : ∀ C, ∀ el ∈ xs, ItN c (chFm f scope C x cp) (chRho ρ cp ⟨sk, enc el⟩) i2 (zs.map enc2))
    (ht : ∀ C, ∀ el ∈ xs, ∀ z ∈ zs, Ifs c (cf2 f scope C x y cp) (some ⟨.lo, enc2 z⟩ :: chRho ρ cp ⟨sk, enc el⟩) ifs (p el z))
    (he : ∀ C, ∀ el ∈ xs, ∀ z ∈ zs, p el z = true → Ev c (cf2 f scope C x y cp) (some ⟨.lo, enc2 z⟩ :: chRho ρ cp ⟨sk, enc el⟩) kx (.tuple ((g el z).1.map .int)) .fr ∧ Ev c (cf2 f scope C x y cp) (some ⟨.lo, enc2 z⟩ :: chRho ρ cp ⟨sk, enc el⟩) vx (.int (g el z).2) .fr)
    {RR : Value → Addr → Result → Shared → Prop} (S : St c f ρ mo val fp s)
    (hRR : ∀ D C s', Ext c s s' → s.heap.get? D = none → s.heap.get? C = none → D ≠ C → (∃ m, s'.heap.Ns C m) → Reads s'.heap (.ref D) (dD ((xs.flatMap fun el => (zs.filter (p el)).map (g el)).foldl dput1 [])) [D] → Pl s'.heap D → RR (.ref D) C (.ok .next) s') (CK : CxOk c)
    (hs2 : ∀ env x, foldedSetIterable i2 env x = pure x) :
    wpAny c.M f.A (eval i1 f.env) (fun xv s₁ => wpAny c.M f.A (pyIter xv) (fun it s₂ => wpAny c.M f.A newDict (fun acc s₃ =>
      wpAny c.M f.A (newFunctionEnv scope f.env.globals (clOf f.env scope.names []) [] f.env.qual none .none (some f.env)) (fun cenv s₄ =>
        codeAny c.M f.A (.compStart (dcomp2 kx vx i1 i2 x y xp yp ifs scope pos) 0 it acc { cenv with scope := relabel scope f.env }) (RR acc cenv.locals) s₄) E s₃) E s₂) E s₁) E s := by
  refine comp_core2K (dat := fun L => dD (L.foldl dput1 [])) CO hxl hyl hxy hnc h hk h2 (BODY := fun D env N G s => wpAny c.M f.A (forIn ifs true fun e r => if r = true then do let ok ← isTrue e env (eval e env); pure (ForInStep.yield ok) else pure (ForInStep.yield r)) (fun ok s₃ => if ok = true then wpAny c.M f.A (eval kx env) (fun kv s₄ => wpAny c.M f.A (eval vx env) (fun vv s₅ => wpAny c.M f.A (dictSet D kv vv) (fun _ s₆ => G s₆) N s₅) N s₄) N s₃ else G s₃) N s)
    (fun C D s2 wr as0 L el hel z hz hL val fp s N G CS I hD hB hwr hG => comp_turnD CS I (Nat.le_trans hL hsz) hD hB (ht C el hel z hz) (he C el hel z hz) hG)
    (fun s K hK => wpAny_newObj_type hK) (fun s2 W => ?_) (fun h0 h1 => codeAny_compStart_dict h0 h1) (fun h0 h1 => dstart1 h0 h1) (fun I t n hn => dloop0 I (hs2 _) t n hn) (fun I t n hn => dloop1 I t n hn) S ?_
  · refine ⟨Reads.dict (xs := []) (ps := []) (Heap.get?_push_size _ rfl) rfl rfl ?_ (fun prog w => Heap.DictOfH.new _) rfl noget, ⟨_, Heap.get?_push_size _ rfl, .inr ⟨rfl, _, _, rfl⟩, rfl, rfl⟩⟩
    have hg := Ns.base W CK.g CK.gX
    have hlt : mainGlobals < s2.heap.objs.size := hg.lt
    have : sysModules ≤ mainGlobals := by decide +kernel
    exact beq_eq_false_iff_ne.mpr fun q => absurd hlt (Nat.not_lt.mpr (by rw [show s2.heap.objs.size = sysModules from q]; exact this))
  · intro D C s' as s2 as0 x1 hD hC hDC hn r pD x2 a
    obtain ⟨D', ys, hva, has, _⟩ := reads_dict r
    cases hva
    obtain rfl : as = [] := (List.cons.inj has).2
    exact hRR D C s' x1 hD hC hDC hn r pD
/-- {.. for x in .. for y in .. if ..}, as an expression -/
theorem ev_dcomp2 {kx vx i1 i2 : Expr} {x x2 : Str} {xp xp2 : Pos} {ifs : List Expr} {scope : Scope} {pos : Pos} {cp : List Nat} {α β : Type} {enc : α → PyData} {enc2 : β → PyData} {xs : List α} {zs : List β} {k0 : EK} {sk : K} {p : α → β → Bool} {g : α → β → List Int × Int}
    (CK : CxOk c) (CO : CompOk c f ρ scope x cp) (hxl : scope.names.lookup x = some .local) (hyl : scope.names.lookup x2 = some .local) (hxy : x ≠ x2) (hnc : ∀ z ∈ scope.names, z.2 ≠ .cell) (h : It c f ρ i1 (xs.map enc) k0) (hk : Fills3 k0 (xs.map enc) sk) (hsz : xs.length * zs.length ≤ sizeLine)
    (h2 : ∀ C, ∀ el ∈ xs, ItN c (chFm f scope C x cp) (chRho ρ cp ⟨sk, enc el⟩) i2 (zs.map enc2))
    (ht : ∀ C, ∀ el ∈ xs, ∀ z ∈ zs, Ifs c (cf2 f scope C x x2 cp) (some ⟨.lo, enc2 z⟩ :: chRho ρ cp ⟨sk, enc el⟩) ifs (p el z))
    (he : ∀ C, ∀ el ∈ xs, ∀ z ∈ zs, p el z = true → Ev c (cf2 f scope C x x2 cp) (some ⟨.lo, enc2 z⟩ :: chRho ρ cp ⟨sk, enc el⟩) kx (.tuple ((g el z).1.map .int)) .fr ∧ Ev c (cf2 f scope C x x2 cp) (some ⟨.lo, enc2 z⟩ :: chRho ρ cp ⟨sk, enc el⟩) vx (.int (g el z).2) .fr)
    (hs : ∀ env x, foldedSetIterable i1 env x = pure x := by intro _ _; rfl) (hs2 : ∀ env x, foldedSetIterable i2 env x = pure x := by intro _ _; rfl) :
    Ev c f ρ (dcomp2 kx vx i1 i2 x x2 xp xp2 ifs scope pos) (dD ((xs.flatMap fun el => (zs.filter (p el)).map (g el)).foldl dput1 [])) .fr := fun mo val fp s E S => by
  show wpAny _ _ (eval (.DictComp ..) _) _ _ _
  rw [arm_eval_DictComp]
  refine wpAny_comprehension_free (use := none) rfl (hs _) (closureFor_eq CO.free) CO.kind CO.names (dcomp_core2 (RR := fun acc C => compPost c.M f.A E none _ acc C) CO hxl hyl hxy hnc h hk hsz h2 ht he S ?_ CK hs2)
  intro D C s' x1 hD hC hDC hns r plD
  obtain ⟨m, hm⟩ := hns
  have fr : ∀ a ∈ [D], s.heap.get? a = none := fun a ha => by rw [List.mem_singleton.mp ha]; exact hD
  have pl : ∀ a ∈ [D], Pl s'.heap a := fun a ha => by rw [List.mem_singleton.mp ha]; exact plD
  have nd : [D].Nodup := by simp
  have hCas : C ∉ ([] : List Addr) := nofun
  refine ⟨m, hm, fun h' hs' => ?_⟩
  have hCD : C ∉ [D] := fun q => (List.mem_cons.mp q).elim (fun h => hDC h.symm) hCas
  have hX : ¬ c.X C := fun hx => by
    obtain ⟨ps, q⟩ := x1.wf.tab C hx
    obtain ⟨o, es, ep, ho, hd, _⟩ := hm
    rw [q] at ho; cases ho; cases hd
  refine ⟨⟨⟨fun b o hXb q => (hs'.2 b fun h => by rw [h, hC] at q; cases q).trans (x1.up.kp b o hXb q), fun b o q => by
      obtain ⟨o', q'⟩ := x1.up.th b o q
      exact ⟨o', (hs'.2 b fun h => by rw [h, hC] at q; cases q).trans q'⟩⟩, x1.wf.sameBut hs' (S.ok.base.none (S.keep.none hC)) hX⟩, [D], ?_, frOk S nd fr fun a ha => ?_⟩
  · exact reads_upon r (fun b hb o q _ => (hs'.2 b fun h => hCD (h ▸ hb)).trans q) (fun b o q _ hdd => (hs'.2 b fun h => ns_notSeq hm (h ▸ q) hdd).trans q)
  · obtain ⟨o, q, r⟩ := pl a ha
    exact ⟨o, (hs'.2 a fun h => hCD (h ▸ ha)).trans q, r⟩
theorem ev_dcomp2X {kx vx i1 i2 : Expr} {x x2 : Str} {xp xp2 : Pos} {ifs : List Expr} {scope : Scope} {pos : Pos} {α β : Type} {enc : α → PyData} {enc2 : β → PyData} {ls : List α} {zs : List β} {k0 : EK} (sk : K) {p : α → β → Bool} {g : α → β → List Int × Int}
    {cells : List Str} (CK : CxOk c) (H : HasCells f cells) (cp : List Nat) (capn : List Str) (slots : Rho) (cells' : List Str) (h : It c f ρ i1 (ls.map enc) k0) (hk : Fills3 k0 (ls.map enc) sk) (hsz : ls.length * zs.length ≤ sizeLine)
    (h2 : ∀ C, ∀ el ∈ ls, ItN c (cf f scope C x capn) (some ⟨sk, enc el⟩ :: slots) i2 (zs.map enc2))
    (ht : ∀ C, HasCells (cf f scope C x capn) cells' → ∀ el ∈ ls, ∀ z ∈ zs, Ifs c (cfB f scope C x x2 capn) (some ⟨.lo, enc2 z⟩ :: some ⟨sk, enc el⟩ :: slots) ifs (p el z))
    (he : ∀ C, HasCells (cf f scope C x capn) cells' → ∀ el ∈ ls, ∀ z ∈ zs, p el z = true → Ev c (cfB f scope C x x2 capn) (some ⟨.lo, enc2 z⟩ :: some ⟨sk, enc el⟩ :: slots) kx (.tuple ((g el z).1.map .int)) .fr ∧ Ev c (cfB f scope C x x2 capn) (some ⟨.lo, enc2 z⟩ :: some ⟨sk, enc el⟩ :: slots) vx (.int (g el z).2) .fr)
    (hchk : (compChk scope x cp capn cells && chChk scope cells cells') = true := by decide +kernel) (hchk2 : comp2Chk scope x x2 = true := by decide +kernel)
    (hn : cp.map (fun j => f.xs[j]?) = capn.map some := by rfl) (hn2 : cp.map (fun j => f.xs.getD j default) = capn := by rfl) (hsl : cp.map (fun j => (ρ[j]?).join) = slots := by rfl)
    (hs : ∀ env x, foldedSetIterable i1 env x = pure x := by intro _ _; rfl) (hs2 : ∀ env x, foldedSetIterable i2 env x = pure x := by intro _ _; rfl) :
    Ev c f ρ (.DictComp kx vx [⟨.Name x xp, i1, [], 0⟩, ⟨.Name x2 xp2, i2, ifs, 0⟩] scope pos) (dD ((ls.flatMap fun el => (zs.filter (p el)).map (g el)).foldl dput1 [])) .fr := by
  obtain ⟨h1, h2'⟩ := Bool.and_eq_true_iff.mp hchk
  have CO : CompOk c f ρ scope x cp := compOk_mk H hn h1
  have e1 : ∀ C, chFm f scope C x cp = cf f scope C x capn := fun C => by unfold chFm; rw [hn2]
  have e3 : ∀ C, cf2 f scope C x x2 cp = cfB f scope C x x2 capn := fun C => by unfold cf2 chFm; rw [hn2]
  have e2 : ∀ d, chRho ρ cp ⟨sk, d⟩ = some ⟨sk, d⟩ :: slots := fun d => by unfold chRho; rw [hsl]
  have HC : ∀ C, HasCells (cf f scope C x capn) cells' := fun C => e1 C ▸ child_cells H h2'
  unfold comp2Chk at hchk2
  simp only [Bool.and_eq_true, List.all_eq_true, beq_iff_eq, bne_iff_ne, ne_eq] at hchk2
  obtain ⟨⟨⟨q1, q2⟩, q3⟩, q4⟩ := hchk2
  exact ev_dcomp2 CK CO q1 q2 q3 q4 h hk hsz (fun C el hel => by rw [e1, e2]; exact h2 C el hel) (fun C el hel z hz => by rw [e3, e2]; exact ht C (HC C) el hel z hz) (fun C el hel z hz hp => by rw [e3, e2]; exact he C (HC C) el hel z hz hp) hs hs2
end
end Mine

namespace Mine
open PySem PySem.Spec PySem.Calls PyProof.Rows
section
variable {c : Cx} {f : Fm} {ρ : Rho} {mo : Addr → Prop} {val : Nat → Value} {fp : Nat → List Addr} {s : Shared} {E : Value → Shared → Prop}
/-- the pairs of a dict display -/
inductive Prs (c : Cx) (f : Fm) (ρ : Rho) : List (Option Expr) → List Expr → List (List Int × Int) → Prop
  | nil : Prs c f ρ [] [] []
  | cons {kx vx : Expr} {ks : List Int} {v : Int} {k1 k2 : EK} {keys : List (Option Expr)} {values : List Expr} {ps : List (List Int × Int)} : Ev c f ρ kx (.tuple (ks.map .int)) k1 → Ev c f ρ vx (.int v) k2 → Prs c f ρ keys values ps → Prs c f ρ (some kx :: keys) (vx :: values) ((ks, v) :: ps)
inductive PrsAre (h : Heap) : List (Value × Value) → List (List Int × Int) → Prop
  | nil : PrsAre h [] []
  | cons {kv : Value} {ks : List Int} {v : Int} {t : Tok} {as : List Addr} {vs : List (Value × Value)} {ps : List (List Int × Int)} : Reads h kv (.tuple (ks.map .int)) as → PrsAre h vs ps → PrsAre h ((kv, .int v t) :: vs) ((ks, v) :: ps)
theorem PrsAre.up {h h' : Heap} (hu : ∀ {kv : Value} {ks : List Int} {as : List Addr}, Reads h kv (.tuple (ks.map .int)) as → Reads h' kv (.tuple (ks.map .int)) as) : ∀ {vs : List (Value × Value)} {ps : List (List Int × Int)}, PrsAre h vs ps → PrsAre h' vs ps := fun q => by
  induction q with
  | nil => exact .nil
  | cons r _ ih => exact .cons (hu r) ih
theorem evalPairs_ok {pos : Pos} {keys : List (Option Expr)} {values : List Expr} {ps : List (List Int × Int)} (h : Prs c f ρ keys values ps) : ∀ {s : Shared}, St c f ρ mo val fp s →
    wpAny c.M f.A (evalPairs (pairTrees keys values f.env pos)) (fun vs s' => Ext c s s' ∧ PrsAre s'.heap vs ps) E s := by
  induction h with
  | nil => intro s S; exact wpAny_pure ⟨Ext.refl S.wf, .nil⟩
  | cons h1 h2 h3 ih =>
    intro s S
    show wpAny _ _ (do let kv ← eval _ f.env; let vv ← holding [kv] (do let x ← eval _ f.env; standAt pos; pure x); return (kv, vv) :: (← holding [kv, vv] (evalPairs (pairTrees _ _ f.env pos)))) _ _ _
    refine wpAny_bind (h1.bind S fun kv s1 as1 x1 S1 r1 _ => ?_)
    refine wpAny_bind (wpAny_holding (wpAny_bind (h2.bind S1 fun vv s2 as2 x2 S2 r2 _ => wpAny_bind (wpAny_standAt (wpAny_pure ?_)))))
    refine wpAny_bind (wpAny_holding (wpAny_mono (ih S2) (fun vs s3 ⟨x3, q3⟩ => wpAny_pure ⟨(x1.trans x2).trans x3, ?_⟩) fun _ _ z => z))
    cases r2 with | int _ t =>
    exact .cons (x3.reads S2.wf (x2.reads S1.wf r1)) q3
theorem storeAll_ok {D : Addr} {A : Around} (R : A.units < cLine) {ps : List (List Int × Int)} : ∀ {vs : List (Value × Value)} {L : List (List Int × Int)} {s : Shared}, PrsAre s.heap vs ps → Reads s.heap (.ref D) (dD L) [D] → Pl s.heap D → L.length + ps.length ≤ sizeLine →
    wpAny c.M A (storeAll D vs) (fun _ s' => ∃ h' tk, s' = { s with heap := h', toks := tk } ∧ Heap.SameBut D s.heap h' ∧ Reads h' (.ref D) (dD (ps.foldl dput1 L)) [D] ∧ Pl h' D) E s := by
  induction ps with
  | nil => intro vs L s q r p _; cases q; exact wpAny_pure ⟨s.heap, s.toks, rfl, ⟨rfl, fun _ _ => rfl⟩, r, p⟩
  | cons d ps ih =>
    intro vs L s q r p hl
    cases q with | cons q1 q2 =>
    rename_i kv ks v t as vs
    refine cps fun G k => ?_
    obtain ⟨b, ekv, hkey⟩ := key_of (prog := c.prog) (w := c.w) q1
    obtain ⟨D', ys, hva, _, hsm, hm, hk2, hk3⟩ := reads_dict r
    obtain rfl := Value.ref.inj hva
    obtain ⟨p1, p2⟩ := put_rel hk2 hk3 ks b v t
    refine k ?_
    clear k
    subst ekv
    have e1 := congrArg List.length hk2
    rw [List.length_map, List.length_map] at e1
    rw [List.length_cons] at hl
    show wpAny _ _ (forIn (_ :: vs) PUnit.unit _) _ _ _
    rw [List.forIn_cons]
    refine wpAny_bind (wpAny_bind (wpAny_dictSet_heap (hsz := by omega) R hkey (hm _ _) fun h1 hD1 hs1 => wpAny_pure ?_))
    refine cps fun G k => ?_
    obtain ⟨o, es, ep, g1, g2, g3, g4, g5, g6⟩ := id hD1
    have hnt : ∀ o, s.heap.get? D = some o → o.cls ≠ .type "tuple" := fun o' q hc => by
      obtain ⟨oD, qD, lD, _⟩ := p
      rw [q] at qD; cases qD
      rcases lD with ⟨q', _⟩ | ⟨q', _⟩ <;> rw [hc] at q' <;> injection q' with q' <;> exact absurd q' (by decide)
    have q3 : PrsAre h1 vs ps := q2.up fun {kv ks as} r' => by
      have := reads_flat r' (show flats (ks.map .int) = true from flats_map (fun _ => rfl) _)
      subst this
      exact reads_but hs1 hnt (by nofun) r'
    have r1 : Reads h1 (.ref D) (dD (dput L ks v)) [D] := .dict g1 g2.1 g3 hsm (fun prog w => dict_conv hD1 prog w) p1 p2
    have hl2 := dput_len L ks v
    refine k ?_
    clear k
    refine wpAny_mono (ih (s := { s with heap := h1, toks := s.toks + (tupleKind (intKind c.prog c.w)).draws ks }) q3 r1 ⟨o, g1, .inr ⟨g2.1, _, _, g3⟩, g2.2.1, g2.2.2⟩ (by omega)) (fun _ s2 z => ?_) fun _ _ z => z
    obtain ⟨h2, tk, e, hs2, r2, p2⟩ := z
    exact ⟨h2, tk, e, ⟨hs2.1.trans hs1.1, fun b hb => (hs2.2 b hb).trans (hs1.2 b hb)⟩, r2, p2⟩
/-- {k: v, ..} -/
theorem ev_dict {keys : List (Option Expr)} {values : List Expr} {ps : List (List Int × Int)} {pos : Pos} (C : CxOk c) (h : Prs c f ρ keys values ps) (h0 : keys ≠ []) (hall : keys.all (·.isSome) = true) (hl : keys.length = values.length) (hlen : keys.length ≤ 15) (hps : ps.length ≤ 100) :
    Ev c f ρ (.Dict keys values pos) (dD (ps.foldl dput1 [])) .fr := fun mo val fp s E S => by
  refine wpAny_Dict_any hall hl h0 hlen ?_
  have hg := Ns.base S.wf C.g C.gX
  have hlt : mainGlobals < s.heap.objs.size := hg.lt
  have x1 : Ext c s { s with heap := s.heap.push { cls := .type "dict", data := .dict #[] } } := Ext.push S.wf _ _
  have hn := get_size_none s.heap
  generalize hD : s.heap.objs.size = D at *
  have hDm : (D == sysModules) = false := by
    have : sysModules ≤ mainGlobals := by decide +kernel
    exact beq_eq_false_iff_ne.mpr fun q => by
      have : D ≤ mainGlobals := by rw [show D = sysModules from q]; exact this
      exact absurd hlt (Nat.not_lt.mpr this)
  have r1 : Reads (s.heap.push { cls := .type "dict", data := .dict #[] }) (.ref D) (dD []) [D] := by
    subst hD
    exact Reads.dict (xs := []) (ps := []) (Heap.get?_push_size _ rfl) rfl rfl hDm (fun prog w => Heap.DictOfH.new _) rfl noget
  have p1 : Pl (s.heap.push { cls := .type "dict", data := .dict #[] }) D := by
    subst hD
    exact ⟨_, Heap.get?_push_size _ rfl, .inr ⟨rfl, _, _, rfl⟩, rfl, rfl⟩
  refine wpAny_mono (evalPairs_ok h (S.ext x1)) (fun vs s2 ⟨x2, q2⟩ => ?_) fun _ _ z => z
  have hS : sizeLine ≥ 100 := by decide +kernel
  refine wpAny_mono (storeAll_ok (by have := S.ok.room.units; omega) q2 (x2.reads x1.wf r1) (p1.ext x1.wf x2) (by simp; omega)) (fun _ s3 ⟨h3, tk, e, hs3, r3, p3⟩ => ?_) fun _ _ z => z
  subst e
  have x12 := x1.trans x2
  have hX : ¬ c.X D := by
    obtain ⟨oD, qD, lD, _⟩ := p1.ext x1.wf x2
    exact not_tab x2.wf qD (by rcases lD with ⟨q, _⟩ | ⟨q, _⟩ <;> rw [q] <;> nofun)
  refine ⟨⟨⟨fun b o hb q => (hs3.2 b (fun e => by rw [e, hn] at q; cases q)).trans (x12.up.kp b o hb q), fun b o q => ?_⟩, x2.wf.sameBut hs3 (S.ok.base.none (S.keep.none hn)) hX⟩, [D], r3, frOk S (by simp) (fun b hb => by rw [List.mem_singleton.mp hb]; exact hn) (fun b hb => by rw [List.mem_singleton.mp hb]; exact p3)⟩
  obtain ⟨o', q'⟩ := x12.up.th b o q
  exact ⟨o', (hs3.2 b (fun e => by rw [e, hn] at q; cases q)).trans q'⟩
end
section
variable {prog : Program} {w : World} {A : Around} {E : Value → Shared → Prop} {s : Shared}
theorem unpack_list2 {l : Addr} {v1 v2 : Value} {Q : List Value → Shared → Prop} (hh : A.handled = none) (hl : s.heap.IsList l #[v1, v2])
    (hQ : ∀ h' tk, (∀ b o, s.heap.get? b = some o → h'.get? b = some o) → Q [v1, v2] { s with heap := h', toks := tk }) : wpAny (model prog w) A (unpackItems (.ref l) 2 none) Q E s := by
  have hlt : l ≠ s.heap.objs.size := by obtain ⟨o, ho, _⟩ := hl; exact Nat.ne_of_lt (Heap.lt_size ho)
  have W := Walks.list (prog := prog) (w := w) hh s.heap.objs.size l hlt #[v1, v2]
  have kp : ∀ (h1 : Heap) {h2 : Heap}, (∀ b o, s.heap.get? b = some o → h1.get? b = some o) → (∀ b o, b ∉ [s.heap.objs.size] → h1.get? b = some o → h2.get? b = some o) → ∀ b o, s.heap.get? b = some o → h2.get? b = some o := fun h1 h2 k1 k2 b o e => k2 b o (fun q => absurd (List.mem_singleton.mp q) (Nat.ne_of_lt (Heap.lt_size e))) (k1 b o e)
  unfold unpackItems
  refine wpAny_bind ?_
  · unfold notIterableAtAll
    refine wpAny_bind (wpAny_specialOf hl.typeIs slot_list_iter.lookup ?_)
    refine wpAny_pure ?_
    simp only [Bool.false_eq_true, if_false]
    refine wpAny_bind (wpAny_holding (wpAny_pyIter_list hl ?_))
    refine wpAny_bind (wpAny_holding ?_)
    show wpAny _ _ (pyNext (.ref s.heap.objs.size) >>= _) _ _ _
    refine wpAny_bind (W.item 0 _ _ _ (by simp) ⟨⟨_, Heap.get?_push_size _ rfl, rfl, rfl⟩, hl.push _⟩ fun v h1 tk1 hP1 st1 hk1 => ?_)
    have k1 := kp _ (fun b o e => Heap.get?_push_of_some _ e) hk1
    cases hP1
    refine wpAny_bind (wpAny_holding ?_)
    show wpAny _ _ (pyNext (.ref s.heap.objs.size) >>= _) _ _ _
    refine wpAny_bind (W.item 1 _ _ _ (by simp) st1 fun v h2 tk2 hP2 st2 hk2 => ?_)
    have k2 := kp _ k1 hk2
    cases hP2
    refine wpAny_bind (wpAny_holding (wpAny_pure (wpAny_pure (wpAny_pure ?_))))
    rw [if_neg (by simp)]
    refine wpAny_bind (wpAny_holding (W.done _ _ _ st2 fun h3 tk3 hk3 => ?_))
    simp only [Option.isSome_none, Bool.false_eq_true, if_false]
    exact wpAny_pure (hQ h3 tk3 (kp _ k2 hk3))
end
section
variable {c : Cx} {f : Fm} {ρ ρ1 ρ2 : Rho} {Q : Fl → Rho → Prop} {rest : List Stmt} {e : Expr} {d1 d2 : PyData} {k : EK} {pos xp yp tp : Pos} {x y : Str} {i j n : Nat}
/-- x, y = e, a list of two flat items -/
theorem s_unpL (FS : FmS c f) (h : Ev c f ρ e (.list [d1, d2]) k) (hf1 : flat d1 = true) (hf2 : flat d2 = true) (hU1 : Upd f.xs ρ x (some ⟨.lo, d1⟩) ρ1 i) (hU2 : Upd f.xs ρ1 y (some ⟨.lo, d2⟩) ρ2 j) (hQ : Ex c f rest ρ2 Q)
    (hs : ∀ env, swapsWithSole [.Tuple [.Name x xp, .Name y yp] n tp] e pos.line env = pure false := by intro _; rfl)
    (hw : ∀ env, swappedStores [.Tuple [.Name x xp, .Name y yp] n tp] e env = pure none := by intro _; rfl) :
    Ex c f (.Assign [.Tuple [.Name x xp, .Name y yp] n tp] e pos :: rest) ρ Q := by
  obtain ⟨hx1, hi1, rfl⟩ := hU1.get
  obtain ⟨hx2, hi2, rfl⟩ := hU2.get
  refine ex_cons fun mo val fp s S => ?_
  refine Assign_Tuple (h.bind S fun v s1 as x1 S1 r1 ko => ?_) (hs _) (hw _)
  cases r1 with | list g1 g2 g3 g4 =>
  rename_i t o vs m bs
  have hsz : vs.size = 2 := by simpa using readsAll_length g4
  obtain ⟨v1, v2, hvs⟩ := two_of hsz
  have hvs' : vs = #[v1, v2] := by rw [← hvs]
  rw [hvs] at g4
  obtain _ | ⟨q1, q2⟩ := g4
  obtain _ | ⟨q2, q3⟩ := q2
  cases q3
  have w1 := q1
  have w2 := q2
  rw [reads_flat q1 hf1] at w1
  rw [reads_flat q2 hf2] at w2
  rw [assign_Tuple]
  refine wpAny_bind (wpAny_standAt ?_)
  unfold unpack
  refine wpAny_bind (wpAny_holding (unpack_list2 (v1 := v1) (v2 := v2) S.ok.room.hand ⟨_, g1, g2, _, by rw [g3, hvs']⟩ fun h' tk he => ?_))
  have x2 : Ext c s1 { s1 with heap := h', toks := tk } := Ext.of S1.wf he
  have S2 := S1.ext x2
  show wpAny _ _ (do holding [v2] (assign (.Name x xp) f.env v1); assignInOrder [assign (.Name y yp) f.env] [v2]) _ _ _
  refine wpAny_bind (wpAny_holding (wpAny_assign_Name ?_))
  refine store_step (sl := ⟨.lo, d1⟩) (as := []) FS S2 hx1 hi1 (x2.reads S1.wf w1) (by nofun) (fun a ha => by cases ha) fun s3 S3 hk3 th3 => ?_
  show wpAny _ _ (do holding [] (assign (.Name y yp) f.env v2); assignInOrder [] []) _ _ _
  refine wpAny_bind (wpAny_holding (wpAny_assign_Name ?_))
  refine store_step (sl := ⟨.lo, d2⟩) (as := []) FS S3 hx2 hi2 (reads_keep S2 hk3 (by nofun) (x2.reads S1.wf w2)) (by nofun) (fun a ha => by cases ha) fun s4 S4 hk4 th4 => ?_
  refine wpAny_pure ⟨.next, _, _, _, _, trivial, S4, ⟨fun b o g1 g2 _ q => hk4 b o g2 (hk3 b o g2 ((x1.trans x2).up.kp b o g1 q)), fun b o q => ?_, fun b q => .inl (moWith_not (sk := .lo) (by decide) (moWith_not (sk := .lo) (by decide) q))⟩, hQ⟩
  obtain ⟨o1, e1⟩ := (x1.trans x2).up.th b o q
  obtain ⟨o2, e2⟩ := th3 b o1 e1
  exact th4 b o2 e2
end
end Mine

set_option maxRecDepth 100000
namespace Mine
open PySem PySem.Spec PySem.Calls PyProof.Rows
/-! the keys of a dict, whatever they are -/
noncomputable def RawAt (h : Heap) (d : Addr) (es : Array DictEntry) (ep : Nat) : Prop := ∃ o, h.get? d = some o ∧ o.ExactDict ∧ o.data = .dict es ep
theorem RawAt.at {h h' : Heap} {d : Addr} {es : Array DictEntry} {ep : Nat} (x : RawAt h d es ep) (e : ∀ o, h.get? d = some o → h'.get? d = some o) : RawAt h' d es ep := let ⟨o, ho, r⟩ := x; ⟨o, e o ho, r⟩
theorem RawAt.lt {h : Heap} {d : Addr} {es : Array DictEntry} {ep : Nat} (x : RawAt h d es ep) : d < h.objs.size := let ⟨_, ho, _⟩ := x; Heap.lt_size ho
section
variable {prog : Program} {w : World} {A : Around} {E : Value → Shared → Prop} {s : Shared} {d it : Addr} {es : Array DictEntry} {ep i : Nat}
theorem RawAt.typeIs (x : RawAt s.heap d es ep) : s.TypeIs (.ref d) "dict" := let ⟨o, ho, hc, _⟩ := x; ⟨o, ho, hc.1⟩
theorem raw_iter {Q : Value → Shared → Prop} (hd : (d == sysModules) = false) (hm : RawAt s.heap d es ep)
    (hQ : Q (.ref s.heap.objs.size) { s with heap := s.heap.push { cls := .type "dict_keyiterator", data := .fields #[.ref d, .int 0 0, .int es.size 0, .int ep 0] } }) :
    wpAny (model prog w) A (pyIter (.ref d)) Q E s := by
  have hT := hm.typeIs
  obtain ⟨o, ho, hc, hdat⟩ := hm
  refine wpAny_pyIter_slot hT F.slot_dict_iter (wpAny_call_entry F.slot_dict_iter hT F.entry_dict_iter ?_ (F.args_dict_iter_1 _))
  unfold Builtin.«dict.__iter__»
  refine wpAny_bind ?_
  unfold Builtin.Dict.dictSlotNone
  refine wpAny_bind (wpAny_notOrdered_dict hT ?_)
  show wpAny _ _ (pure (Value.ref d)) _ _ s
  refine wpAny_pure ?_
  show wpAny _ _ (Builtin.Dict.showsAll d >>= _) _ _ s
  unfold Builtin.Dict.showsAll
  rw [if_neg (by rw [hd]; exact Bool.false_ne_true)]
  refine wpAny_bind (wpAny_pure (wpAny_bind (wpAny_dictEntries ho hdat (wpAny_bind (wpAny_dictEpoch ho hdat ?_)))))
  refine wpAny_bind (wpAny_newObj_type (wpAny_pure ⟨_, rfl, "dict_keyiterator", _, ⟨_, Heap.get?_push_size _ rfl, rfl⟩, F.slot_dict_keyiterator_next.lookup, ?_⟩))
  simpa [rawInt] using hQ
theorem raw_next {Q : Option Value → Shared → Prop} (hit : s.heap.IsKeyIter it d i es.size ep) (hm : RawAt s.heap d es ep) (hi : i < es.size)
    (hQ : ∀ h', h'.IsKeyIter it d (i + 1) es.size ep → Heap.SameBut it s.heap h' → Q (some es[i].key) { s with heap := h' }) : wpAny (model prog w) A (pyNext (.ref it)) Q E s := by
  obtain ⟨o, ho, hc, hd⟩ := id hit
  obtain ⟨od, hod, hcd, hdd⟩ := id hm
  unfold pyNext
  refine wpAny_bind (wpAny_attempt (wpAny_callSpecial?_slot (name := Str.ofString "__next__") hit.typeIs F.slot_dict_keyiterator_next
    (wpAny_call_entry F.slot_dict_keyiterator_next hit.typeIs F.entry_dict_keyiterator_next ?_ (F.args_dict_keyiterator_next_1 _))))
  refine wpAny_bind (wpAny_pure (wpAny_bind (wpAny_bind ?_)))
  first | refine wpAny_bind (wpAny_typeNameOfWhole_keyiter hit.typeIs (wpAny_pure ?_)) | refine wpAny_bind (wpAny_typeNameOf_keyiter hit.typeIs (wpAny_pure ?_))
  refine wpAny_bind (wpAny_fieldsOf ho hd ?_)
  have hown : Builtin.Dict_items.ownsTuple "dict_keyiterator" = false := by decide
  rw [if_neg (by rw [hown]; exact Bool.false_ne_true)]
  show wpAny _ _ (if (Value.ref d == Value.none) = true then _ else _) _ _ s
  rw [if_neg (show ¬ ((Value.ref d == Value.none) = true) from Bool.false_ne_true)]
  refine wpAny_bind (wpAny_pure (wpAny_bind (wpAny_dictEntries hod hdd ?_)))
  rw [if_neg (by simp)]
  refine wpAny_bind (wpAny_pure (wpAny_bind (wpAny_dictEpoch hod hdd ?_)))
  rw [if_neg (by simp)]
  refine wpAny_pure ?_
  dsimp only
  rw [if_neg (Int.not_lt.mpr (Int.natCast_nonneg i)), Int.toNat_natCast, Array.getElem?_eq_getElem hi]
  refine wpAny_bind ?_
  first | refine wpAny_bind (wpAny_typeNameOfWhole_keyiter hit.typeIs (wpAny_pure ?_)) | refine wpAny_bind (wpAny_typeNameOf_keyiter hit.typeIs (wpAny_pure ?_))
  refine wpAny_bind (wpAny_isOneOf_keyiter hit.typeIs ?_)
  show wpAny _ _ (setField (.ref it) 1 (rawInt ((i : Int) + 1)) >>= _) _ _ s
  refine wpAny_bind (wpAny_setField ho hd (by simp) ?_)
  have hit' : (s.heap.update it (Obj.mapFields (·.setIfInBounds 1 (rawInt ((i : Int) + 1))))).IsKeyIter it d (i + 1) es.size ep :=
    ⟨_, Heap.get?_update_self _ ho (Obj.isFreed_of_fields (Obj.data_mapFields hd _)), (Obj.cls_mapFields ..).trans hc, by rw [Obj.data_mapFields hd]; simp [rawInt]⟩
  refine wpAny_bind (wpAny_holding ?_)
  refine wpAny_bind (wpAny_isOneOf_keyiter (s := { s with heap := s.heap.update it (Obj.mapFields (·.setIfInBounds 1 (rawInt ((i : Int) + 1)))) }) hit'.typeIs ?_)
  show wpAny _ _ (pure es[i].key) _ _ _
  exact wpAny_pure (wpAny_pure ⟨_, rfl, wpAny_pure (hQ _ hit' (Heap.SameBut.update ..))⟩)
theorem raw_end {Q : Option Value → Shared → Prop} (hh : A.handled = none) (hit : s.heap.IsKeyIter it d i es.size ep) (hm : RawAt s.heap d es ep) (hi : es.size ≤ i)
    (hQ : ∀ h', Heap.ExtBut it s.heap h' → Q none { s with heap := h' }) : wpAny (model prog w) A (pyNext (.ref it)) Q E s := by
  obtain ⟨o, ho, hc, hd⟩ := id hit
  obtain ⟨od, hod, hcd, hdd⟩ := id hm
  unfold pyNext
  refine wpAny_bind (wpAny_attempt (wpAny_callSpecial?_slot (name := Str.ofString "__next__") hit.typeIs F.slot_dict_keyiterator_next
    (wpAny_call_entry F.slot_dict_keyiterator_next hit.typeIs F.entry_dict_keyiterator_next ?_ (F.args_dict_keyiterator_next_1 _))))
  refine wpAny_bind (wpAny_pure (wpAny_bind (wpAny_bind ?_)))
  first | refine wpAny_bind (wpAny_typeNameOfWhole_keyiter hit.typeIs (wpAny_pure ?_)) | refine wpAny_bind (wpAny_typeNameOf_keyiter hit.typeIs (wpAny_pure ?_))
  refine wpAny_bind (wpAny_fieldsOf ho hd ?_)
  have hown : Builtin.Dict_items.ownsTuple "dict_keyiterator" = false := by decide
  rw [if_neg (by rw [hown]; exact Bool.false_ne_true)]
  show wpAny _ _ (if (Value.ref d == Value.none) = true then _ else _) _ _ s
  rw [if_neg (show ¬ ((Value.ref d == Value.none) = true) from Bool.false_ne_true)]
  refine wpAny_bind (wpAny_pure (wpAny_bind (wpAny_dictEntries hod hdd ?_)))
  rw [if_neg (by simp)]
  refine wpAny_bind (wpAny_pure (wpAny_bind (wpAny_dictEpoch hod hdd ?_)))
  rw [if_neg (by simp)]
  refine wpAny_pure ?_
  dsimp only
  rw [if_neg (Int.not_lt.mpr (Int.natCast_nonneg i)), Int.toNat_natCast, Array.getElem?_eq_none hi]
  refine wpAny_bind ?_
  first | refine wpAny_bind (wpAny_typeNameOfWhole_keyiter hit.typeIs (wpAny_pure ?_)) | refine wpAny_bind (wpAny_typeNameOf_keyiter hit.typeIs (wpAny_pure ?_))
  show wpAny _ _ (setField (.ref it) 0 .none >>= _) _ _ s
  refine wpAny_bind (wpAny_setField ho hd (by simp) ?_)
  show wpAny _ _ (newExc (.type "StopIteration") [] >>= _) _ _ _
  refine wpAny_bind ?_
  simp only [newExc, newTuple]
  refine wpAny_bind (wpAny_newObj_type ?_ (by size_fits))
  refine wpAny_bind (m := firstArgMember _ _) (wpAny_of_eq (a := Value.none) (by first | rfl | (simp only [firstArgMember]; rfl)) ?_)
  refine wpAny_newObj_type ?_ (by size_fits)
  unfold raiseNew
  refine wpAny_bind (wpAny_handled ?_)
  rw [show A.in1.handled = none from hh]
  refine wpAny_bind (wpAny_pure (wpAny_throw ?_))
  refine wpAny_bind (wpAny_isInstance (T := "StopIteration") (b := true) ⟨_, Heap.get?_push_size _ rfl, rfl⟩ isSubtype_stop ?_)
  exact wpAny_pure (hQ _ (((Heap.SameBut.update ..).extBut.push _).push _))
theorem walks_raw (hh : A.handled = none) (I d : Addr) (hne : d ≠ I) (es : Array DictEntry) (ep : Nat) :
    Walks prog w A I [I, d] [I] es.size (fun i v => ∃ e, es[i]? = some e ∧ v = e.key) (fun i h => h.IsKeyIter I d i es.size ep ∧ RawAt h d es ep) where
  sub := fun b hb => by simp at hb; simp [hb]
  frame := fun _ _ _ st hk => ⟨st.1.at fun o e => hk I (by simp) o e, st.2.at fun o e => hk d (by simp) o e⟩
  item := fun i s Q E hi st hQ => raw_next st.1 st.2 hi fun h' hit' hs' =>
    hQ _ h' s.toks ⟨_, Array.getElem?_eq_getElem hi, rfl⟩ ⟨hit', st.2.at fun o e => (hs'.2 d hne).trans e⟩ fun b o hb e => hs'.extBut b o (fun h => hb (by simp [h])) e
  done := fun s Q E st hQ => raw_end hh st.1 st.2 (Nat.le_refl _) fun h' he' => hQ h' s.toks fun b o hb e => he' b o (fun h => hb (by simp [h])) e
  self := fun _ _ _ _ st hQ => wpAny_pyIter_keyiter st.1 hQ
theorem src_raw (lo : (d == sysModules) = false) : PySem.W.KdlSrc prog w "dict" d d es.size (fun i v => ∃ e, es[i]? = some e ∧ v = e.key) (fun h => RawAt h d es ep) where
  type := fun _ hm => hm.typeIs
  there := fun _ hm => ⟨hm.lt, hm.lt⟩
  keep := fun _ _ hm hk => hm.at fun o e => hk d (.inl rfl) o e
  notList := by decide
  notTuple := by decide
  hint := fun _ _ _ _ hm hq => PySem.W.kdl_hint_dict hm.typeIs hq
  iter := fun _ _ hh hm => ⟨_, _, (fun _ _ hq => raw_iter lo hm hq), walks_raw hh _ d (Nat.ne_of_lt hm.lt) es ep, ⟨⟨_, Heap.get?_push_size _ rfl, rfl, rfl⟩, hm.at fun _ e => Heap.get?_push_of_some _ e⟩⟩
end
end Mine

set_option maxRecDepth 100000
namespace Mine
open PySem PySem.Spec PySem.Calls PyProof.Rows
/-! sorted(..) of pairs of ints -/
noncomputable def runP {α : Type} (lt : Nat → Nat → Bool) : W.KasT α → α
  | .ret p => p
  | .ask i j k => runP lt (k (lt i j))
noncomputable def okP (n : Nat) (lt : Nat → Nat → Bool) : W.KasT (Array Nat) → Bool
  | .ret p => p.toList.all (fun i => decide (i < n)) && decide (p.toList.length ≤ 1000)
  | .ask i j k => decide (i < n) && decide (j < n) && okP n lt (k (lt i j))
theorem okP_spec {n : Nat} {lt : Nat → Nat → Bool} : ∀ (t : W.KasT (Array Nat)), okP n lt t = true → (∀ i ∈ (runP lt t).toList, i < n) ∧ (runP lt t).toList.length ≤ 1000
  | .ret p, h => by
    unfold okP at h
    simp only [Bool.and_eq_true, List.all_eq_true, decide_eq_true_eq] at h
    exact h
  | .ask i j k, h => by
    unfold okP at h
    simp only [Bool.and_eq_true] at h
    exact okP_spec (k (lt i j)) h.2
theorem kasWp_path {n : Nat} {lt : Nat → Nat → Bool} {cmp : Nat → Nat → (Bool → Shared → Prop) → Shared → Prop} {s : Shared} (hc : ∀ i j C, i < n → j < n → C (lt i j) s → cmp i j C s) {Q : Array Nat → Shared → Prop} : ∀ (t : W.KasT (Array Nat)), okP n lt t = true → Q (runP lt t) s → W.KasT.kasWp cmp t Q s
  | .ret p, _, hQ => hQ
  | .ask i j k, h, hQ => by
    unfold okP at h
    simp only [Bool.and_eq_true, decide_eq_true_eq] at h
    show cmp i j (fun b s' => W.KasT.kasWp cmp (k b) Q s') s
    exact hc i j _ h.1.1 h.1.2 (kasWp_path hc (k (lt i j)) h.2 hQ)
noncomputable abbrev g2 (ts : List T2) (i : Nat) : T2 := ts.getD i (0, 0)
noncomputable def lt2 (a b : T2) : Bool := if a.1 = b.1 then decide (a.2 < b.2) else decide (a.1 < b.1)
noncomputable def srt2 (ts : List T2) : List T2 := (runP (fun i j => lt2 (g2 ts i) (g2 ts j)) (W.kas_sort ts.length)).toList.map (g2 ts)
theorem g2_get {ts : List T2} {i : Nat} (h : i < ts.length) : ts[i]? = some (g2 ts i) := by
  rw [g2, List.getD_eq_getElem?_getD, List.getElem?_eq_getElem h]; rfl
section
variable {c : Cx} {n : Nat}
theorem pair_at {h : Heap} {v : Value} {t : T2} {as : List Addr} (r : Reads h v (encP2 t) as) : ∃ a o xs m t1 t2, v = .ref a ∧ h.get? a = some o ∧ o.cls = .type "tuple" ∧ o.data = .seq xs m ∧ xs.toList = [.int t.1 t1, .int t.2 t2] := by
  obtain ⟨a, t1, t2, rfl, o, g1, g2, m, g3⟩ := rd_pair r
  exact ⟨a, o, _, m, t1, t2, rfl, g1, g2, g3, rfl⟩
theorem pair_lt {prog : Program} {w : World} {A : Around} {E : Value → Shared → Prop} {s : Shared} {v1 v2 : Value} {a b : T2} {as bs : List Addr} (r1 : Reads s.heap v1 (encP2 a) as) (r2 : Reads s.heap v2 (encP2 b) bs) {Q : Bool → Shared → Prop} (hQ : Q (lt2 a b) s) :
    wpAny (model prog w) A (keyLt' (tuples' true) v1 v2) Q E s := by
  obtain ⟨x, ox, xs, m, t1, t2, rfl, g1, g2, g3, hl⟩ := pair_at r1
  obtain ⟨y, oy, ys, m', u1, u2, rfl, g1', g2', g3', hl'⟩ := pair_at r2
  refine W.kat_lt g1 g3 g1' g3' ?_
  have e1 : xs.size = 2 := by rw [← Array.length_toList, hl]; rfl
  have e2 : ys.size = 2 := by rw [← Array.length_toList, hl']; rfl
  rw [hl, hl', e1, e2]
  unfold lt2 at hQ
  refine W.kat_cons (wpAny_eqBool_int ?_)
  by_cases q1 : a.1 = b.1
  · rw [if_pos q1] at hQ
    rw [beq_iff_eq.mpr q1]
    refine W.kat_yes (W.kat_cons (wpAny_eqBool_int ?_))
    by_cases q2 : a.2 = b.2
    · rw [beq_iff_eq.mpr q2]
      refine W.kat_yes (W.kat_nil ?_)
      rw [q2, decide_eq_false (Int.lt_irrefl _)] at hQ
      exact hQ
    · rw [beq_eq_false_iff_ne.mpr q2]
      exact W.kat_no (W.kat_one _ _ (P.lt_int hQ))
  · rw [if_neg q1] at hQ
    rw [beq_eq_false_iff_ne.mpr q1]
    exact W.kat_no (oneLt_int hQ)
theorem readsAll_idx {h : Heap} {fv : Nat → Value} {fd : Nat → PyData} : ∀ l : List Nat, (∀ i ∈ l, Reads h (fv i) (fd i) []) → ReadsAll h (l.map fv) (l.map fd) []
  | [], _ => .nil
  | i :: l, H => .cons (as := []) (H i (List.mem_cons_self ..)) (readsAll_idx l fun j hj => H j (List.mem_cons_of_mem _ hj))
theorem readsAll_at0 {h : Heap} {vs : List Value} {ds : List PyData} (r : ReadsAll h vs ds []) {i : Nat} {d : PyData} (hd : ds[i]? = some d) : Reads h (vs.getD i .none) d [] := by
  obtain ⟨v, bs, q1, q2, q3⟩ := readsAll_item r hd
  rw [List.getD_eq_getElem?_getD, q1, Option.getD_some]
  rw [List.sublist_nil.mp q3] at q2
  exact q2
theorem tups2_of {h : Heap} {ts : List T2} : ∀ {vs : List Value} {as : List Addr}, ReadsAll h vs (ts.map encP2) as → ∃ fs, W.KatTups h vs fs ∧ fs.length = vs.length ∧ ∀ v ∈ fs, ∃ i t, v = .int i t := by
  induction ts with
  | nil => intro vs as r; rw [rd_nil r]; exact ⟨[], W.KatTups.nil, rfl, nomem⟩
  | cons t ts ih =>
    intro vs as r
    obtain ⟨w, ws, bs, cs, rfl, r1, r2⟩ := rd_cons r
    obtain ⟨fs, h1, h2, h3⟩ := ih r2
    obtain ⟨a, o, xs, m, t1, t2, rfl, g1, g2, g3, hl⟩ := pair_at r1
    refine ⟨.int t.1 t1 :: fs, W.KatTups.cons g1 g2 g3 (by rw [← Array.getElem?_toList, hl]; rfl) h1, congrArg (· + 1) h2, fun v hv => ?_⟩
    rcases List.mem_cons.mp hv with rfl | hv
    · exact ⟨_, _, rfl⟩
    · exact h3 v hv
theorem sort_pair {A : Around} {s : Shared} {E : Value → Shared → Prop} {Q : Value → Shared → Prop} {D : Addr} {vs : List Value} {ts : List T2} {m : Nat} (hD : s.heap.get? D = some { cls := .type "list", data := .seq vs.toArray m }) (rs : ReadsAll s.heap vs (ts.map encP2) []) (hlen : ts.length ≤ 20) (h2 : 2 ≤ ts.length) (hok : okP ts.length (fun i j => lt2 (g2 ts i) (g2 ts j)) (W.kas_sort ts.length) = true)
    (hQ : ∀ h' vs' m', (∀ b o, b ≠ D → s.heap.get? b = some o → h'.get? b = some o) → h'.get? D = some { cls := .type "list", data := .seq vs'.toArray m' } → ReadsAll h' vs' ((srt2 ts).map encP2) [] → Q .none { s with heap := h' }) :
    wpAny c.M A (call (.builtin "list.sort") [.ref D]) Q E s := by
  have hl : vs.length = ts.length := by simpa using readsAll_length rs
  refine wpAny_call_entry F.slot_list_sort ⟨_, hD, rfl⟩ F.entry_list_sort ?_ (args_list_sort _)
  rw [list_sort_plain]
  refine wpAny_bind (listItems_at hD rfl (wpAny_bind (listUpdate_at hD rfl ?_ (by simp [sizeLine]; omega) (by simp))))
  generalize hh1 : s.heap.update D (Obj.mapSeq fun x => #[]) = h1
  obtain ⟨e1, hD1⟩ : ∃ e1, h1.get? D = some { cls := .type "list", data := .seq #[] e1 } := ⟨_, by rw [← hh1]; exact Heap.get?_update_self _ hD rfl⟩
  have k1 : ∀ b o, b ≠ D → s.heap.get? b = some o → h1.get? b = some o := fun b o hb q => by rw [← hh1, Heap.get?_update_ne _ _ _ _ hb]; exact q
  refine wpAny_bind (seqEpoch_at hD1 rfl (wpAny_bind (wpAny_newTuple (wpAny_bind (wpAny_newList ?_ (by simp))) (by simp [sizeLine]; omega))))
  generalize hh3 : (h1.push { cls := .type "tuple", data := .seq vs.toArray.toList.toArray }).push { cls := .type "list", data := .seq ([] : List Value).toArray } = h3
  have hh3' : ((({ s with heap := h1 } : Shared).heap.push { cls := .type "tuple", data := .seq vs.toArray.toList.toArray }).push { cls := .type "list", data := .seq ([] : List Value).toArray }) = h3 := hh3
  have k3 : ∀ b o, h1.get? b = some o → h3.get? b = some o := fun b o q => by rw [← hh3]; exact Heap.get?_push_of_some _ (Heap.get?_push_of_some _ q)
  have hD3 := k3 _ _ hD1
  have rs3 : ReadsAll h3 vs (ts.map encP2) [] := readsAll_upon rs (fun _ hb => nomatch hb) (fun b o q ht _ => k3 b o (k1 b o (fun e => by rw [e, hD] at q; cases q; simp at ht) q))
  refine wpAny_holding ?_
  change wpAny (model c.prog c.w) A.in1 _ _ _ { s with heap := h3 }
  have tail : ∀ (vs' : List Value), ReadsAll h3 vs' ((srt2 ts).map encP2) [] → Q .none { s with heap := h3.update D (Obj.mapSeq fun x => vs'.toArray) } := by
    intro vs' hr
    generalize hh4 : h3.update D (Obj.mapSeq fun x => vs'.toArray) = h4
    obtain ⟨e2, hD4⟩ : ∃ e2, h4.get? D = some { cls := .type "list", data := .seq vs'.toArray e2 } := ⟨_, by rw [← hh4]; exact Heap.get?_update_self _ hD3 rfl⟩
    have k4 : ∀ b o, b ≠ D → h3.get? b = some o → h4.get? b = some o := fun b o hb q => by rw [← hh4, Heap.get?_update_ne _ _ _ _ hb]; exact q
    refine hQ h4 vs' e2 (fun b o hb q => k4 b o hb (k3 b o (k1 b o hb q))) hD4 ?_
    exact readsAll_upon hr (fun _ hb => nomatch hb) (fun b o q ht _ => k4 b o (fun e => by rw [e, hD3] at q; cases q; simp at ht) q)
  show wpAny _ _ (if vs.toArray.size < 2 then _ else _) _ _ _
  have hsz : ¬ vs.toArray.size < 2 := by simp [hl]; omega
  rw [if_neg hsz]
  obtain ⟨fs, t1, t2, t3⟩ := tups2_of rs3
  refine wpAny_bind (W.kat_kind (T := .type "int") t1 (by omega) (fun v hv => ?_) (by rfl) ?_)
  · obtain ⟨i, t, rfl⟩ := t3 v hv
    exact fun A Q E s _ hQ => wpAny_pure hQ
  rw [if_neg hsz]
  refine wpAny_bind (wpAny_mono (W.kat_run (vs := vs) (ks := vs) (κ := tuples' true) (Q := fun st s' => s' = { s with heap := h3 } ∧ failedOf st = none ∧ (arrOf st).map (fun x => x.snd) = ((runP (fun i j => lt2 (g2 ts i) (g2 ts j)) (W.kas_sort ts.length)).toList.map fun i => vs.getD i .none).toArray)
    (G := fun p s' => p = runP (fun i j => lt2 (g2 ts i) (g2 ts j)) (W.kas_sort ts.length) ∧ s' = { s with heap := h3 }) rfl (by omega) (by omega) (fun p st' s' hp ha hf hG => ⟨hG.2, hf, ?_⟩) ?_) (fun r s' hr => ?_) fun _ _ z => z)
  · rw [ha, ← hG.1]
    rw [Array.map_map]
    rw [← Array.toArray_toList (xs := Array.map _ p), Array.toList_map]
    congr 1
    refine List.map_congr_left fun i _ => ?_
    show (W.kas_item (vs.toArray.zip vs.toArray) i).2 = _
    rw [W.kat_item rfl]
  · rw [hl]
    refine kasWp_path (n := ts.length) (lt := fun i j => lt2 (g2 ts i) (g2 ts j)) (fun i j C hi hj hC => ?_) _ hok ⟨rfl, rfl⟩
    exact pair_lt (s := { s with heap := h3 }) (readsAll_at0 rs3 (by rw [List.getElem?_map, g2_get hi]; rfl)) (readsAll_at0 rs3 (by rw [List.getElem?_map, g2_get hj]; rfl)) hC
  · obtain ⟨⟨⟩, st⟩ := r
    obtain ⟨rfl, hf, ha⟩ := hr
    obtain ⟨b3, b4⟩ := okP_spec _ hok
    refine wpAny_bind (seqEpoch_at hD3 rfl (wpAny_bind (listUpdate_at hD3 rfl ?_ (by simp) ?_)))
    · generalize failedOf st = fo at hf
      subst hf
      show wpAny _ _ (if (e1 != e1) = true then _ else _) _ _ _
      rw [if_neg (by simp)]
      refine wpAny_pure ⟨_, rfl, ?_⟩
      show Q .none { s with heap := h3.update D (Obj.mapSeq fun x => (arrOf st).map (fun x => x.snd)) }
      rw [ha]
      refine tail _ ?_
      rw [srt2, List.map_map]
      exact readsAll_idx _ fun i hi => readsAll_at0 rs3 (by rw [List.getElem?_map, g2_get (b3 i hi)]; rfl)
    · show ((arrOf st).map (fun x => x.snd)).size ≤ _
      rw [ha, List.size_toArray, List.length_map]
      exact Nat.le_trans b4 (by decide +kernel)
/-- sorted(d), d a dict with pairs of ints as keys -/
theorem vc_sortedP {ps : List (List Int × Int)} {ts : List T2} (hk : ps.map (·.1) = ts.map fun t => [t.1, t.2]) (hlen : ts.length ≤ 20) (h2 : 2 ≤ ts.length) (hok : okP ts.length (fun i j => lt2 (g2 ts i) (g2 ts j)) (W.kas_sort ts.length) = true) :
    VC c n (.builtin "sorted") [dD ps] (.list ((srt2 ts).map encP2)) := fun A s vals ass E R W r => by
  cases r with | cons r1 r2 =>
  cases r2
  obtain ⟨a, xs, rfl, rfl, hsm, hm, hk2, hk3⟩ := reads_dict r1
  obtain ⟨o, es, ep, g1, g2', g3, g4, g5, g6⟩ := hm c.prog c.w
  have hkk : xs.map (·.1) = ts.map fun t => [t.1, t.2] := hk2.trans hk
  have hlx : xs.length = ts.length := by have := congrArg List.length hkk; simpa using this
  have hes : es.size = ts.length := by rw [← Array.length_toList, g4, List.length_map, hlx]
  refine Calls.call_function_entry kind_sorted plain_sorted entry_sorted (args_sorted1 _) ?_
  unfold Builtin.sorted
  refine wpAny_bind (wpAny_of_eq (show checkCount "sorted" 1 1 1 = pure () from rfl) ?_)
  refine wpAny_bind (PySem.W.kdu_collect (src_raw hsm) R.hand (⟨o, g1, g2', g3⟩ : RawAt s.heap a es ep) (by rw [hes]; simp [sizeLine]; omega) fun h1 tk acc k1 hI => ?_)
  obtain ⟨hI1, hI2⟩ := hI
  refine wpAny_bind (wpAny_newList ?_ (by simp [sizeLine]; omega))
  have hDs : s.heap.get? h1.objs.size = none := by
    cases q : s.heap.get? h1.objs.size with
    | none => rfl
    | some o' => exact absurd (Heap.lt_size (k1 _ _ q)) (Nat.lt_irrefl _)
  have x1 : Ext c s { s with heap := h1.push { cls := .type "list", data := .seq acc.toList.toArray }, toks := tk } := Ext.of W fun b o q => Heap.get?_push_of_some _ (k1 b o q)
  have rs : ReadsAll s.heap acc.toList (ts.map encP2) [] := by
    have e1 : acc.toList = (List.range ts.length).map fun i => acc.toList.getD i .none := by
      refine List.ext_getElem (by simp; omega) fun i h1 h2 => ?_
      rw [List.getElem_map, List.getElem_range, List.getD_eq_getElem?_getD, List.getElem?_eq_getElem h1, Option.getD_some]
    have e2 : ts.map encP2 = (List.range ts.length).map fun i => encP2 (g2 ts i) := by
      refine List.ext_getElem (by simp) fun i h1 h2 => ?_
      rw [List.getElem_map, List.getElem_map, List.getElem_range]
      have hi : i < ts.length := by simpa using h1
      have := g2_get hi
      rw [List.getElem?_eq_getElem hi] at this
      rw [Option.some.inj this]
    rw [e1, e2]
    refine readsAll_idx _ fun i hi => ?_
    have hi : i < ts.length := by simpa using hi
    have ha : acc.toList[i]? = some (acc.toList.getD i .none) := by rw [List.getD_eq_getElem?_getD, List.getElem?_eq_getElem (by simp; omega)]; rfl
    obtain ⟨e, q1, q2⟩ := hI2 i _ (by rw [← Array.getElem?_toList]; exact ha)
    rw [q2]
    have q1' : es.toList[i]? = some e := by rw [Array.getElem?_toList]; exact q1
    rw [g4, List.getElem?_map] at q1'
    obtain ⟨y, hy⟩ : ∃ y, xs[i]? = some y := ⟨_, List.getElem?_eq_getElem (by omega)⟩
    rw [hy] at q1'
    cases q1'
    have hky : y.1 = [(g2 ts i).1, (g2 ts i).2] := by
      have a1 : (xs.map (·.1))[i]? = some y.1 := by rw [List.getElem?_map, hy]; rfl
      rw [hkk, List.getElem?_map, g2_get hi] at a1
      exact (Option.some.inj a1).symm
    obtain ⟨o', items, m, k1', k2', k3', k4'⟩ := g5 y (List.mem_of_getElem? hy)
    rw [hky] at k4'
    refine .tuple k1' k2' k3' ?_
    generalize items.toList = l at k4'
    cases k4' with | cons i1 k4' =>
    cases k4' with | cons i2 k4' =>
    cases k4'
    obtain ⟨t1, rfl⟩ := Value.isInt_shape i1
    obtain ⟨t2, rfl⟩ := Value.isInt_shape i2
    exact .cons (as := []) (.int _ _) (.cons (as := []) (.int _ _) .nil)
  refine wpAny_bind (wpAny_holding (sort_pair (s := { s with heap := h1.push { cls := .type "list", data := .seq acc.toList.toArray }, toks := tk }) (D := h1.objs.size) (Heap.get?_push_size _ rfl) (x1.readsAll W rs) hlen h2 hok fun h' vs' m' hk hD hr => ?_))
  refine wpAny_pure ⟨_, rfl, ?_⟩
  have x2 : Ext c s { s with heap := h', toks := tk } := Ext.of W fun b o q => hk b o (fun e => by rw [e, hDs] at q; cases q) (Heap.get?_push_of_some _ (k1 b o q))
  refine ⟨x2, [h1.objs.size], .list hD rfl rfl (by simpa using hr), by simp, fun b hb => ?_, fun b hb => ?_⟩
  · rw [List.mem_singleton.mp hb]; exact hDs
  · rw [List.mem_singleton.mp hb]; exact ⟨_, hD, .inl ⟨rfl, _, _, rfl⟩, rfl, rfl⟩
end
end Mine

set_option maxRecDepth 100000
namespace Mine
open PySem
noncomputable abbrev tI (a : Int) : Str := Str.ofString (toString a)
noncomputable def valS (v : Int) : Str := Str.empty ++ Str.ofString "value " ++ tI v
noncomputable def pipeS (u v w : Int) : Str := Str.empty ++ tI u ++ Str.ofString " -> " ++ tI v ++ Str.ofString ": " ++ tI w
noncomputable def cutS (a b : Str) : Str := Str.ofString "cut: " ++ a ++ Str.ofString " | " ++ b
noncomputable abbrev spc4 : Str := Str.ofString " "
noncomputable def jn4 (n : Nat) (p : Nat → Bool) : Str := Str.join spc4 (((List.range n).filter p).map fun (i : Nat) => tI i)
/-! tables by pairs of points -/
noncomputable def tabL (F : Tb) (l : List (Nat × Nat)) : List (List Int × Int) := l.map fun e => ([(e.1 : Int), (e.2 : Int)], F e.1 e.2)
theorem key_eq {a b u v : Nat} : ([(u : Int), (v : Int)] = [(a : Int), (b : Int)]) ↔ (u, v) = (a, b) := by
  simp only [List.cons.injEq, and_true, Prod.mk.injEq]; omega
theorem dfind_tab {F : Tb} {a b : Nat} : ∀ {l : List (Nat × Nat)}, (a, b) ∈ l → dfind (tabL F l) [(a : Int), (b : Int)] = some (F a b)
  | [], h => by cases h
  | e :: l, h => by
    unfold dfind tabL
    rw [List.map_cons, List.find?_cons]
    by_cases q : e = (a, b)
    · rw [decide_eq_true (by rw [q])]; rw [q]; rfl
    · rw [decide_eq_false (fun k => q (key_eq.mp k))]
      exact dfind_tab ((List.mem_cons.mp h).resolve_left fun k => q k.symm)
theorem dfind_tabN {F : Tb} {a b : Nat} : ∀ {l : List (Nat × Nat)}, (a, b) ∉ l → dfind (tabL F l) [(a : Int), (b : Int)] = none
  | [], h => rfl
  | e :: l, h => by
    unfold dfind tabL
    rw [List.map_cons, List.find?_cons, decide_eq_false (fun k => h (by rw [← key_eq.mp k]; exact List.mem_cons_self ..))]
    exact dfind_tabN fun k => h (List.mem_cons_of_mem _ k)
theorem dput_tab {F : Tb} {a b : Nat} {x : Int} {l : List (Nat × Nat)} (h : (a, b) ∈ l) : dput (tabL F l) [(a : Int), (b : Int)] x = tabL (fun u v => if u = a ∧ v = b then x else F u v) l := by
  unfold dput
  rw [dfind_tab h, if_pos (by rfl)]
  unfold tabL
  rw [List.map_map]
  refine List.map_congr_left fun e _ => ?_
  simp only [Function.comp]
  by_cases q : e.1 = a ∧ e.2 = b
  · rw [if_pos (by rw [q.1, q.2]), if_pos q]
  · rw [if_neg (fun k => q (by simpa using key_eq.mp k)), if_neg q]
theorem puts_tab2 {F : Tb} : ∀ (l2 l1 : List (Nat × Nat)), (l1 ++ l2).Nodup → (tabL F l2).foldl dput1 (tabL F l1) = tabL F (l1 ++ l2)
  | [], l1, _ => by rw [List.append_nil]; rfl
  | e :: l2, l1, h => by
    have hn : (e.1, e.2) ∉ l1 := fun k => by
      rw [List.nodup_append] at h
      exact h.2.2 e k e (List.mem_cons_self ..) rfl
    have e1 : dput1 (tabL F l1) ([(e.1 : Int), (e.2 : Int)], F e.1 e.2) = tabL F (l1 ++ [e]) := by
      show dput _ _ _ = _
      unfold dput
      rw [dfind_tabN hn]
      show (if (none : Option Int).isSome = true then _ else _) = _
      rw [if_neg (by decide)]
      unfold tabL
      rw [List.map_append]; rfl
    have e2 : tabL F (e :: l2) = ([(e.1 : Int), (e.2 : Int)], F e.1 e.2) :: tabL F l2 := rfl
    rw [e2, List.foldl_cons, e1, puts_tab2 l2 (l1 ++ [e]) (by simpa using h)]
    simp
theorem puts_tab {F : Tb} {l : List (Nat × Nat)} (h : l.Nodup) : (tabL F l).foldl dput1 [] = tabL F l := by
  exact puts_tab2 (F := F) l [] h
theorem tab_congr {F F' : Tb} {l : List (Nat × Nat)} (h : ∀ e ∈ l, F e.1 e.2 = F' e.1 e.2) : tabL F l = tabL F' l := List.map_congr_left fun e he => by rw [h e he]
noncomputable def prs4 : List (Nat × Nat) := (List.range 4).flatMap fun u => (List.range 4).map fun v => (u, v)
theorem prs4_mem {u v : Nat} : (u, v) ∈ prs4 ↔ u < 4 ∧ v < 4 := by
  simp [prs4]
noncomputable def keysN (s t p q : Nat) : List (Nat × Nat) := [(s, t), (s, p), (p, t), (s, q), (q, t), (p, q), (q, p)]
noncomputable abbrev toP (e : Nat × Nat) : T2 := ((e.1 : Int), (e.2 : Int))
noncomputable abbrev keysS (s t p q : Nat) : List (Nat × Nat) := prs4.filter fun e => decide (e ∈ keysN s t p q)
theorem keys_sort0 : (goods4.all fun g => okP 7 (fun i j => lt2 (g2 ((keysN g.1 g.2.1 g.2.2.1 g.2.2.2).map toP) i) (g2 ((keysN g.1 g.2.1 g.2.2.1 g.2.2.2).map toP) j)) (W.kas_sort 7)
    && decide (srt2 ((keysN g.1 g.2.1 g.2.2.1 g.2.2.2).map toP) = (keysS g.1 g.2.1 g.2.2.1 g.2.2.2).map toP) && decide ((keysN g.1 g.2.1 g.2.2.1 g.2.2.2).Nodup)) = true := by decide +kernel
section
variable {n s t p q : Nat} {C : Tb}
theorem keys_sort (G : Gd n s t p q) : okP 7 (fun i j => lt2 (g2 ((keysN s t p q).map toP) i) (g2 ((keysN s t p q).map toP) j)) (W.kas_sort 7) = true ∧ srt2 ((keysN s t p q).map toP) = (keysS s t p q).map toP ∧ (keysN s t p q).Nodup := by
  have h := List.all_eq_true.mp keys_sort0 _ G.four
  simp only [Bool.and_eq_true, decide_eq_true_eq] at h
  exact ⟨h.1.1, h.1.2, h.2⟩
/-! the pipes -/
theorem range_filter {m n : Nat} (h : n ≤ m) {P : Nat → Bool} (hp : ∀ v, n ≤ v → P v = false) : (List.range m).filter P = (List.range n).filter P := by
  induction m with
  | zero => rw [show n = 0 by omega]
  | succ m ih =>
    by_cases q : n = m + 1
    · rw [q]
    · rw [List.range_succ, List.filter_append, ih (by omega), List.filter_cons, if_neg (by rw [hp m (by omega)]; decide)]; simp
theorem range_flat {α : Type} {m n : Nat} (h : n ≤ m) {f : Nat → List α} (hp : ∀ v, n ≤ v → f v = []) : (List.range m).flatMap f = (List.range n).flatMap f := by
  induction m with
  | zero => rw [show n = 0 by omega]
  | succ m ih =>
    by_cases q : n = m + 1
    · rw [q]
    · rw [List.range_succ, List.flatMap_append, ih (by omega)]; simp [hp m (by omega)]
noncomputable def pipesP (n : Nat) (F : Tb) : List Str := (List.range n).flatMap fun (u : Nat) => ((List.range n).filter fun (v : Nat) => F u v != 0).map fun (v : Nat) => pipeS u v (F u v)
theorem pipes_eq {F : Tb} (hz : Zo n F) (hn : n ≤ 4) : pipesP n F = (prs4.filter fun e => F e.1 e.2 != 0).map fun e => pipeS e.1 e.2 (F e.1 e.2) := by
  have e1 : pipesP n F = pipesP 4 F := by
    unfold pipesP
    have hf : ∀ u, ((List.range 4).filter fun (v : Nat) => F u v != 0) = (List.range n).filter fun (v : Nat) => F u v != 0 := fun u => range_filter hn fun v hv => by rw [hz u v (.inr hv)]; rfl
    simp only [hf]
    refine (range_flat hn fun u hu => ?_).symm
    rw [List.map_eq_nil_iff, List.filter_eq_nil_iff]
    intro v _
    rw [hz u v (.inl hu)]; decide
  rw [e1]
  unfold pipesP prs4
  rw [List.filter_flatMap, List.map_flatMap]
  refine congrArg (fun f => (List.range 4).flatMap f) (funext fun u => ?_)
  rw [List.filter_map, List.map_map]; rfl

noncomputable abbrev flw (C R : Tb) : Tb := fun u v => max (C u v - R u v) 0
noncomputable abbrev FlK (n s t : Nat) (C : Tb) : Tb := flw C (mfR n s t ((sm n (C s)).toNat + 1) C)
noncomputable abbrev vsum (C : Tb) (s t p q : Nat) : Int := C s t + (vals C s t p q).sp + (vals C s t p q).sq + (vals C s t p q).x + (vals C s t p q).y
/-- the end of the search for ways -/
structure Fin4 (n s t p q : Nat) (C R : Tb) : Prop where
  G : Gd n s t p q
  hz : Zo n C
  h0 : ∀ u v, 0 ≤ C u v
  F : FI C R n s t
  S : Stt n R s t p q 0 (C s p - (vals C s t p q).sp - (vals C s t p q).x) (C p t - (vals C s t p q).sp - (vals C s t p q).y) (C s q - (vals C s t p q).sq - (vals C s t p q).y) (C q t - (vals C s t p q).sq - (vals C s t p q).x)
      (C p q - (vals C s t p q).x + (vals C s t p q).y) (C q p + (vals C s t p q).x - (vals C s t p q).y) (sm n (C s) - C s t - (vals C s t p q).sp - (vals C s t p q).sq - (vals C s t p q).x - (vals C s t p q).y)
theorem Fin4.of (G : Gd n s t p q) (hz : Zo n C) (h0 : ∀ u v, 0 ≤ C u v) : Fin4 n s t p q C (mfR n s t ((sm n (C s)).toNat + 1) C) :=
  ⟨G, hz, h0, (mfR_end G.ne.1 _ C (FI.init fun u v _ _ => h0 u v) (toK _)).1, mf_end G hz h0 (toK _)⟩
variable {R : Tb}
theorem Fin4.sym (X : Fin4 n s t p q C R) (u v : Nat) : R u v + R v u = C u v + C v u := by
  by_cases h : u < n ∧ v < n
  · exact X.F.sym u v h.1 h.2
  · have h1 : n ≤ u ∨ n ≤ v := (Nat.lt_or_ge u n).elim (fun k => .inr (Nat.le_of_not_lt fun q => h ⟨k, q⟩)) .inl
    rw [X.hz u v h1, X.hz v u h1.symm, X.S.zo u v h1, X.S.zo v u h1.symm]
section
variable {c r c' r' z x y : Int}
theorem mx (h : r = c - z) (hz : 0 ≤ z) : max (c - r) 0 = z := by omega
theorem mxx (h : r = c - x + y) (hx : 0 ≤ x) (hy : 0 ≤ y) (o : x = 0 ∨ y = 0) : max (c - r) 0 = x := by omega
theorem mxy (h : r = c + x - y) (hx : 0 ≤ x) (hy : 0 ≤ y) (o : x = 0 ∨ y = 0) : max (c - r) 0 = y := by omega
theorem mxr (h : r + r' = c + c') (hl : r ≤ c) : max (c' - r') 0 = 0 := by omega
theorem mxd (h : r + r = c + c) : max (c - r) 0 = 0 := by omega
theorem mxs (h : r + r' = c + c') : max (c - r) 0 - max (c' - r') 0 = c - r := by omega
end
section
variable (X : Fin4 n s t p q C R)
include X
theorem Fin4.sp0 : 0 ≤ (vals C s t p q).sp := Int.le_min.mpr ⟨X.h0 _ _, X.h0 _ _⟩
theorem Fin4.sq0 : 0 ≤ (vals C s t p q).sq := Int.le_min.mpr ⟨X.h0 _ _, X.h0 _ _⟩
theorem Fin4.x0 : 0 ≤ (vals C s t p q).x := (vals_x X.h0).nn
theorem Fin4.y0 : 0 ≤ (vals C s t p q).y := (vals_y X.h0).nn
theorem Fin4.xy : (vals C s t p q).x = 0 ∨ (vals C s t p q).y = 0 := xy0 mi3 (vals_x X.h0) (vals_y X.h0)
theorem Fin4.st : R s t = C s t - C s t := X.S.st.trans (Int.sub_self _).symm
theorem Fin4.sp : R s p = C s p - ((vals C s t p q).sp + (vals C s t p q).x) := X.S.sp.trans (Int.sub_sub _ _ _)
theorem Fin4.pt : R p t = C p t - ((vals C s t p q).sp + (vals C s t p q).y) := X.S.pt.trans (Int.sub_sub _ _ _)
theorem Fin4.sq : R s q = C s q - ((vals C s t p q).sq + (vals C s t p q).y) := X.S.sq.trans (Int.sub_sub _ _ _)
theorem Fin4.qt : R q t = C q t - ((vals C s t p q).sq + (vals C s t p q).x) := X.S.qt.trans (Int.sub_sub _ _ _)
theorem Fin4.nonkey {u v : Nat} (hu : u < 4) (hv : v < 4) (hk : (u, v) ∉ keysN s t p q) : flw C R u v = 0 := by
  have sl : ∀ {a b c : Int}, a = b - c → 0 ≤ c → a ≤ b := fun h1 h2 => by rw [h1]; exact Int.sub_le_self _ h2
  have n1 := Int.add_nonneg X.sp0 X.x0
  have n2 := Int.add_nonneg X.sp0 X.y0
  have n3 := Int.add_nonneg X.sq0 X.y0
  have n4 := Int.add_nonneg X.sq0 X.x0
  rcases X.G.all4 hu with rfl | rfl | rfl | rfl <;> rcases X.G.all4 hv with rfl | rfl | rfl | rfl
  · exact mxd (X.sym _ _)
  · exact absurd (.head _) hk
  · exact absurd (.tail _ (.head _)) hk
  · exact absurd (.tail _ (.tail _ (.tail _ (.head _)))) hk
  · exact mxr (X.sym _ _) (sl X.st (X.h0 _ _))
  · exact mxd (X.sym _ _)
  · exact mxr (X.sym _ _) (sl X.pt n2)
  · exact mxr (X.sym _ _) (sl X.qt n4)
  · exact mxr (X.sym _ _) (sl X.sp n1)
  · exact absurd (.tail _ (.tail _ (.head _))) hk
  · exact mxd (X.sym _ _)
  · exact absurd (.tail _ (.tail _ (.tail _ (.tail _ (.tail _ (.head _)))))) hk
  · exact mxr (X.sym _ _) (sl X.sq n3)
  · exact absurd (.tail _ (.tail _ (.tail _ (.tail _ (.head _))))) hk
  · exact absurd (.tail _ (.tail _ (.tail _ (.tail _ (.tail _ (.tail _ (.head _))))))) hk
  · exact mxd (X.sym _ _)
theorem Fin4.flowL : [([(s : Int), (t : Int)], C s t), ([(s : Int), (p : Int)], (vals C s t p q).sp + (vals C s t p q).x), ([(p : Int), (t : Int)], (vals C s t p q).sp + (vals C s t p q).y), ([(s : Int), (q : Int)], (vals C s t p q).sq + (vals C s t p q).y),
    ([(q : Int), (t : Int)], (vals C s t p q).sq + (vals C s t p q).x), ([(p : Int), (q : Int)], (vals C s t p q).x), ([(q : Int), (p : Int)], (vals C s t p q).y)] = tabL (flw C R) (keysN s t p q) := by
  have b1 : flw C R s t = C s t := mx X.st (X.h0 _ _)
  have b2 : flw C R s p = _ := mx X.sp (Int.add_nonneg X.sp0 X.x0)
  have b3 : flw C R p t = _ := mx X.pt (Int.add_nonneg X.sp0 X.y0)
  have b4 : flw C R s q = _ := mx X.sq (Int.add_nonneg X.sq0 X.y0)
  have b5 : flw C R q t = _ := mx X.qt (Int.add_nonneg X.sq0 X.x0)
  have b6 : flw C R p q = _ := mxx X.S.pq X.x0 X.y0 X.xy
  have b7 : flw C R q p = _ := mxy X.S.qp X.x0 X.y0 X.xy
  show _ = [([(s : Int), (t : Int)], flw C R s t), ([(s : Int), (p : Int)], flw C R s p), ([(p : Int), (t : Int)], flw C R p t), ([(s : Int), (q : Int)], flw C R s q), ([(q : Int), (t : Int)], flw C R q t), ([(p : Int), (q : Int)], flw C R p q), ([(q : Int), (p : Int)], flw C R q p)]
  rw [b1, b2, b3, b4, b5, b6, b7]
theorem Fin4.value : sm n (flw C R s) - sm n (fun u => flw C R u s) = vsum C s t p q := by
  rw [← sm_sub, sm_congr fun v _ => mxs (X.sym s v), sm_sub, X.S.row]
  unfold vsum
  generalize sm n (C s) = a
  generalize C s t = b
  generalize (vals C s t p q).sp = c
  generalize (vals C s t p q).sq = d
  generalize (vals C s t p q).x = e
  generalize (vals C s t p q).y = f
  clear X; omega
theorem Fin4.zo : Zo n (flw C R) := fun u v h => by
  show max (C u v - R u v) 0 = 0
  rw [X.hz u v h, X.S.zo u v h]; rfl
theorem Fin4.pipes : pipesP n (flw C R) = ((keysS s t p q).filter fun e => decide (0 < flw C R e.1 e.2)).map fun e => pipeS e.1 e.2 (flw C R e.1 e.2) := by
  rw [pipes_eq X.zo X.G.ne.2.2.1, List.filter_filter]
  refine congrArg (List.map _) (List.filter_congr fun e he => ?_)
  obtain ⟨u, v⟩ := e
  obtain ⟨hu, hv⟩ := prs4_mem.mp he
  have hnn : 0 ≤ flw C R u v := Int.le_max_right _ _
  show (flw C R u v != 0) = (decide (0 < flw C R u v) && decide ((u, v) ∈ keysN s t p q))
  by_cases hk : (u, v) ∈ keysN s t p q
  · rw [decide_eq_true hk, Bool.and_true]
    by_cases h : flw C R u v = 0
    · rw [h]; rfl
    · rw [decide_eq_true (Int.lt_iff_le_and_ne.mpr ⟨hnn, Ne.symm h⟩)]; exact bne_iff_ne.mpr h
  · rw [decide_eq_false hk, Bool.and_false, X.nonkey hu hv hk]; rfl
end
/-! the cuts -/
theorem cut_gen {C R : Tb} {n s t : Nat} (F : FI C R n s t) (hs : s < n) {S : Nat → Bool} (h1 : S s = true) (h2 : S t = false) :
    sm n (fun u => sm n fun v => if S u = true ∧ S v = false then C u v else 0) = sm n (C s) - sm n (R s) + sm n (fun u => sm n fun v => if S u = true ∧ S v = false then R u v else 0) := by
  have e1 : sm n (fun u => sm n fun v => if S u = true then C u v - R u v else 0) = sm n (C s) - sm n (R s) := by
    have : sm n (fun u => sm n fun v => if S u = true then C u v - R u v else 0) = sm n (fun u => if u = s then sm n (C s) - sm n (R s) else 0) := sm_congr fun u hu => by
      by_cases q : u = s
      · subst q; rw [if_pos rfl, ← sm_sub]; exact sm_congr fun v _ => if_pos h1
      · rw [if_neg q]
        by_cases k : S u = true
        · have hut : u ≠ t := fun e => by rw [e, h2] at k; cases k
          rw [sm_congr (g := fun v => C u v - R u v) fun v _ => if_pos k, sm_sub, F.con u hu q hut, Int.sub_self]
        · rw [sm_congr (g := fun _ => 0) fun v _ => if_neg k, sm_zero]
    rw [this, sm_one hs]
  have e2 : sm n (fun u => sm n fun v => if S u = true ∧ S v = true then C u v - R u v else 0) = 0 := sm_anti fun i j hi hj => by
    by_cases k : S i = true ∧ S j = true
    · rw [if_pos k, if_pos ⟨k.2, k.1⟩]; have := F.sym i j hi hj; clear e1 F; omega
    · rw [if_neg k, if_neg fun q => k ⟨q.2, q.1⟩]; rfl
  have e3 : sm n (fun u => sm n fun v => if S u = true then C u v - R u v else 0) + sm n (fun u => sm n fun v => if S u = true ∧ S v = false then R u v else 0) = sm n (fun u => sm n fun v => if S u = true ∧ S v = true then C u v - R u v else 0) + sm n (fun u => sm n fun v => if S u = true ∧ S v = false then C u v else 0) := by
    rw [← sm_add, ← sm_add]
    refine sm_congr fun u hu => ?_
    rw [← sm_add, ← sm_add]
    refine sm_congr fun v hv => ?_
    cases S u <;> cases S v
    · rfl
    · rfl
    · show C u v - R u v + R u v = 0 + C u v
      rw [Int.sub_add_cancel, Int.zero_add]
    · rfl
  rw [e1, e2, Int.zero_add] at e3
  exact e3.symm
theorem sm_pos0 {n : Nat} {f : Nat → Int} (h : ∀ i, i < n → 0 ≤ f i) (h0 : sm n f = 0) : ∀ i, i < n → f i = 0 := by
  induction n with
  | zero => exact fun i hi => absurd hi (Nat.not_lt_zero _)
  | succ n ih =>
    have a1 := sm_nonneg (n := n) (f := f) fun i hi => h i (Nat.lt_succ_of_lt hi)
    have a2 := h n (Nat.lt_succ_self n)
    have a3 : sm n f + f n = 0 := h0
    have a4 : sm n f = 0 := by clear ih h h0; omega
    have a5 : f n = 0 := by clear ih h h0; omega
    intro i hi
    rcases Nat.lt_succ_iff_lt_or_eq.mp hi with k | k
    · exact ih (fun i hi => h i (Nat.lt_succ_of_lt hi)) a4 i k
    · rw [k]; exact a5
theorem sm_trim {n m : Nat} (hn : n ≤ m) {f : Nat → Int} (hf : ∀ v, n ≤ v → f v = 0) : sm m f = sm n f := by
  induction m with
  | zero => rw [Nat.le_zero.mp hn]
  | succ m ih =>
    rcases Nat.lt_or_eq_of_le hn with k | k
    · rw [sm, ih (Nat.le_of_lt_succ k), hf m (Nat.le_of_lt_succ k), Int.add_zero]
    · rw [k]
theorem filt_sm (P : Nat → Bool) (f : Nat → Int) : ∀ m, (((List.range m).filter P).map f).sum = sm m (fun v => if P v = true then f v else 0)
  | 0 => rfl
  | m + 1 => by
    rw [List.range_succ, List.filter_append, List.map_append, List.sum_append, filt_sm P f m, sm]
    by_cases h : P m = true
    · rw [List.filter_cons, if_pos h, if_pos h]; simp
    · rw [List.filter_cons, if_neg h, if_neg h]; simp
theorem list_sm {m : Nat} (f : Nat → Int) : ∀ {c : List Nat}, c.Nodup → (∀ u ∈ c, u < m) → (c.map f).sum = sm m (fun u => if u ∈ c then f u else 0)
  | [], _, _ => by
    rw [sm_congr (g := fun _ => 0) fun i _ => if_neg List.not_mem_nil, sm_zero]; rfl
  | a :: c, hnd, hlt => by
    obtain ⟨h1, h2⟩ := List.nodup_cons.mp hnd
    rw [List.map_cons, List.sum_cons, list_sm f h2 fun u hu => hlt u (List.mem_cons_of_mem _ hu), ← sm_one (n := m) (v := a) (e := f a) (hlt a (List.mem_cons_self ..)), ← sm_add]
    refine sm_congr fun i _ => ?_
    by_cases k : i = a
    · rw [if_pos k, k, if_neg h1, if_pos (List.mem_cons_self ..), Int.add_zero]
    · rw [if_neg k, Int.zero_add]
      by_cases l : i ∈ c
      · rw [if_pos l, if_pos (List.mem_cons_of_mem _ l)]
      · rw [if_neg l, if_neg fun q => (List.mem_cons.mp q).elim k l]
theorem sum_flat {g : Nat → List Int} : ∀ l : List Nat, (l.flatMap g).sum = (l.map fun u => (g u).sum).sum
  | [] => rfl
  | a :: l => by rw [List.flatMap_cons, List.sum_append, sum_flat l, List.map_cons, List.sum_cons]
noncomputable def acr (C : Tb) (c : List Nat) : Int := ((c.flatMap fun u => ((List.range 4).filter fun v => !c.contains v).map fun v => C u v)).sum
noncomputable abbrev ind (c : List Nat) (u : Nat) : Bool := decide (u ∈ c)
theorem acr_sm {c : List Nat} (hn : n ≤ 4) (hz : Zo n C) (hnd : c.Nodup) (hlt : ∀ u ∈ c, u < 4) : acr C c = sm n (fun u => sm n fun v => if ind c u = true ∧ ind c v = false then C u v else 0) := by
  have e : ∀ u v, (if u ∈ c then (if (!c.contains v) = true then C u v else 0) else 0) = if ind c u = true ∧ ind c v = false then C u v else 0 := fun u v => by
    by_cases h : u ∈ c
    · by_cases k : v ∈ c
      · rw [if_pos h, if_neg (by simp [k]), if_neg (by simp [k])]
      · rw [if_pos h, if_pos (by simp [k]), if_pos (by simp [h, k])]
    · rw [if_neg h, if_neg (by simp [h])]
  have z : ∀ u v, n ≤ u ∨ n ≤ v → (if ind c u = true ∧ ind c v = false then C u v else 0) = 0 := fun u v h => by rw [hz u v h]; exact ite_self 0
  unfold acr
  rw [sum_flat, list_sm _ hnd hlt]
  have e2 : ∀ u, (if u ∈ c then (((List.range 4).filter fun v => !c.contains v).map fun v => C u v).sum else 0) = sm n fun v => if ind c u = true ∧ ind c v = false then C u v else 0 := fun u => by
    rw [← sm_trim hn fun v hv => z u v (.inr hv), ← sm_congr (fun v _ => e u v), filt_sm]
    by_cases h : u ∈ c
    · rw [if_pos h]; exact sm_congr fun v _ => (if_pos h).symm
    · rw [if_neg h, sm_congr (g := fun _ => 0) fun v _ => if_neg h, sm_zero]
  rw [sm_congr fun u _ => e2 u]
  exact sm_trim hn fun u hu => by rw [sm_congr (g := fun _ => 0) fun v _ => z u v (.inl hu), sm_zero]
noncomputable def Cl (n : Nat) (R : Tb) (c : List Nat) : Prop := ∀ u v, u < n → v < n → u ∈ c → v ∉ c → R u v = 0
theorem Fin4.cut (X : Fin4 n s t p q C R) {c : List Nat} (hnd : c.Nodup) (hlt : ∀ u ∈ c, u < 4) (hs : s ∈ c) (ht : t ∉ c) : acr C c = vsum C s t p q ↔ Cl n R c := by
  have hv : sm n (C s) - sm n (R s) = vsum C s t p q := by rw [← X.value, ← sm_sub, ← sm_sub]; exact sm_congr fun v _ => (mxs (X.sym s v)).symm
  rw [acr_sm X.G.ne.2.2.1 X.hz hnd hlt, cut_gen X.F X.G.ne.1 (S := ind c) (decide_eq_true hs) (decide_eq_false ht), hv]
  have nn : ∀ u v, u < n → v < n → 0 ≤ if ind c u = true ∧ ind c v = false then R u v else 0 := fun u v hu hv => by
    split
    · exact X.F.nn u v hu hv
    · exact Int.le_refl 0
  constructor
  · intro h u v hu hv huc hvc
    have h1 := sm_pos0 (fun u hu => sm_nonneg fun v hv => nn u v hu hv) (Int.add_left_cancel (h.trans (Int.add_zero _).symm)) u hu
    have h2 := sm_pos0 (fun v hv => nn u v hu hv) h1 v hv
    rwa [if_pos ⟨decide_eq_true huc, decide_eq_false hvc⟩] at h2
  · intro h
    rw [sm_congr (g := fun _ => 0) fun u hu => (sm_congr (g := fun _ => 0) fun v hv => ?_).trans (sm_zero n), sm_zero, Int.add_zero]
    split
    · next k => exact h u v hu hv (of_decide_eq_true k.1) (of_decide_eq_false k.2)
    · rfl
noncomputable def cutL (s p q : Nat) : List (List Nat) := [[s], [s, p], [s, q], [s, p, q]]
noncomputable def cutsP (C : Tb) (s p q : Nat) (v : Int) : List (List Nat) := (cutL s p q).filter fun c => acr C c == v
structure Cand (s t : Nat) (c : List Nat) : Prop where
  nd : c.Nodup
  lt : ∀ u ∈ c, u < 4
  hs : s ∈ c
  ht : t ∉ c
theorem cand0 : (goods4.all fun g => (cutL g.1 g.2.2.1 g.2.2.2).all fun c => decide (c.Nodup ∧ (∀ u ∈ c, u < 4) ∧ g.1 ∈ c ∧ g.2.1 ∉ c)) = true := by decide +kernel
theorem Gd.cand (G : Gd n s t p q) {c : List Nat} (h : c ∈ cutL s p q) : Cand s t c := let ⟨h1, h2, h3, h4⟩ := of_decide_eq_true (List.all_eq_true.mp (List.all_eq_true.mp cand0 _ G.four) c h); ⟨h1, h2, h3, h4⟩
/-- the source's side -/
structure Side (n s t : Nat) (R : Tb) (S : Nat → Bool) : Prop where
  hs : S s = true
  ht : S t = false
  lt : ∀ v, S v = true → v < n
  cl : ∀ u v, v < n → S u = true → 0 < R u v → S v = true
  least : ∀ c : List Nat, s ∈ c → Cl n R c → ∀ v, S v = true → v ∈ c
theorem Fin4.side (X : Fin4 n s t p q C (mfR n s t ((sm n (C s)).toNat + 1) C)) : Side n s t (mfR n s t ((sm n (C s)).toNat + 1) C) (sdB s (brun (RG C (FlK n s t C)) s n n 0 (fun _ => none, [s])).1) := by
  have hs := X.G.ne.1
  obtain ⟨B, hcl⟩ := brun_spec n 0 (fun _ => none, [s]) (BI.init (R := RG C (FlK n s t C)) hs) (Nat.le_refl _) (fun i _ hi => absurd hi (Nat.not_lt_zero _))
  have hlt : ∀ v, sdB s (brun (RG C (FlK n s t C)) s n n 0 (fun _ => none, [s])).1 v = true → v < n := fun v h => B.lt v ((side_mem B v).mp h)
  have h1 : sdB s (brun (RG C (FlK n s t C)) s n n 0 (fun _ => none, [s])).1 s = true := (side_mem B s).mpr (List.mem_of_getElem? B.hd)
  have h2 : ¬ sdB s (brun (RG C (FlK n s t C)) s n n 0 (fun _ => none, [s])).1 t = true := fun q => by
    have he := (mfR_end hs _ C (FI.init (t := t) fun u v _ _ => X.h0 u v) (toK (sm n (C s)))).2
    rcases aug_spec (R := mfR n s t ((sm n (C s)).toNat + 1) C) hs X.G.ds.st with ⟨_, S, hS, hT, hc⟩ | W
    · exact hT (side_sound B hS (fun u v hu hun hvn h => hc u v hu hvn ((RG_iff X.F (fun u v _ _ => X.h0 u v) hun hvn).mp h)) _ t (Nat.le_refl _) ((side_mem B t).mp q))
    · rw [pth, if_neg X.G.ds.st] at he
      have hl := W.len
      rw [he] at hl; cases hl
  refine ⟨h1, Bool.eq_false_iff.mpr h2, hlt, fun u v hv hu hp => ?_, fun c hc hC v hv => ?_⟩
  · exact (side_mem B v).mpr (hcl u ((side_mem B u).mp hu) v hv ((RG_iff X.F (fun u v _ _ => X.h0 u v) (hlt u hu) hv).mpr hp))
  · refine side_sound B (S := fun v => v ∈ c) hc (fun u v hu hun hvn h => ?_) _ v (Nat.le_refl _) ((side_mem B v).mp hv)
    have hp := (RG_iff X.F (fun u v _ _ => X.h0 u v) hun hvn).mp h
    exact Classical.byContradiction fun k => by rw [hC u v hun hvn hu k] at hp; exact Int.lt_irrefl 0 hp
theorem Fin4.pos (X : Fin4 n s t p q C R) {S : Nat → Bool} (Y : Side n s t R S) {c : List Nat} (hc : c ∈ cutL s p q) (h : ∀ v, v < 4 → (v ∈ c ↔ S v = true)) : (acr C c == vsum C s t p q) = true := by
  have D := X.G.cand hc
  have hn := X.G.ne.2.2.1
  refine beq_iff_eq.mpr ((X.cut D.nd D.lt D.hs D.ht).mpr fun u v hu hv huc hvc => ?_)
  refine Int.le_antisymm (Int.not_lt.mp fun hp => hvc ((h v (Nat.lt_of_lt_of_le hv hn)).mpr (Y.cl u v hv ((h u (Nat.lt_of_lt_of_le hu hn)).mp huc) hp))) (X.F.nn u v hu hv)
theorem Fin4.neg (X : Fin4 n s t p q C R) {S : Nat → Bool} (Y : Side n s t R S) {c : List Nat} (hc : c ∈ cutL s p q) {v : Nat} (h1 : S v = true) (h2 : v ∉ c) : ¬ (acr C c == vsum C s t p q) = true := fun k => by
  have D := X.G.cand hc
  exact h2 (Y.least c D.hs ((X.cut D.nd D.lt D.hs D.ht).mp (beq_iff_eq.mp k)) v h1)
theorem Fin4.first (X : Fin4 n s t p q C R) {S : Nat → Bool} (Y : Side n s t R S) : ∃ c0 r, cutsP C s p q (vsum C s t p q) = c0 :: r ∧ ∀ v, v < 4 → (v ∈ c0 ↔ S v = true) := by
  have D := X.G.ds
  have m1 : [s] ∈ cutL s p q := .head _
  have m2 : [s, p] ∈ cutL s p q := .tail _ (.head _)
  have m3 : [s, q] ∈ cutL s p q := .tail _ (.tail _ (.head _))
  have m4 : [s, p, q] ∈ cutL s p q := .tail _ (.tail _ (.tail _ (.head _)))
  have mk : ∀ {c : List Nat}, c ∈ cutL s p q → (p ∈ c ↔ S p = true) → (q ∈ c ↔ S q = true) → ∀ v, v < 4 → (v ∈ c ↔ S v = true) := fun hc h1 h2 v hv => by
    have E := X.G.cand hc
    rcases X.G.all4 hv with rfl | rfl | rfl | rfl
    · exact ⟨fun _ => Y.hs, fun _ => E.hs⟩
    · exact ⟨fun h => absurd h E.ht, fun h => by rw [Y.ht] at h; cases h⟩
    · exact h1
    · exact h2
  have np1 : p ∉ [s] := fun h => D.sp (List.mem_singleton.mp h).symm
  have nq1 : q ∉ [s] := fun h => D.sq (List.mem_singleton.mp h).symm
  have nq2 : q ∉ [s, p] := fun h => (List.mem_cons.mp h).elim (fun h => D.sq h.symm) fun h => D.pq (List.mem_singleton.mp h).symm
  have np3 : p ∉ [s, q] := fun h => (List.mem_cons.mp h).elim (fun h => D.sp h.symm) fun h => D.pq (List.mem_singleton.mp h)
  have no : ∀ {b : Bool} {P : Prop}, b = false → ¬ P → (P ↔ b = true) := fun h1 h2 => ⟨fun h => absurd h h2, fun h => by rw [h1] at h; cases h⟩
  have ye : ∀ {b : Bool} {P : Prop}, b = true → P → (P ↔ b = true) := fun h1 h2 => ⟨fun _ => h1, fun _ => h2⟩
  unfold cutsP
  have ft : ∀ {c : List Nat} {l : List (List Nat)}, (acr C c == vsum C s t p q) = true → (c :: l).filter (fun c => acr C c == vsum C s t p q) = c :: l.filter fun c => acr C c == vsum C s t p q := fun h => List.filter_cons_of_pos h
  have fn : ∀ {c : List Nat} {l : List (List Nat)}, ¬ (acr C c == vsum C s t p q) = true → (c :: l).filter (fun c => acr C c == vsum C s t p q) = l.filter fun c => acr C c == vsum C s t p q := fun h => List.filter_cons_of_neg h
  cases hp : S p <;> cases hq : S q
  · have k := mk m1 (no hp np1) (no hq nq1)
    exact ⟨_, _, ft (X.pos Y m1 k), k⟩
  · have k := mk m3 (no hp np3) (ye hq (.tail _ (.head _)))
    exact ⟨_, _, (fn (X.neg Y m1 hq nq1)).trans ((fn (X.neg Y m2 hq nq2)).trans (ft (X.pos Y m3 k))), k⟩
  · have k := mk m2 (ye hp (.tail _ (.head _))) (no hq nq2)
    exact ⟨_, _, (fn (X.neg Y m1 hp np1)).trans (ft (X.pos Y m2 k)), k⟩
  · have k := mk m4 (ye hp (.tail _ (.head _))) (ye hq (.tail _ (.tail _ (.head _))))
    exact ⟨_, _, (fn (X.neg Y m1 hp np1)).trans ((fn (X.neg Y m2 hq nq2)).trans ((fn (X.neg Y m3 hp np3)).trans (ft (X.pos Y m4 k)))), k⟩
/-! the lines -/
noncomputable def repP (n s t : Nat) (Fl : Tb) (S : Nat → Bool) : List Str := valS (sm n (Fl s) - sm n fun u => Fl u s) :: (pipesP n Fl ++ if s = t then [] else [cutS (jn4 n S) (jn4 n fun v => !S v)])
noncomputable def dueP (n : Nat) (F : Tb) (val : Int) (s t p q : Nat) (c0 : List Nat) : List Str := valS val ::
  ((((keysS s t p q).filter fun e => decide (0 < F e.1 e.2)).map fun e => pipeS e.1 e.2 (F e.1 e.2)) ++ [cutS (jn4 n fun v => decide (v ∈ c0)) (jn4 n fun v => !decide (v ∈ c0))])
theorem jn4_congr {S S' : Nat → Bool} (h : ∀ v, v < n → S v = S' v) : jn4 n S = jn4 n S' := by
  unfold jn4
  rw [List.filter_congr fun v hv => h v (List.mem_range.mp hv)]
theorem bool_iff {b : Bool} {P : Prop} [Decidable P] (h : P ↔ b = true) : b = decide P := by
  cases b with
  | true => exact (decide_eq_true (h.mpr rfl)).symm
  | false => exact (decide_eq_false fun k => by cases h.mp k).symm
theorem rep_due (G : Gd n s t p q) (hz : Zo n C) (h0 : ∀ u v, 0 ≤ C u v) : ∃ c0 r, cutsP C s p q (vsum C s t p q) = c0 :: r ∧
    repP n s t (FlK n s t C) (sdB s (brun (RG C (FlK n s t C)) s n n 0 (fun _ => none, [s])).1) = dueP n (FlK n s t C) (vsum C s t p q) s t p q c0 := by
  have X := Fin4.of G hz h0
  obtain ⟨c0, r, k1, k2⟩ := X.first X.side
  refine ⟨c0, r, k1, ?_⟩
  unfold repP dueP
  rw [X.value, X.pipes, if_neg G.ds.st]
  have ej : ∀ v, v < n → sdB s (brun (RG C (FlK n s t C)) s n n 0 (fun _ => none, [s])).1 v = decide (v ∈ c0) := fun v hv => bool_iff (k2 v (Nat.lt_of_lt_of_le hv G.ne.2.2.1))
  rw [jn4_congr ej, jn4_congr (S' := fun v => !decide (v ∈ c0)) fun v hv => congrArg (!·) (ej v hv)]
theorem rep_same (S : Nat → Bool) : repP n s s (FlK n s s C) S = [Str.ofString "value 0"] := by
  have e1 : ∀ u v, FlK n s s C u v = 0 := fun u v => by
    show max (C u v - mfR n s s ((sm n (C s)).toNat + 1) C u v) 0 = 0
    rw [mfR, pth, if_pos rfl, if_pos rfl]; omega
  have e2 : FlK n s s C = fun _ _ => 0 := by funext u v; exact e1 u v
  rw [e2]
  unfold repP pipesP
  rw [sm_zero, if_pos rfl]
  have e3 : ∀ u : Nat, ((List.range n).filter fun (v : Nat) => (0 : Int) != 0) = [] := fun u => by rw [List.filter_eq_nil_iff]; intro v _; decide
  have e4 : ((List.range n).flatMap fun (u : Nat) => (((List.range n).filter fun (v : Nat) => (0 : Int) != 0).map fun (v : Nat) => pipeS u v 0)) = [] := by
    rw [List.flatMap_eq_nil_iff]
    intro u _
    rw [e3 u]; rfl
  rw [e4]
  show [valS (0 - 0)] = _
  have : valS (0 - 0) = Str.ofString "value 0" := by decide +kernel
  rw [this]
end
end Mine

set_option maxRecDepth 100000
namespace Mine
open PySem
/-! sizes -/
theorem dg_len : ∀ (k n : Nat), n < 10 ^ (k + 1) → (dg n).length ≤ k + 1
  | 0, n, h => by rw [dg_small (by simpa using h)]; exact Nat.le_refl _
  | k + 1, n, h => by
    by_cases q : n < 10
    · rw [dg_small q]; simp
    · rw [dg_step (by omega), List.length_append]
      have := dg_len k (n / 10) (by rw [Nat.div_lt_iff_lt_mul (by decide), ← Nat.pow_succ]; exact h)
      simpa using this
theorem tI_len {a : Int} (h : a.natAbs < 10 ^ 40) : (tI a).length ≤ 41 := by
  rcases Int.le_total 0 a with q | q
  · obtain ⟨n, rfl⟩ := Int.eq_ofNat_of_zero_le q
    have := dg_len 39 n (by simpa using h)
    show (Str.ofString (toString (n : Int))).length ≤ 41
    rw [text_nat]
    show (dg n).toArray.size ≤ 41
    rw [List.size_toArray]; omega
  · by_cases z : a = 0
    · subst z
      show (Str.ofString (toString ((0 : Nat) : Int))).length ≤ 41
      rw [text_nat, dg_small (by decide)]
      show ([48 + 0] : List Nat).toArray.size ≤ 41
      simp
    · obtain ⟨n, hn⟩ : ∃ n : Nat, a = -(n : Int) := ⟨a.natAbs, by omega⟩
      subst hn
      have := dg_len 39 n (by simpa using h)
      show (Str.ofString (toString (-(n : Int)))).length ≤ 41
      rw [text_neg (by omega)]
      show (45 :: dg n).toArray.size ≤ 41
      rw [List.size_toArray, List.length_cons]; omega
theorem tI_log {a : Int} (h : a.natAbs < 10 ^ 40) : a.natAbs.log2 < 1920 := by
  rcases Nat.eq_zero_or_pos a.natAbs with q | q
  · rw [q]; decide
  · exact Nat.lt_trans ((Nat.log2_lt (by omega)).mpr (Nat.lt_of_lt_of_le h (Nat.le_of_ble_eq_true rfl : 10 ^ 40 ≤ 2 ^ 200))) (by decide)
theorem strOk_app4 {a b : Str} (ha : PyData.strOk a = true) (hb : PyData.strOk b = true) : PyData.strOk (a ++ b) = true := by
  unfold PyData.strOk at *
  show (a.cps ++ b.cps).all _ = true
  rw [Array.all_append, ha, hb]; rfl
theorem strOk_nil : PyData.strOk Str.empty = true := by decide +kernel
theorem strOk_tI (a : Int) : PyData.strOk (tI a) = true := strOk_ofString _
theorem valS_ok (v : Int) : PyData.strOk (valS v) = true := strOk_app4 (strOk_app4 strOk_nil (strOk_ofString _)) (strOk_tI v)
theorem pipeS_ok (u v w : Int) : PyData.strOk (pipeS u v w) = true := strOk_app4 (strOk_app4 (strOk_app4 (strOk_app4 (strOk_app4 strOk_nil (strOk_tI u)) (strOk_ofString _)) (strOk_tI v)) (strOk_ofString _)) (strOk_tI w)
theorem cutS_ok {a b : Str} (ha : PyData.strOk a = true) (hb : PyData.strOk b = true) : PyData.strOk (cutS a b) = true := strOk_app4 (strOk_app4 (strOk_app4 (strOk_ofString _) ha) (strOk_ofString _)) hb
theorem spc4_eq : spc4 = ⟨#[32]⟩ := by decide +kernel
theorem jn4_fin : ∀ n, n < 5 → ∀ a b c d : Bool, (JoinOk ⟨#[32]⟩ (((List.range n).filter fun v => [a, b, c, d].getD v false).map fun i => (⟨#[48 + i]⟩ : Str))
    && PyData.strOk (Str.join ⟨#[32]⟩ (((List.range n).filter fun v => [a, b, c, d].getD v false).map fun i => (⟨#[48 + i]⟩ : Str)))
    && decide ((Str.join ⟨#[32]⟩ (((List.range n).filter fun v => [a, b, c, d].getD v false).map fun i => (⟨#[48 + i]⟩ : Str))).length ≤ 20)) = true := by decide +kernel
theorem jn4_ok {n : Nat} (hn : n ≤ 4) (p : Nat → Bool) : JoinOk spc4 (((List.range n).filter p).map fun (i : Nat) => tI i) = true ∧ PyData.strOk (jn4 n p) = true ∧ (jn4 n p).length ≤ 20 := by
  have e1 : (List.range n).filter p = (List.range n).filter (fun v => [p 0, p 1, p 2, p 3].getD v false) := List.filter_congr fun v hv => by
    have hv := List.mem_range.mp hv
    have : v = 0 ∨ v = 1 ∨ v = 2 ∨ v = 3 := by omega
    rcases this with rfl | rfl | rfl | rfl <;> rfl
  have e2 : (((List.range n).filter (fun v => [p 0, p 1, p 2, p 3].getD v false)).map fun (i : Nat) => tI i) = ((List.range n).filter (fun v => [p 0, p 1, p 2, p 3].getD v false)).map fun i => (⟨#[48 + i]⟩ : Str) := List.map_congr_left fun i hi => by
    have hi := List.mem_range.mp (List.mem_filter.mp hi).1
    show Str.ofString (toString (i : Int)) = _
    rw [text_nat, dg_small (by omega)]
  unfold jn4
  rw [e1, e2, spc4_eq]
  have := jn4_fin n (by omega) (p 0) (p 1) (p 2) (p 3)
  simp only [Bool.and_eq_true, decide_eq_true_eq] at this
  exact ⟨this.1.1, this.1.2, this.2⟩
theorem repP_ok {n s t : Nat} (hn : n ≤ 4) {Fl : Tb} {S : Nat → Bool} : ∀ x ∈ repP n s t Fl S, PyData.strOk x = true := by
  intro x hx
  unfold repP at hx
  rcases List.mem_cons.mp hx with rfl | hx
  · exact valS_ok _
  · rcases List.mem_append.mp hx with hx | hx
    · unfold pipesP at hx
      obtain ⟨u, _, hx⟩ := List.mem_flatMap.mp hx
      obtain ⟨v, _, rfl⟩ := List.mem_map.mp hx
      exact pipeS_ok _ _ _
    · split at hx
      · cases hx
      · rw [List.mem_singleton.mp hx]; exact cutS_ok (jn4_ok hn _).2.1 (jn4_ok hn _).2.1
theorem len_app {a b : Str} {x y : Nat} (ha : a.length ≤ x) (hb : b.length ≤ y) : (a ++ b).length ≤ x + y := by rw [Str.length_append]; omega
theorem len_line {a : Str} {x : Nat} (h : a.length ≤ x) (hx : x ≤ 1000) : a.length ≤ sizeLine := Nat.le_trans h (Nat.le_trans hx (by decide +kernel))
theorem sum_leN {B : Nat} : ∀ {l : List Nat}, (∀ x ∈ l, x ≤ B) → l.sum ≤ l.length * B
  | [], _ => by simp
  | x :: l, h => by
    rw [List.sum_cons, List.length_cons, Nat.add_mul]
    have h1 := h x (List.mem_cons_self ..)
    have h2 := sum_leN (l := l) fun y hy => h y (List.mem_cons_of_mem _ hy)
    omega
theorem nil_app (a : Str) : Str.empty ++ a = a := by
  obtain ⟨a⟩ := a
  show Str.mk (#[] ++ a) = _
  rw [Array.empty_append]
theorem lit_val : (Str.ofString "value ").length ≤ 10 := by decide +kernel
theorem lit_arr : (Str.ofString " -> ").length ≤ 10 := by decide +kernel
theorem lit_col : (Str.ofString ": ").length ≤ 10 := by decide +kernel
theorem lit_cut : (Str.ofString "cut: ").length ≤ 10 := by decide +kernel
theorem lit_bar : (Str.ofString " | ").length ≤ 10 := by decide +kernel
theorem lit_nil : Str.empty.length ≤ 10 := by decide +kernel
/-! bounds -/
theorem sum_le {W : Int} : ∀ {l : List Int}, (∀ x ∈ l, x ≤ W) → l.sum ≤ l.length * W
  | [], _ => by simp
  | x :: l, h => by
    rw [List.sum_cons, List.length_cons]
    have h1 := h x (List.mem_cons_self ..)
    have h2 := sum_le (l := l) fun y hy => h y (List.mem_cons_of_mem _ hy)
    have h3 : ((l.length + 1 : Nat) : Int) * W = l.length * W + W := by rw [Int.natCast_add, Int.add_mul]; simp
    omega
theorem capF_le {es : List (Nat × Nat × Int)} {W : Int} (hW : 0 ≤ W) (h : ∀ e ∈ es, e.2.2 ≤ W) (u v : Int) : capF es u v ≤ es.length * W := by
  unfold capF
  refine Int.le_trans (sum_le (W := W) fun x hx => ?_) ?_
  · obtain ⟨e, he, rfl⟩ := List.mem_map.mp hx
    exact h e (List.mem_filter.mp he).1
  · rw [List.length_map]
    have := List.length_filter_le (capP u v) es
    exact Int.mul_le_mul_of_nonneg_right (by omega) hW
theorem capF_zo {es : List (Nat × Nat × Int)} {n : Nat} (hes : ∀ e ∈ es, e.1 < n ∧ e.2.1 < n) : Zo n (fun (u v : Nat) => capF es u v) := by
  intro u v h
  show capF es u v = 0
  unfold capF
  have : es.filter (capP u v) = [] := by
    rw [List.filter_eq_nil_iff]
    intro e he k
    have := hes e he
    simp only [capP, Bool.and_eq_true, beq_iff_eq] at k
    omega
  rw [this]; rfl
theorem sm_leB {n : Nat} {f : Nat → Int} {B : Int} (h : ∀ i, i < n → f i ≤ B) : sm n f ≤ n * B := by
  induction n with
  | zero => simp [sm]
  | succ n ih =>
    rw [sm]
    have h1 := ih fun i hi => h i (by omega)
    have h2 := h n (by omega)
    have h3 : ((n + 1 : Nat) : Int) * B = n * B + B := by rw [Int.natCast_add, Int.add_mul]; simp
    omega
theorem FlK_bd {n s t : Nat} {C : Tb} (hs : s < n) (h0 : ∀ u v, u < n → v < n → 0 ≤ C u v) {u v : Nat} (hu : u < n) (hv : v < n) : 0 ≤ FlK n s t C u v ∧ FlK n s t C u v ≤ C u v := by
  have hC0 : 0 ≤ sm n (C s) := sm_nonneg fun v hv => h0 s v hs hv
  have F := (mfR_end hs ((sm n (C s)).toNat + 1) C (FI.init (t := t) h0) (by omega)).1
  have h1 := F.nn u v hu hv
  have h2 := h0 u v hu hv
  show 0 ≤ max _ _ ∧ max _ _ ≤ _
  omega
theorem FlK_val {n s t : Nat} {C : Tb} {B : Int} (hn : n ≤ 4) (hs : s < n) (h0 : ∀ u v, u < n → v < n → 0 ≤ C u v) (hB : ∀ u v, u < n → v < n → C u v ≤ B) (hB0 : 0 ≤ B) : -(4 * B) ≤ sm n (FlK n s t C s) - sm n (fun u => FlK n s t C u s) ∧ sm n (FlK n s t C s) - sm n (fun u => FlK n s t C u s) ≤ 4 * B := by
  have a1 : 0 ≤ sm n (FlK n s t C s) := sm_nonneg fun v hv => (FlK_bd hs h0 hs hv).1
  have a2 : 0 ≤ sm n (fun u => FlK n s t C u s) := sm_nonneg fun v hv => (FlK_bd hs h0 hv hs).1
  have a3 : sm n (FlK n s t C s) ≤ n * B := sm_leB fun v hv => Int.le_trans (FlK_bd hs h0 hs hv).2 (hB s v hs hv)
  have a4 : sm n (fun u => FlK n s t C u s) ≤ n * B := sm_leB fun v hv => Int.le_trans (FlK_bd hs h0 hv hs).2 (hB v s hv hs)
  have a5 : (n : Int) * B ≤ 4 * B := Int.mul_le_mul_of_nonneg_right (by omega) hB0
  omega
theorem flw_bd {n s t p q : Nat} {C R : Tb} (X : Fin4 n s t p q C R) (u v : Nat) : 0 ≤ flw C R u v ∧ flw C R u v ≤ C u v := by
  refine ⟨Int.le_max_right _ _, Int.max_le.mpr ⟨Int.sub_le_self _ ?_, X.h0 u v⟩⟩
  by_cases h : u < n ∧ v < n
  · exact X.F.nn u v h.1 h.2
  · rw [X.S.zo u v ((Nat.lt_or_ge u n).elim (fun k => .inr (Nat.le_of_not_lt fun q => h ⟨k, q⟩)) .inl)]; exact Int.le_refl 0
end Mine

namespace Mine
open PySem PySem.Spec PySem.Calls PyProof.Rows
section
variable {c : Cx} {f : Fm} {ρ : Rho} {mo : Addr → Prop} {val : Nat → Value} {fp : Nat → List Addr} {s : Shared} {E : Value → Shared → Prop} {Q : Fl → Rho → Prop} {body : List Stmt} {pos : Pos}
theorem s_for3 {x y z : Str} {xp yp zp tp : Pos} {tn : Nat} {iter : Expr} {i1 i2 i3 : Nat} {ls : List T3} {k : EK} {rest : List Stmt} (FS : FmS c f) (h : ItG c f ρ iter (ls.map encI) k lIt) (hk : Fills2 k (ls.map encI) .lo)
    (J : Nat → Rho → Prop) (h0 : J 0 ρ)
    (hb : ∀ j el ρ', ls[j]? = some el → J j ρ' → ∃ ρ1 ρ2 ρ3, Upd f.xs ρ' x (some ⟨.lo, .int el.1⟩) ρ1 i1 ∧ Upd f.xs ρ1 y (some ⟨.lo, .int el.2.1⟩) ρ2 i2 ∧ Upd f.xs ρ2 z (some ⟨.lo, .int el.2.2⟩) ρ3 i3 ∧ Ex c f body ρ3 (loopQ (J (j + 1)) (seqQ c f rest Q)))
    (hend : ∀ ρ', J ls.length ρ' → Ex c f rest ρ' Q) (hs : ∀ env x, foldedSetIterable iter env x = pure x := by intro _ _; rfl) : Ex c f (.For (.Tuple [.Name x xp, .Name y yp, .Name z zp] tn tp) iter body [] pos :: rest) ρ Q :=
  ex_cons (ex_forG lIt FS h hk.safe J h0 (fun j d ρ' hd hJ => by
    rw [List.getElem?_map] at hd
    obtain ⟨el, hel, rfl⟩ := Option.map_eq_some_iff.mp hd
    obtain ⟨ρ1, ρ2, ρ3, h1, h2, h3, hB⟩ := hb j el ρ' hel hJ
    exact ⟨ρ3, asg3 FS h1 h2 h3, hB⟩) (fun ρ' hJ => hend ρ' (List.length_map (as := ls) encI ▸ hJ)) hs)
theorem s_for2 {x y : Str} {xp yp tp : Pos} {tn : Nat} {iter : Expr} {i1 i2 : Nat} {ls : List T2} {k : EK} {rest : List Stmt} (FS : FmS c f) (h : ItG c f ρ iter (ls.map encP2) k lIt) (hk : Fills2 k (ls.map encP2) .lo)
    (J : Nat → Rho → Prop) (h0 : J 0 ρ)
    (hb : ∀ j el ρ', ls[j]? = some el → J j ρ' → ∃ ρ1 ρ2, Upd f.xs ρ' x (some ⟨.lo, .int el.1⟩) ρ1 i1 ∧ Upd f.xs ρ1 y (some ⟨.lo, .int el.2⟩) ρ2 i2 ∧ Ex c f body ρ2 (loopQ (J (j + 1)) (seqQ c f rest Q)))
    (hend : ∀ ρ', J ls.length ρ' → Ex c f rest ρ' Q) (hs : ∀ env x, foldedSetIterable iter env x = pure x := by intro _ _; rfl) : Ex c f (.For (.Tuple [.Name x xp, .Name y yp] tn tp) iter body [] pos :: rest) ρ Q :=
  ex_cons (ex_forG lIt FS h hk.safe J h0 (fun j d ρ' hd hJ => by
    rw [List.getElem?_map] at hd
    obtain ⟨el, hel, rfl⟩ := Option.map_eq_some_iff.mp hd
    obtain ⟨ρ1, ρ2, h1, h2, hB⟩ := hb j el ρ' hel hJ
    exact ⟨ρ2, asg2 FS h1 h2, hB⟩) (fun ρ' hJ => hend ρ' (List.length_map (as := ls) encP2 ▸ hJ)) hs)
end
end Mine

namespace Mine
open PySem PySem.Spec PySem.Calls PyProof.Rows
section
variable {c : Cx} {f : Fm} {ρ : Rho} {mo : Addr → Prop} {val : Nat → Value} {fp : Nat → List Addr} {s : Shared} {E : Value → Shared → Prop}
/-- [x for x in .. if ..], the items as they lie -/
theorem ev_compId {iter : Expr} {x : Str} {xp xp2 : Pos} {ifs : List Expr} {scope : Scope} {pos : Pos} {α : Type} {enc : α → PyData} {xs : List α} {p : α → Bool}
    {cells : List Str} (H : HasCells f cells) (cp : List Nat) (capn : List Str) (slots : Rho) (cells' : List Str) (h : It c f ρ iter (xs.map enc) .fr) (hsz : xs.length ≤ sizeLine)
    (ht : ∀ C, HasCells (cf f scope C x capn) cells' → ∀ el ∈ xs, Ifs c (cf f scope C x capn) (some ⟨.lo, enc el⟩ :: slots) ifs (p el))
    (hchk : (compChk scope x cp capn cells && chChk scope cells cells') = true := by decide +kernel)
    (hn : cp.map (fun j => f.xs[j]?) = capn.map some := by rfl) (hn2 : cp.map (fun j => f.xs.getD j default) = capn := by rfl) (hsl : cp.map (fun j => (ρ[j]?).join) = slots := by rfl)
    (hs : ∀ env x, foldedSetIterable iter env x = pure x := by intro _ _; rfl) (hdx : (x == ("__debug__" : Str)) = false := by decide +kernel) (hnx : (x == ("__classdict__" : Str)) = false := by decide +kernel) :
    Ev c f ρ (.ListComp (.Name x xp2) [⟨.Name x xp, iter, ifs, 0⟩] scope pos) (.list ((xs.filter p).map enc)) .lo := by
  obtain ⟨h1, h2⟩ := Bool.and_eq_true_iff.mp hchk
  have CO : CompOk c f ρ scope x cp := compOk_mk H hn h1
  have e1 : ∀ C, chFm f scope C x cp = cf f scope C x capn := fun C => by unfold chFm; rw [hn2]
  have e2 : ∀ d, chRho ρ cp ⟨.lo, d⟩ = some ⟨.lo, d⟩ :: slots := fun d => by unfold chRho; rw [hsl]
  have HC : ∀ C, HasCells (cf f scope C x capn) cells' := fun C => e1 C ▸ child_cells H h2
  intro mo val fp s E S
  rw [eval_ListComp]
  refine wpAny_comprehension_free (use := none) rfl (hs _) (closureFor_eq CO.free) CO.kind CO.names (comp_coreK (fr := false) (sk := .lo) (g := enc) (RR := fun acc C => compPost c.M f.A E none _ acc C) CO h .fr hsz (fun C el hel => by rw [e1, e2]; exact ht C (HC C) el hel) (fun C el hel _ => ev_name_us At.here hdx hnx) S ?_)
  intro D C s' as s2 as0 x1 hD hC hDC hns r pD x2 ko a
  have ok : ∀ b ∈ as, ¬ mo b ∧ f.h₀.get? b = none ∧ b ≠ f.env.locals := fun b hb => ⟨((KOk.fr_lo S ko).2 b (a.2.2 rfl b hb)).1, ((KOk.fr_lo S ko).2 b (a.2.2 rfl b hb)).2, fun e => ko.1 (e ▸ a.2.2 rfl b hb)⟩
  have hCas : C ∉ as := fun q => (a.1 C q).2 rfl
  obtain ⟨m, hm⟩ := hns
  refine ⟨m, hm, fun h' hs' => ?_⟩
  have hCD : C ∉ D :: as := fun q => (List.mem_cons.mp q).elim (fun h => hDC h.symm) hCas
  have hX : ¬ c.X C := fun hx => by
    obtain ⟨ps, q⟩ := x1.wf.tab C hx
    obtain ⟨o, es, ep, ho, hd, _⟩ := hm
    rw [q] at ho; cases ho; cases hd
  refine ⟨⟨⟨fun b o hXb q => (hs'.2 b fun h => by rw [h, hC] at q; cases q).trans (x1.up.kp b o hXb q), fun b o q => by
      obtain ⟨o', q'⟩ := x1.up.th b o q
      exact ⟨o', (hs'.2 b fun h => by rw [h, hC] at q; cases q).trans q'⟩⟩, x1.wf.sameBut hs' (S.ok.base.none (S.keep.none hC)) hX⟩, D :: as, ?_, fun q => ?_, fun a ha => ?_⟩
  · exact reads_upon r (fun b hb o q _ => (hs'.2 b fun h => hCD (h ▸ hb)).trans q) (fun b o q _ hdd => (hs'.2 b fun h => ns_notSeq hm (h ▸ q) hdd).trans q)
  · rcases List.mem_cons.mp q with q | q
    · obtain ⟨_, o, _, _, ho, _⟩ := S.ns
      rw [q, hD] at ho; cases ho
    · exact (ok _ q).2.2 rfl
  · rcases List.mem_cons.mp ha with rfl | q
    · refine ⟨fun hm => ?_, S.keep.none hD⟩
      obtain ⟨o, q, _⟩ := S.moIn _ hm
      rw [hD] at q; cases q
    · exact ⟨(ok a q).1, (ok a q).2.1⟩
end
end Mine

set_option maxRecDepth 100000
namespace Mine
open PySem PySem.Spec PySem.Calls PyProof.Rows


section
variable {c : Cx} {f : Fm} {ρ : Rho} {e e1 e2 e3 e4 e5 : Expr} {k k1 k2 k3 : EK} {pos p1 p2 p3 p4 p5 : Pos} {n1 n2 : Nat}
/-- ' '.join(str(x) for x in range(e) if y[x]) -/
theorem ev_joinS {x y : Str} {px cp sp ap rp rp2 np xp cp2 q1 q2 q3 : Pos} {nn : Nat} {scope : Scope} {n : Nat} {kk : K} {j : Nat} {b : Nat → Bool} {cells : List Str} (C : CxOk c) (BM : BMok c) (HT : CodeTab c f) (Brange : Bi c "range" (.type "range")) (Bstr : Bi c "str" (.type "str")) (hxr : f.env.kindOf "range" = some .globalImplicit)
    (h : Ev c f ρ e (.int (n : Int)) k) (hn : n ≤ 4) (hat : At f.xs ρ y ⟨kk, .list ((List.range n).map fun v => .bool (b v))⟩ j) (H : HasCells f cells) (hyc : y ∈ cells) (hfree : ∀ z ∈ scope.names, z.2 = .free → z.1 ∈ cells)
    (hcell : ∀ y ∈ scope.names, y.2 ≠ .cell) (h0 : scope.names.lookup (".0" : Str) = some NameKind.local) (hxl : scope.names.lookup x = some .local) (hstr : scope.names.lookup ("str" : Str) = some .globalImplicit) (hyf : scope.names.lookup y = some .free) (hym : (y, NameKind.free) ∈ scope.names) (hkind : scope.kind = .function) (hco : scope.isCoroutine = false)
    (hs : ∀ env x, genFold (.Call (.Name "range" rp) [e] [] rp2) env x = pure x := by intro _ _; rfl) (he : ∀ env rest, starEach (e :: rest) env = (false, eval e env) :: starEach rest env := by intros; rfl)
    (hdx : (x == ("__debug__" : Str)) = false := by decide +kernel) (hdy : (y == ("__debug__" : Str)) = false := by decide +kernel) (hny : (y == ("__classdict__" : Str)) = false := by decide +kernel)
    (hline : (ap.endLine == cp.line) = true := by rfl) :
    Ev c f ρ (.Call (.Attribute (.Constant (.str spc4) nn sp) "join" ap) [.GeneratorExp (.Call (.Name "str" np) [.Name x xp] [] cp2) [⟨.Name x px, .Call (.Name "range" rp) [e] [] rp2, [.Subscript (.Name y q1) (.Name x q2) q3], 0⟩] scope pos] [] cp) (.str (jn4 n b)) .fr :=
  ev_joinG C BM HT Brange Bstr hxr h (by omega) _ (closureFor_eq fun z hz hzf => (H z.1 (hfree z hz hzf)).2) hcell h0 hxl hstr hkind hco b
    (gt_sub hat H hyc (by omega) (Nat.le_refl _) hxl hyf hym hkind hdx hdy hny) (jn4_ok hn b).1 hs he hdx (by intro _; rfl) hline (by intro _; rfl)
/-- ' '.join(str(x) for x in range(e) if not y[x]) -/
theorem ev_joinNS {x y : Str} {px cp sp ap rp rp2 np xp cp2 q1 q2 q3 q4 : Pos} {nn : Nat} {scope : Scope} {n : Nat} {kk : K} {j : Nat} {b : Nat → Bool} {cells : List Str} (C : CxOk c) (BM : BMok c) (HT : CodeTab c f) (Brange : Bi c "range" (.type "range")) (Bstr : Bi c "str" (.type "str")) (hxr : f.env.kindOf "range" = some .globalImplicit)
    (h : Ev c f ρ e (.int (n : Int)) k) (hn : n ≤ 4) (hat : At f.xs ρ y ⟨kk, .list ((List.range n).map fun v => .bool (b v))⟩ j) (H : HasCells f cells) (hyc : y ∈ cells) (hfree : ∀ z ∈ scope.names, z.2 = .free → z.1 ∈ cells)
    (hcell : ∀ y ∈ scope.names, y.2 ≠ .cell) (h0 : scope.names.lookup (".0" : Str) = some NameKind.local) (hxl : scope.names.lookup x = some .local) (hstr : scope.names.lookup ("str" : Str) = some .globalImplicit) (hyf : scope.names.lookup y = some .free) (hym : (y, NameKind.free) ∈ scope.names) (hkind : scope.kind = .function) (hco : scope.isCoroutine = false)
    (hs : ∀ env x, genFold (.Call (.Name "range" rp) [e] [] rp2) env x = pure x := by intro _ _; rfl) (he : ∀ env rest, starEach (e :: rest) env = (false, eval e env) :: starEach rest env := by intros; rfl)
    (hdx : (x == ("__debug__" : Str)) = false := by decide +kernel) (hdy : (y == ("__debug__" : Str)) = false := by decide +kernel) (hny : (y == ("__classdict__" : Str)) = false := by decide +kernel)
    (hline : (ap.endLine == cp.line) = true := by rfl) :
    Ev c f ρ (.Call (.Attribute (.Constant (.str spc4) nn sp) "join" ap) [.GeneratorExp (.Call (.Name "str" np) [.Name x xp] [] cp2) [⟨.Name x px, .Call (.Name "range" rp) [e] [] rp2, [.UnaryOp .Not (.Subscript (.Name y q1) (.Name x q2) q3) q4], 0⟩] scope pos] [] cp) (.str (jn4 n fun v => !b v)) .fr :=
  ev_joinG C BM HT Brange Bstr hxr h (by omega) _ (closureFor_eq fun z hz hzf => (H z.1 (hfree z hz hzf)).2) hcell h0 hxl hstr hkind hco (fun v => !b v)
    (gt_not (gt_sub hat H hyc (by omega) (Nat.le_refl _) hxl hyf hym hkind hdx hdy hny)) (jn4_ok hn fun v => !b v).1 hs he hdx (by intro _; rfl) hline (by intro _; rfl)
/-- f'value {e}' -/
theorem ev_valS {v : Int} (h : Ev c f ρ e (.int v) k) (hv : v.natAbs < 10 ^ 40) : Ev c f ρ (.JoinedStr [.Constant (.str (Str.ofString "value ")) n1 p1, .FormattedValue e (-1) none p2] pos) (.str (valS v)) .fr := by
  have l1 := len_app lit_nil lit_val
  have l2 := len_app l1 (tI_len hv)
  exact ev_joined (jp_cons ev_str (len_line l1 (by decide)) (jp_cons (ev_fint h (tI_log hv)) (len_line l2 (by decide)) (jp_nil (len_line l2 (by decide)))))
/-- f'{e1} -> {e2}: {e3}' -/
theorem ev_pipeS {u v w : Int} (h1 : Ev c f ρ e1 (.int u) k1) (h2 : Ev c f ρ e2 (.int v) k2) (h3 : Ev c f ρ e3 (.int w) k3) (hu : u.natAbs < 10 ^ 40) (hv : v.natAbs < 10 ^ 40) (hw : w.natAbs < 10 ^ 40) :
    Ev c f ρ (.JoinedStr [.FormattedValue e1 (-1) none p1, .Constant (.str (Str.ofString " -> ")) n1 p2, .FormattedValue e2 (-1) none p3, .Constant (.str (Str.ofString ": ")) n2 p4, .FormattedValue e3 (-1) none p5] pos) (.str (pipeS u v w)) .fr := by
  have l1 := len_app lit_nil (tI_len hu)
  have l2 := len_app l1 lit_arr
  have l3 := len_app l2 (tI_len hv)
  have l4 := len_app l3 lit_col
  have l5 := len_app l4 (tI_len hw)
  exact ev_joined (jp_cons (ev_fint h1 (tI_log hu)) (len_line l1 (by decide)) (jp_cons ev_str (len_line l2 (by decide)) (jp_cons (ev_fint h2 (tI_log hv)) (len_line l3 (by decide)) (jp_cons ev_str (len_line l4 (by decide)) (jp_cons (ev_fint h3 (tI_log hw)) (len_line l5 (by decide)) (jp_nil (len_line l5 (by decide))))))))
end

noncomputable def rep04 : FnD := fnAt PySem.Challenge.pw_k21_0004 8
noncomputable abbrev X04r : List Str := ["n", "edges", "source", "sink", "flow", "lines", "side"]
theorem small_abs {a B : Int} (h1 : -(5 * B) ≤ a) (h2 : a ≤ 5 * B) (hB : B ≤ 10 ^ 32) : a.natAbs < 10 ^ 40 := by
  have h3 : a < 10 ^ 40 := Int.lt_of_le_of_lt h2 (Int.lt_of_le_of_lt (Int.mul_le_mul_of_nonneg_left hB (by decide)) (by decide))
  have h4 : -a < 10 ^ 40 := Int.lt_of_le_of_lt (show -a ≤ 5 * B by omega) (Int.lt_of_le_of_lt (Int.mul_le_mul_of_nonneg_left hB (by decide)) (by decide))
  have h5 : ((a.natAbs : Nat) : Int) < ((10 ^ 40 : Nat) : Int) := by
    have : ((10 ^ 40 : Nat) : Int) = (10 : Int) ^ 40 := by norm_cast
    rw [this]
    rcases Int.le_total 0 a with q | q
    · rw [Int.natAbs_of_nonneg q]; exact h3
    · rw [Int.ofNat_natAbs_of_nonpos q]; exact h4
  exact Int.ofNat_lt.mp h5
theorem small_pos {a c B : Int} (h : 0 ≤ a ∧ a ≤ c) (h3 : c ≤ B) (hB : B ≤ 10 ^ 32) : a.natAbs < 10 ^ 40 := small_abs (B := B) (by omega) (by omega) hB
theorem small4 {a B : Int} (h : -(4 * B) ≤ a ∧ a ≤ 4 * B) (h0 : 0 ≤ B) (hB : B ≤ 10 ^ 32) : a.natAbs < 10 ^ 40 := small_abs (B := B) (by omega) (by omega) hB
theorem pt_abs {v : Nat} (h : v < 1000) : ((v : Nat) : Int).natAbs < 10 ^ 40 := Nat.lt_trans (show ((v : Nat) : Int).natAbs < 1000 by simpa using h) (Nat.le_of_ble_eq_true rfl : 1000 + 1 ≤ 10 ^ 40)
theorem rep04_fn {c : Cx} (K : CxOk c) (BM : BMok c) (HT : HasTab c rep04) (Blen : Bi c "len" (.builtin "len")) (Brange : Bi c "range" (.type "range")) (Blist : Bi c "list" (.type "list")) (Bmin : Bi c "min" (.builtin "min")) (Bmax : Bi c "max" (.builtin "max")) (Bsum : Bi c "sum" (.builtin "sum")) (Bstr : Bi c "str" (.type "str"))
    (stPto : Stands c pto04) (stCap : Stands c cap04) (stAug : Stands c aug04) (stMf : Stands c mf04) (stVal : Stands c val04) (stSid : Stands c sid04) {n s t : Nat} (hn : n ≤ 4) (hs : s < n) (ht : t < n) {es : List (Nat × Nat × Int)} (hl : es.length ≤ 18) (hes : ∀ e ∈ es, e.1 < n ∧ e.2.1 < n)
    {C : Tb} (hC : C = fun (u v : Nat) => capF es u v) (h0 : ∀ u v, 0 ≤ C u v) {B : Int} (hB : ∀ u v, C u v ≤ B) (hB1 : B ≤ 10 ^ 32) :
    Fn c 4 rep04 [.int n, .list (es.map encE), .int s, .int t] (.list ((repP n s t (FlK n s t C) (sdB s (brun (RG C (FlK n s t C)) s n n 0 (fun _ => none, [s])).1)).map .str)) true := by
  refine fn_goC ["n", "edges", "source", "sink"] ["flow", "lines", "side"] X04r K ?_ rfl (by decide +kernel) (by decide +kernel) rfl rfl rfl [some ⟨.sh, .int n⟩, some ⟨.sh, .list (es.map encE)⟩, some ⟨.sh, .int s⟩, some ⟨.sh, .int t⟩, none, none, none] ?_
  · intro pm cd doc vals hv
    obtain ⟨a, b, c, d, rfl⟩ := len4 hv; rfl
  intro fm HC FS
  have HTc := codeTab_of HT HC
  clear HC
  have H0 := HasCells.ofs (ys := ["n", "flow", "side"]) FS rep04.scope rfl X04r rfl (by decide +kernel)
  have hszT : ∀ g : Nat → Nat → PyData, (mkT n g).length ≤ sizeLine := fun g => szR hn (by decide)
  have hszR : ∀ g : Nat → PyData, ((List.range n).map g).length ≤ sizeLine := fun g => szR hn (by decide)
  have hB0 : 0 ≤ B := Int.le_trans (h0 0 0) (hB 0 0)
  have mfF := mf04_fn K Blen Brange Blist Bmin Bmax stPto stAug stCap hn hs ht hl hes hC (fun u v _ _ => h0 u v)
  have bd : ∀ u v, u < n → v < n → (FlK n s t C u v).natAbs < 10 ^ 40 := fun u v hu hv => small_pos (FlK_bd (t := t) hs (fun u v _ _ => h0 u v) hu hv) (hB u v) hB1
  have vb : (sm n (FlK n s t C s) - sm n (fun u => FlK n s t C u s)).natAbs < 10 ^ 40 := small4 (FlK_val (t := t) hn hs (fun u v _ _ => h0 u v) (fun u v _ _ => hB u v) hB0) hB0 hB1
  have sidF := sid04_fn K Blen Brange stCap hn hs hl hes hC (Fl := FlK n s t C)
  change Fn c 3 mf04 _ (.list (mkT n fun u v => .int (FlK n s t C u v))) true at mfF
  generalize FlK n s t C = Fl at mfF bd vb sidF ⊢
  generalize (brun (RG C Fl) s n n 0 (fun _ => none, [s])).1 = P at sidF ⊢
  refine s_asg (sk := .lo) FS (ev_call K stMf rfl (evl_w (ev_name_w (by (exact At.via (by with_reducible repeat' (first | exact Nm.here | apply Nm.there)) rfl))) (evl_w (ev_name_w (by (exact At.via (by with_reducible repeat' (first | exact Nm.here | apply Nm.there)) rfl))) (evl_w (ev_name_w (by (exact At.via (by with_reducible repeat' (first | exact Nm.here | apply Nm.there)) rfl))) (evl_w (ev_name_w (by (exact At.via (by with_reducible repeat' (first | exact Nm.here | apply Nm.there)) rfl))) evl_nilU)))) mfF (Nat.le_of_ble_eq_true rfl)) .frlo (by (with_reducible repeat' (first | exact Upd.here | apply Upd.there | exact Nm.here | apply Nm.there))) ?_
  refine s_asg (sk := .ow) FS (ev_list (evl_fr (ev_valS (ev_call K stVal rfl (evl_w (ev_name_w (by (exact At.via (by with_reducible repeat' (first | exact Nm.here | apply Nm.there)) rfl))) (evl_w (ev_name_w (by (exact At.via (by with_reducible repeat' (first | exact Nm.here | apply Nm.there)) rfl))) evl_nilU)) (val04_fn K Bsum (Nat.le_trans hn (by decide)) hs) (Nat.le_of_ble_eq_true rfl)) vb) evl_nil) (Nat.le_of_ble_eq_true rfl)) .fr (by (with_reducible repeat' (first | exact Upd.here | apply Upd.there | exact Nm.here | apply Nm.there))) ?_
  have hpl : (pipesP n Fl).length ≤ 16 := by
    unfold pipesP
    rw [List.length_flatMap]
    refine Nat.le_trans (sum_leN (B := 4) (l := (List.range n).map fun u => (((List.range n).filter fun (v : Nat) => Fl u v != 0).map fun (v : Nat) => pipeS u v (Fl u v)).length) fun x hx => ?_) ?_
    · obtain ⟨u, _, rfl⟩ := List.mem_map.mp hx
      rw [List.length_map]
      refine Nat.le_trans (List.length_filter_le ..) ?_
      simpa using hn
    · rw [List.length_map, List.length_range]; exact Nat.mul_le_mul_right 4 hn
  refine s_iadd FS (by (exact At.via (by with_reducible repeat' (first | exact Nm.here | apply Nm.there)) rfl)) (Ev.cast (d' := .list ((pipesP n Fl).map .str)) (ev_comp2X (enc := encN) (enc2 := encN) (zs := List.range n) (p := fun u v => Fl u v != 0) (g := fun u v => .str (pipeS u v (Fl u v))) .lo H0 [4, 0] ["flow", "n"] [some ⟨.lo, .list (mkT n fun u v => .int (Fl u v))⟩, some ⟨.sh, .int n⟩] []
    (it_n (it_range1 K Brange rfl (ev_name_w (by (exact At.via (by with_reducible repeat' (first | exact Nm.here | apply Nm.there)) rfl))) (nI1 hn (by decide)) nI2)) (.flat encN_flat (by decide)) ?_ (fun C1 u hu => itn_range (n := (n : Int)) K Brange rfl (ev_name_w (by (exact At.via (by with_reducible repeat' (first | exact Nm.here | apply Nm.there)) rfl))) (nI1 hn (by decide)) nI2) (fun C1 H1 u hu v hv => ?_) (fun C1 H1 u hu v hv _ => ?_)) ?_) (flats_map (fun _ => rfl) _) ?_ (by (with_reducible repeat' (first | exact Upd.here | apply Upd.there | exact Nm.here | apply Nm.there))) ?_
  · rw [List.length_range, List.length_range, Int.toNat_natCast]
    exact Nat.le_trans (Nat.mul_le_mul hn hn) (by decide +kernel)
  · have hu : u < n := rngN hu
    have hv : v < n := List.mem_range.mp hv
    exact ifs_one (tst_int (ev_at (i := v) (d := .int (Fl u v)) (ev_at (i := u) (ev_name_w (by (exact At.via (by with_reducible repeat' (first | exact Nm.here | apply Nm.there)) rfl))) (ev_name_w (by (exact At.via (by with_reducible repeat' (first | exact Nm.here | apply Nm.there)) rfl))) (mkT_row hu) (hszT _)) (ev_name_w (by (exact At.via (by with_reducible repeat' (first | exact Nm.here | apply Nm.there)) rfl))) (rangeMap_at hv) (hszR _)))
  · have hu : u < n := rngN hu
    have hv : v < n := List.mem_range.mp hv
    exact ev_pipeS (ev_name_w (by (exact At.via (by with_reducible repeat' (first | exact Nm.here | apply Nm.there)) rfl))) (ev_name_w (by (exact At.via (by with_reducible repeat' (first | exact Nm.here | apply Nm.there)) rfl))) (ev_at (i := v) (d := .int (Fl u v)) (ev_at (i := u) (ev_name_w (by (exact At.via (by with_reducible repeat' (first | exact Nm.here | apply Nm.there)) rfl))) (ev_name_w (by (exact At.via (by with_reducible repeat' (first | exact Nm.here | apply Nm.there)) rfl))) (mkT_row hu) (hszT _)) (ev_name_w (by (exact At.via (by with_reducible repeat' (first | exact Nm.here | apply Nm.there)) rfl))) (rangeMap_at hv) (hszR _)) (pt_abs (Nat.lt_of_lt_of_le hu (Nat.le_trans hn (by decide)))) (pt_abs (Nat.lt_of_lt_of_le hv (Nat.le_trans hn (by decide)))) (bd u v hu hv)
  · unfold pipesP
    rw [List.map_flatMap]
    simp only [List.map_map]; rfl
  · rw [List.length_map]; exact le17 (Nat.add_le_add_left hpl 1)
  refine s_when (tst_cmp (ev_name_w (by (exact At.via (by with_reducible repeat' (first | exact Nm.here | apply Nm.there)) rfl))) (ev_name_w (by (exact At.via (by with_reducible repeat' (first | exact Nm.here | apply Nm.there)) rfl))) cmp_ne) (fun h => ?_) (fun h => ?_)
  · have hst : ¬ s = t := bne_nat h
    refine s_asg (sk := .lo) FS (ev_call K stSid rfl (evl_w (ev_name_w (by (exact At.via (by with_reducible repeat' (first | exact Nm.here | apply Nm.there)) rfl))) (evl_w (ev_name_w (by (exact At.via (by with_reducible repeat' (first | exact Nm.here | apply Nm.there)) rfl))) (evl_w (ev_name_w (by (exact At.via (by with_reducible repeat' (first | exact Nm.here | apply Nm.there)) rfl))) (evl_w (ev_name_w (by (exact At.via (by with_reducible repeat' (first | exact Nm.here | apply Nm.there)) rfl))) evl_nilU)))) sidF (Nat.le_of_ble_eq_true rfl)) .frlo (by (with_reducible repeat' (first | exact Upd.here | apply Upd.there | exact Nm.here | apply Nm.there))) ?_
    obtain ⟨_, _, j1⟩ := jn4_ok hn (sdB s P)
    obtain ⟨_, _, j2⟩ := jn4_ok hn fun v => !sdB s P v
    have l1 := len_app lit_cut j1
    have l2 := len_app l1 lit_bar
    have l3 := len_app l2 j2
    change Ex c _ _ [some ⟨.sh, .int n⟩, some ⟨.sh, .list (es.map encE)⟩, some ⟨.sh, .int s⟩, some ⟨.sh, .int t⟩, some ⟨.lo, .list (mkT n fun u v => .int (Fl u v))⟩, _, some ⟨.lo, .list ((List.range n).map fun v => .bool (sdB s P v))⟩] _
    refine s_append FS (by (exact At.via (by with_reducible repeat' (first | exact Nm.here | apply Nm.there)) rfl)) (ev_adds (ev_adds (ev_adds ev_str (ev_joinS K BM HTc Brange Bstr rfl (ev_name_w (by (exact At.via (by with_reducible repeat' (first | exact Nm.here | apply Nm.there)) rfl))) hn (by (exact At.via (by with_reducible repeat' (first | exact Nm.here | apply Nm.there)) rfl)) H0 (by decide +kernel) (by decide +kernel) (by decide +kernel) (by rfl) (by rfl) (by rfl) (by rfl) (by decide +kernel) (by rfl) (by rfl)) ?_) ev_str ?_)
      (ev_joinNS K BM HTc Brange Bstr rfl (ev_name_w (by (exact At.via (by with_reducible repeat' (first | exact Nm.here | apply Nm.there)) rfl))) hn (by (exact At.via (by with_reducible repeat' (first | exact Nm.here | apply Nm.there)) rfl)) H0 (by decide +kernel) (by decide +kernel) (by decide +kernel) (by rfl) (by rfl) (by rfl) (by rfl) (by decide +kernel) (by rfl) (by rfl)) ?_) (.inr rfl) ?_ (by (with_reducible repeat' (first | exact Upd.here | apply Upd.there | exact Nm.here | apply Nm.there))) (s_end ?_)
    · rw [← Str.length_append]; exact len_line l1 (by decide)
    · rw [← Str.length_append]; exact len_line l2 (by decide)
    · rw [← Str.length_append]; exact len_line l3 (by decide)
    · rw [List.length_append, List.length_map]; exact le17 (Nat.add_le_add_left hpl 1)
    · refine s_retO (by (exact At.via (by with_reducible repeat' (first | exact Nm.here | apply Nm.there)) rfl)) ⟨?_, fun _ => rfl⟩
      unfold repP
      rw [if_neg hst]
      simp only [List.map_cons, List.map_append, List.map_nil, List.cons_append, List.nil_append, List.append_assoc]; rfl
  · have hst : s = t := bne_natf h
    refine s_retO (by (exact At.via (by with_reducible repeat' (first | exact Nm.here | apply Nm.there)) rfl)) ⟨?_, fun _ => rfl⟩
    unfold repP
    rw [if_pos hst]
    simp only [List.map_cons, List.map_append, List.map_nil, List.cons_append, List.nil_append, List.append_nil]
end Mine

set_option maxRecDepth 100000
namespace Mine
open PySem PySem.Spec PySem.Calls PyProof.Rows


noncomputable def at04 : FnD := fnAt PySem.Challenge.pw_k21_0004 10
theorem at04_fn {c : Cx} (C : CxOk c) (Blen : Bi c "len" (.builtin "len")) {ns : List Int} (hn : ns.length ≤ 63) {i : Int} (hi : 0 ≤ i) :
    Fn c 1 at04 [.list (ns.map .int), .int i] (.int (cellD ns i 0)) true := by
  refine fn_go ["script", "i"] [] ["script", "i"] C ?_ rfl (by decide +kernel) (by decide +kernel) rfl rfl rfl [some ⟨.sh, .list (ns.map .int)⟩, some ⟨.sh, .int i⟩] ?_
  · intro pm cd doc vals hv
    obtain ⟨a, b, rfl⟩ := len2 hv; rfl
  intro fm FS
  refine s_when (tst_cmp (ev_name_w (by (exact At.via (by with_reducible repeat' (first | exact Nm.here | apply Nm.there)) rfl))) (ev_vcall1 (.inl ⟨_, rfl⟩) C Blen rfl (ev_name_w (by (exact At.via (by with_reducible repeat' (first | exact Nm.here | apply Nm.there)) rfl))) (vc_len (lenI hn (by decide)))) cmp_lt) (fun h => ?_) (fun h => ?_)
  · have hlt : i < (ns.length : Int) := by rw [List.length_map] at h; exact of_decide_eq_true h
    refine s_ret (u := true) (ev_item (d := .int (ns.getD i.toNat 0)) (ev_name_w (by (exact At.via (by with_reducible repeat' (first | exact Nm.here | apply Nm.there)) rfl))) (ev_name_w (by (exact At.via (by with_reducible repeat' (first | exact Nm.here | apply Nm.there)) rfl))) hi (Int.lt_trans hlt (nI4 hn (by decide))) (il_get ((Int.toNat_lt hi).mpr hlt))) ⟨?_, fun _ => rfl⟩ (.inr (.inr (.inl rfl)))
    rw [cellD, if_pos hlt]
  · have hlt : ¬ i < (ns.length : Int) := by rw [List.length_map] at h; exact of_decide_eq_false h
    refine s_ret (u := true) ev_int ⟨?_, fun _ => rfl⟩ (.inr (.inr (.inl rfl)))
    rw [cellD, if_neg hlt]

section
variable {c : Cx} {f : Fm} {ρ : Rho}
/-- (x, y), names of points -/
theorem ev_pt2 {x y : Str} {xp yp tp : Pos} {a b : Int} {kx ky : K} {ix iy tn : Nat} (hx : At f.xs ρ x ⟨kx, .int a⟩ ix) (hy : At f.xs ρ y ⟨ky, .int b⟩ iy)
    (h1 : (x == ("__debug__" : Str)) = false := by decide +kernel) (h2 : (x == ("__classdict__" : Str)) = false := by decide +kernel) (h3 : (y == ("__debug__" : Str)) = false := by decide +kernel) (h4 : (y == ("__classdict__" : Str)) = false := by decide +kernel) :
    Ev c f ρ (.Tuple [.Name x xp, .Name y yp] tn tp) (.tuple ([a, b].map .int)) .fr :=
  Ev.ofFlat (ev_tuple (evl_w (ev_name_w hx h1 h2) (evl_w (ev_name_w hy h3 h4) evl_nilU)) (Nat.le_of_ble_eq_true rfl)) rfl
/-- z[x, y], a table -/
theorem ev_cap {x y z : Str} {xp yp zp tp pos : Pos} {a b : Nat} {kx ky kz : K} {ix iy iz tn : Nat} {F : Tb} {l : List (Nat × Nat)} (hz : At f.xs ρ z ⟨kz, dD (tabL F l)⟩ iz) (hx : At f.xs ρ x ⟨kx, .int (a : Int)⟩ ix) (hy : At f.xs ρ y ⟨ky, .int (b : Int)⟩ iy) (hm : (a, b) ∈ l)
    (h1 : (x == ("__debug__" : Str)) = false := by decide +kernel) (h2 : (x == ("__classdict__" : Str)) = false := by decide +kernel) (h3 : (y == ("__debug__" : Str)) = false := by decide +kernel) (h4 : (y == ("__classdict__" : Str)) = false := by decide +kernel)
    (h5 : (z == ("__debug__" : Str)) = false := by decide +kernel) (h6 : (z == ("__classdict__" : Str)) = false := by decide +kernel) :
    Ev c f ρ (.Subscript (.Name z zp) (.Tuple [.Name x xp, .Name y yp] tn tp) pos) (.int (F a b)) .fr :=
  ev_dget (ks := [(a : Int), (b : Int)]) (ev_name_w hz h5 h6) (ev_pt2 hx hy h1 h2 h3 h4) (dfind_tab hm)
end

noncomputable def acr04 : FnD := fnAt PySem.Challenge.pw_k21_0004 11
theorem acr04_fn {c : Cx} (K : CxOk c) (Brange : Bi c "range" (.type "range")) (Bsum : Bi c "sum" (.builtin "sum")) {C : Tb} {l : List Nat} (hl : l.length ≤ 4) (hlt : ∀ u ∈ l, u < 4) :
    Fn c 1 acr04 [dD (tabL C prs4), .list (nl l)] (.int (acr C l)) true := by
  refine fn_go ["cap", "side"] [] ["cap", "side"] K ?_ rfl (by decide +kernel) (by decide +kernel) rfl rfl rfl [some ⟨.sh, dD (tabL C prs4)⟩, some ⟨.sh, .list (nl l)⟩] ?_
  · intro pm cd doc vals hv
    obtain ⟨a, b, rfl⟩ := len2 hv; rfl
  intro fm FS
  have H0 := HasCells.ofs (ys := ["cap", "side"]) FS acr04.scope rfl ["cap", "side"] rfl (by decide +kernel)
  refine s_ret (u := true) (ev_vcall1 (.inl ⟨_, rfl⟩) K Bsum rfl (Ev.cast (d' := il (l.flatMap fun u => ((List.range 4).filter fun v => !l.contains v).map fun v => C u v)) (ev_comp2X (enc := encN) (enc2 := encN) (ls := l) (zs := List.range 4) (p := fun u v => !decide (v ∈ l)) (g := fun u v => .int (C u v)) .lo H0 [0, 1] ["cap", "side"] [some ⟨.sh, dD (tabL C prs4)⟩, some ⟨.sh, .list (nl l)⟩] []
    (it_list (ev_name_w (by (exact At.via (by with_reducible repeat' (first | exact Nm.here | apply Nm.there)) rfl)))) (.flat (flat_map (fun _ => rfl) _) (by decide)) ?_ (fun C1 u hu => itn_range (n := (4 : Int)) K Brange rfl ev_int (by decide) (by decide)) (fun C1 H1 u hu v hv => ?_) (fun C1 H1 u hu v hv _ => ?_)) ?_) vc_sum) ⟨rfl, fun _ => rfl⟩ (.inl rfl)
  · rw [List.length_range]; exact Nat.le_trans (Nat.mul_le_mul_right 4 hl) (by decide +kernel)
  · show Ifs _ _ _ _ (!decide (v ∈ l))
    rw [← nl_any l v]
    exact ifs_one (tst_cmp (ev_name_w (by (exact At.via (by with_reducible repeat' (first | exact Nm.here | apply Nm.there)) rfl))) (ev_name_w (by (exact At.via (by with_reducible repeat' (first | exact Nm.here | apply Nm.there)) rfl))) (cmp_notin (Sm.shaped (n := 0) Sm.int) (nl_can l)))
  · have hv : v < 4 := by simpa using hv
    exact ev_cap (by (exact At.via (by with_reducible repeat' (first | exact Nm.here | apply Nm.there)) rfl)) (by (exact At.via (by with_reducible repeat' (first | exact Nm.here | apply Nm.there)) rfl)) (by (exact At.via (by with_reducible repeat' (first | exact Nm.here | apply Nm.there)) rfl)) (prs4_mem.mpr ⟨hlt u hu, hv⟩)
  · congr 1
    rw [List.map_flatMap]
    refine congrArg (fun g => l.flatMap g) (funext fun u => ?_)
    rw [List.map_map]
    have : (List.range 4).filter (fun v => !l.contains v) = (List.range 4).filter (fun v => !decide (v ∈ l)) := List.filter_congr fun v _ => by simp
    rw [this]; rfl
end Mine

set_option maxRecDepth 100000
namespace Mine
open PySem PySem.Spec PySem.Calls PyProof.Rows


noncomputable abbrev toI3 (e : Nat × Nat × Int) : Int × Int × Int := ((e.1 : Int), (e.2.1 : Int), e.2.2)
theorem enc_I3 (es : List (Nat × Nat × Int)) : es.map encE = (es.map toI3).map encI := by rw [List.map_map]; rfl
theorem cap0_eq : (((List.range 4).flatMap fun (u : Nat) => ((List.range 4).filter fun (_ : Nat) => true).map fun (v : Nat) => (([(u : Int), (v : Int)], (0 : Int)) : List Int × Int)).foldl dput1 []) = tabL (fun _ _ => 0) prs4 := by decide +kernel
theorem pq0 : (goods4.all fun g => decide (((List.range 4).filter fun (v : Nat) => ((v : Int) != (g.1 : Int)) && ((v : Int) != (g.2.1 : Int))) = [g.2.2.1, g.2.2.2])) = true := by decide +kernel
theorem pq_eq {n s t p q : Nat} (G : Gd n s t p q) : ((List.range 4).filter fun (v : Nat) => ((v : Int) != (s : Int)) && ((v : Int) != (t : Int))) = [p, q] := of_decide_eq_true (List.all_eq_true.mp pq0 _ G.four)
/-- f'cut: {e1} | {e2}' -/
theorem ev_cutS {c : Cx} {f : Fm} {ρ : Rho} {e1 e2 : Expr} {k1 k2 : EK} {pos p1 p2 p3 p4 : Pos} {n1 n2 : Nat} {a b : Str} (h1 : Ev c f ρ e1 (.str a) k1) (h2 : Ev c f ρ e2 (.str b) k2) (ha : a.length ≤ 20) (hb : b.length ≤ 20) :
    Ev c f ρ (.JoinedStr [.Constant (.str (Str.ofString "cut: ")) n1 p1, .FormattedValue e1 (-1) none p2, .Constant (.str (Str.ofString " | ")) n2 p3, .FormattedValue e2 (-1) none p4] pos) (.str (cutS a b)) .fr := by
  have l1 := len_app lit_nil lit_cut
  have l2 := len_app l1 ha
  have l3 := len_app l2 lit_bar
  have l4 := len_app l3 hb
  refine Ev.cast (ev_joined (jp_cons ev_str (len_line l1 (by decide)) (jp_cons (ev_fstr h1 (len_line ha (by decide))) (len_line l2 (by decide)) (jp_cons ev_str (len_line l3 (by decide)) (jp_cons (ev_fstr h2 (len_line hb (by decide))) (len_line l4 (by decide)) (jp_nil (len_line l4 (by decide)))))))) ?_
  unfold cutS
  rw [nil_app]

noncomputable def due04 : FnD := fnAt PySem.Challenge.pw_k21_0004 12
noncomputable abbrev X04d : List Str := ["n", "edges", "s", "t", "u", "v", "cap", "w", "p", "q", "sp", "sq", "x", "y", "flow", "value", "want", "cuts", "near", "far"]
noncomputable abbrev R04d (n : Nat) (es : List (Nat × Nat × Int)) (s t : Nat) (u v cap w p q sp sq x y flow value want cuts near far : Option Slot) : Rho := [some ⟨.sh, .int n⟩, some ⟨.sh, .list (es.map encE)⟩, some ⟨.sh, .int s⟩, some ⟨.sh, .int t⟩, u, v, cap, w, p, q, sp, sq, x, y, flow, value, want, cuts, near, far]
theorem due04_same {c : Cx} (K : CxOk c) {n s : Nat} {es : List (Nat × Nat × Int)} : Fn c 3 due04 [.int n, .list (es.map encE), .int s, .int s] (.list ([Str.ofString "value 0"].map .str)) true := by
  refine fn_go ["n", "edges", "s", "t"] ["u", "v", "cap", "w", "p", "q", "sp", "sq", "x", "y", "flow", "value", "want", "cuts", "near", "far"] X04d K ?_ rfl (by decide +kernel) (by decide +kernel) rfl rfl rfl (R04d n es s s none none none none none none none none none none none none none none none none) ?_
  · intro pm cd doc vals hv
    obtain ⟨a, b, c, d, rfl⟩ := len4 hv; rfl
  intro fm FS
  refine s_when (tst_cmp (ev_name_w (by (exact At.via (by with_reducible repeat' (first | exact Nm.here | apply Nm.there)) rfl))) (ev_name_w (by (exact At.via (by with_reducible repeat' (first | exact Nm.here | apply Nm.there)) rfl))) cmp_eq) (fun h => ?_) (fun h => ?_)
  · exact s_ret (u := true) (ev_list (evl_fr ev_str evl_nil) (Nat.le_of_ble_eq_true rfl)) ⟨rfl, fun _ => rfl⟩ (.inl rfl)
  · simp at h
noncomputable abbrev cutE (l : List Nat) : PyData := .list (nl l)
set_option maxHeartbeats 4000000 in
theorem due04_fn {c : Cx} (K : CxOk c) (Brange : Bi c "range" (.type "range")) (Bmin : Bi c "min" (.builtin "min")) (Bsum : Bi c "sum" (.builtin "sum")) (Bstr : Bi c "str" (.type "str")) (Bsorted : Bi c "sorted" (.builtin "sorted")) (stAcr : Stands c acr04)
    {n s t p q : Nat} (G : Gd n s t p q) {es : List (Nat × Nat × Int)} (hl : es.length ≤ 18) (hes : ∀ e ∈ es, e.1 < n ∧ e.2.1 < n)
    {C : Tb} (hC : C = fun (u v : Nat) => capF es u v) (hz : Zo n C) (h0 : ∀ u v, 0 ≤ C u v) {B : Int} (hB : ∀ u v, C u v ≤ B) (hB1 : B ≤ 10 ^ 32)
    {c0 : List Nat} {r : List (List Nat)} (hcut : cutsP C s p q (vsum C s t p q) = c0 :: r) :
    Fn c 3 due04 [.int n, .list (es.map encE), .int s, .int t] (.list ((dueP n (FlK n s t C) (vsum C s t p q) s t p q c0).map .str)) true := by
  refine fn_go ["n", "edges", "s", "t"] ["u", "v", "cap", "w", "p", "q", "sp", "sq", "x", "y", "flow", "value", "want", "cuts", "near", "far"] X04d K ?_ rfl (by decide +kernel) (by decide +kernel) rfl rfl rfl (R04d n es s t none none none none none none none none none none none none none none none none) ?_
  · intro pm cd doc vals hv
    obtain ⟨a, b, c, d, rfl⟩ := len4 hv; rfl
  intro fm FS
  refine cps fun W k => ?_
  obtain ⟨hs, ht, hn4, hst, hsp, hsq, htp, htq, hpq, hp4, hq4⟩ := G.ne
  refine k ?_
  clear k
  have hs4 : s < 4 := Nat.lt_of_lt_of_le hs hn4
  have ht4 : t < 4 := Nat.lt_of_lt_of_le ht hn4
  have H0 := HasCells.ofs (ys := ["s", "t", "cap", "value", "cuts"]) FS due04.scope rfl X04d rfl (by decide +kernel)
  refine s_when (tst_cmp (ev_name_w (by (exact At.via (by with_reducible repeat' (first | exact Nm.here | apply Nm.there)) rfl))) (ev_name_w (by (exact At.via (by with_reducible repeat' (first | exact Nm.here | apply Nm.there)) rfl))) cmp_eq) (fun h => absurd (beq_nat h) hst) (fun _ => ?_)
  refine s_asgE (sk := .ow) FS (Ev.cast (d' := dD (tabL (fun _ _ => 0) prs4)) (ev_dcomp2X (enc := encN) (enc2 := encN) (zs := List.range 4) (p := fun _ _ => true) (g := fun (u v : Nat) => ([(u : Int), (v : Int)], (0 : Int))) .lo K H0 [] [] [] []
    (it_n (it_range1 K Brange rfl ev_int (by decide) (by decide))) (.flat encN_flat (by decide)) (by decide +kernel) (fun C1 u hu => itn_range (n := (4 : Int)) K Brange rfl ev_int (by decide) (by decide)) (fun C1 H1 u hu v hv => ifs_nil)
    (fun C1 H1 u hu v hv _ => ⟨ev_pt2 (by (exact At.via (by with_reducible repeat' (first | exact Nm.here | apply Nm.there)) rfl)) (by (exact At.via (by with_reducible repeat' (first | exact Nm.here | apply Nm.there)) rfl)), ev_int⟩)) (congrArg dD cap0_eq)) .fr (by (with_reducible repeat' (first | exact Upd.here | apply Upd.there | exact Nm.here | apply Nm.there))) ?_
  refine s_for3 (i1 := 4) (i2 := 5) (i3 := 7) (ls := es.map toI3) FS (it_listL (Ev.cast (ev_name_sh (by (exact At.via (by with_reducible repeat' (first | exact Nm.here | apply Nm.there)) rfl))) (by rw [enc_I3]))) (.flat rfl (flat_map (fun _ => rfl) _))
    (fun j ρ => ∃ o1 o2 o3, ρ = R04d n es s t o1 o2 (some ⟨.ow, dD (tabL (fun u v => capF (es.take j) u v) prs4)⟩) o3 none none none none none none none none none none none none) ⟨none, none, none, rfl⟩ ?_ ?_
  · rintro j el ρ' hj ⟨o1, o2, o3, rfl⟩
    rw [List.getElem?_map] at hj
    obtain ⟨e, hje, rfl⟩ := Option.map_eq_some_iff.mp hj
    obtain ⟨h1, h2⟩ := hes e (List.mem_of_getElem? hje)
    have hm : (e.1, e.2.1) ∈ prs4 := prs4_mem.mpr ⟨Nat.lt_of_lt_of_le h1 hn4, Nat.lt_of_lt_of_le h2 hn4⟩
    refine ⟨_, _, _, by (with_reducible repeat' (first | exact Upd.here | apply Upd.there | exact Nm.here | apply Nm.there)), by (with_reducible repeat' (first | exact Upd.here | apply Upd.there | exact Nm.here | apply Nm.there)), by (with_reducible repeat' (first | exact Upd.here | apply Upd.there | exact Nm.here | apply Nm.there)), ?_⟩
    refine s_dset (ks := [(e.1 : Int), (e.2.1 : Int)]) FS (by (exact At.via (by with_reducible repeat' (first | exact Nm.here | apply Nm.there)) rfl)) (ev_add (ev_cap (a := e.1) (b := e.2.1) (by (exact At.via (by with_reducible repeat' (first | exact Nm.here | apply Nm.there)) rfl)) (by (exact At.via (by with_reducible repeat' (first | exact Nm.here | apply Nm.there)) rfl)) (by (exact At.via (by with_reducible repeat' (first | exact Nm.here | apply Nm.there)) rfl)) hm) (ev_name_w (by (exact At.via (by with_reducible repeat' (first | exact Nm.here | apply Nm.there)) rfl)))) (ev_pt2 (by (exact At.via (by with_reducible repeat' (first | exact Nm.here | apply Nm.there)) rfl)) (by (exact At.via (by with_reducible repeat' (first | exact Nm.here | apply Nm.there)) rfl))) (by unfold tabL; rw [List.length_map]; decide +kernel) (by (with_reducible repeat' (first | exact Upd.here | apply Upd.there | exact Nm.here | apply Nm.there))) (s_end ?_)
    rw [dput_tab hm]
    have : tabL (fun u v => if u = e.1 ∧ v = e.2.1 then capF (es.take j) e.1 e.2.1 + e.2.2 else capF (es.take j) u v) prs4 = tabL (fun u v => capF (es.take (j + 1)) u v) prs4 := tab_congr fun x _ => by
      rw [List.take_add_one, hje, Option.toList_some, capF_snoc]
      by_cases h : x.1 = e.1 ∧ x.2 = e.2.1
      · rw [if_pos h, if_pos ⟨congrArg Nat.cast h.1, congrArg Nat.cast h.2⟩, h.1, h.2]
      · rw [if_neg h, if_neg fun k => h ⟨Int.ofNat.inj k.1, Int.ofNat.inj k.2⟩]
    exact ⟨_, _, _, by rw [← this]⟩
  rintro ρ' ⟨o1, o2, o3, rfl⟩
  rw [List.length_map, List.take_length, ← hC]
  refine s_unpL FS (Ev.cast (d' := .list [.int p, .int q]) (ev_compX (enc := encN) (p := fun (v : Nat) => ((v : Int) != (s : Int)) && ((v : Int) != (t : Int))) (g := fun (v : Nat) => .int v) .lo H0 [2, 3] ["s", "t"] [some ⟨.sh, .int s⟩, some ⟨.sh, .int t⟩] []
    (it_n (it_range1 K Brange rfl ev_int (by decide) (by decide))) (.flat encN_flat (by decide)) (by decide +kernel) (fun C1 H1 v hv => ifs_one (tst_and (tst_cmp (ev_name_w (by (exact At.via (by with_reducible repeat' (first | exact Nm.here | apply Nm.there)) rfl))) (ev_name_w (by (exact At.via (by with_reducible repeat' (first | exact Nm.here | apply Nm.there)) rfl))) cmp_ne) fun _ => tst_cmp (ev_name_w (by (exact At.via (by with_reducible repeat' (first | exact Nm.here | apply Nm.there)) rfl))) (ev_name_w (by (exact At.via (by with_reducible repeat' (first | exact Nm.here | apply Nm.there)) rfl))) cmp_ne)) (fun C1 H1 v hv _ => Ev.ofFlat (ev_name_w (by (exact At.via (by with_reducible repeat' (first | exact Nm.here | apply Nm.there)) rfl))) rfl)) (congrArg (fun l => PyData.list (l.map fun (v : Nat) => PyData.int v)) (pq_eq G))) rfl rfl (by (with_reducible repeat' (first | exact Upd.here | apply Upd.there | exact Nm.here | apply Nm.there))) (by (with_reducible repeat' (first | exact Upd.here | apply Upd.there | exact Nm.here | apply Nm.there))) ?_
  have m2 : ∀ {a b : Nat}, a < 4 → b < 4 → (a, b) ∈ prs4 := fun h1 h2 => prs4_mem.mpr ⟨h1, h2⟩
  refine s_asg (sk := .lo) FS (ev_vcall2 (.inl ⟨_, rfl⟩) K Bmin rfl (ev_cap (by (exact At.via (by with_reducible repeat' (first | exact Nm.here | apply Nm.there)) rfl)) (by (exact At.via (by with_reducible repeat' (first | exact Nm.here | apply Nm.there)) rfl)) (by (exact At.via (by with_reducible repeat' (first | exact Nm.here | apply Nm.there)) rfl)) (m2 hs4 hp4)) (ev_cap (by (exact At.via (by with_reducible repeat' (first | exact Nm.here | apply Nm.there)) rfl)) (by (exact At.via (by with_reducible repeat' (first | exact Nm.here | apply Nm.there)) rfl)) (by (exact At.via (by with_reducible repeat' (first | exact Nm.here | apply Nm.there)) rfl)) (m2 hp4 ht4)) vc_min2) (.flat rfl) (by (with_reducible repeat' (first | exact Upd.here | apply Upd.there | exact Nm.here | apply Nm.there))) ?_
  refine s_asg (sk := .lo) FS (ev_vcall2 (.inl ⟨_, rfl⟩) K Bmin rfl (ev_cap (by (exact At.via (by with_reducible repeat' (first | exact Nm.here | apply Nm.there)) rfl)) (by (exact At.via (by with_reducible repeat' (first | exact Nm.here | apply Nm.there)) rfl)) (by (exact At.via (by with_reducible repeat' (first | exact Nm.here | apply Nm.there)) rfl)) (m2 hs4 hq4)) (ev_cap (by (exact At.via (by with_reducible repeat' (first | exact Nm.here | apply Nm.there)) rfl)) (by (exact At.via (by with_reducible repeat' (first | exact Nm.here | apply Nm.there)) rfl)) (by (exact At.via (by with_reducible repeat' (first | exact Nm.here | apply Nm.there)) rfl)) (m2 hq4 ht4)) vc_min2) (.flat rfl) (by (with_reducible repeat' (first | exact Upd.here | apply Upd.there | exact Nm.here | apply Nm.there))) ?_
  refine s_asg (sk := .lo) FS (ev_vcall3 K Bmin rfl (ev_sub (ev_cap (by (exact At.via (by with_reducible repeat' (first | exact Nm.here | apply Nm.there)) rfl)) (by (exact At.via (by with_reducible repeat' (first | exact Nm.here | apply Nm.there)) rfl)) (by (exact At.via (by with_reducible repeat' (first | exact Nm.here | apply Nm.there)) rfl)) (m2 hs4 hp4)) (ev_name_w (by (exact At.via (by with_reducible repeat' (first | exact Nm.here | apply Nm.there)) rfl)))) (ev_cap (by (exact At.via (by with_reducible repeat' (first | exact Nm.here | apply Nm.there)) rfl)) (by (exact At.via (by with_reducible repeat' (first | exact Nm.here | apply Nm.there)) rfl)) (by (exact At.via (by with_reducible repeat' (first | exact Nm.here | apply Nm.there)) rfl)) (m2 hp4 hq4)) (ev_sub (ev_cap (by (exact At.via (by with_reducible repeat' (first | exact Nm.here | apply Nm.there)) rfl)) (by (exact At.via (by with_reducible repeat' (first | exact Nm.here | apply Nm.there)) rfl)) (by (exact At.via (by with_reducible repeat' (first | exact Nm.here | apply Nm.there)) rfl)) (m2 hq4 ht4)) (ev_name_w (by (exact At.via (by with_reducible repeat' (first | exact Nm.here | apply Nm.there)) rfl)))) vc_min3) (.flat rfl) (by (with_reducible repeat' (first | exact Upd.here | apply Upd.there | exact Nm.here | apply Nm.there))) ?_
  refine s_asg (sk := .lo) FS (ev_vcall3 K Bmin rfl (ev_sub (ev_cap (by (exact At.via (by with_reducible repeat' (first | exact Nm.here | apply Nm.there)) rfl)) (by (exact At.via (by with_reducible repeat' (first | exact Nm.here | apply Nm.there)) rfl)) (by (exact At.via (by with_reducible repeat' (first | exact Nm.here | apply Nm.there)) rfl)) (m2 hs4 hq4)) (ev_name_w (by (exact At.via (by with_reducible repeat' (first | exact Nm.here | apply Nm.there)) rfl)))) (ev_cap (by (exact At.via (by with_reducible repeat' (first | exact Nm.here | apply Nm.there)) rfl)) (by (exact At.via (by with_reducible repeat' (first | exact Nm.here | apply Nm.there)) rfl)) (by (exact At.via (by with_reducible repeat' (first | exact Nm.here | apply Nm.there)) rfl)) (m2 hq4 hp4)) (ev_sub (ev_cap (by (exact At.via (by with_reducible repeat' (first | exact Nm.here | apply Nm.there)) rfl)) (by (exact At.via (by with_reducible repeat' (first | exact Nm.here | apply Nm.there)) rfl)) (by (exact At.via (by with_reducible repeat' (first | exact Nm.here | apply Nm.there)) rfl)) (m2 hp4 ht4)) (ev_name_w (by (exact At.via (by with_reducible repeat' (first | exact Nm.here | apply Nm.there)) rfl)))) vc_min3) (.flat rfl) (by (with_reducible repeat' (first | exact Upd.here | apply Upd.there | exact Nm.here | apply Nm.there))) ?_
  have X := Fin4.of G hz h0
  have eFl := X.flowL
  refine cps fun W k => ?_
  obtain ⟨ks1, ks2, ks3⟩ := keys_sort G
  refine k ?_
  clear k
  have fbd : ∀ u v, (FlK n s t C u v).natAbs < 10 ^ 40 := fun u v => small_pos (flw_bd X u v) (hB u v) hB1
  have hB0 := Int.le_trans (h0 0 0) (hB 0 0)
  have vbd : (vsum C s t p q).natAbs < 10 ^ 40 := X.value ▸ small4 (FlK_val (t := t) hn4 hs (fun u v _ _ => h0 u v) (fun u v _ _ => hB u v) hB0) hB0 hB1
  have hcl : ∀ l ∈ cutL s p q, l.length ≤ 4 ∧ ∀ u ∈ l, u < 4 := fun l hl => by
    refine ⟨?_, (G.cand hl).lt⟩
    unfold cutL at hl
    simp only [List.mem_cons, List.not_mem_nil, or_false] at hl
    rcases hl with rfl | rfl | rfl | rfl <;> exact Nat.le_of_ble_eq_true rfl
  change Ex c _ _ (R04d n es s t o1 o2 (some ⟨.ow, dD (tabL C prs4)⟩) o3 (some ⟨.lo, .int p⟩) (some ⟨.lo, .int q⟩) (some ⟨.lo, .int (vals C s t p q).sp⟩) (some ⟨.lo, .int (vals C s t p q).sq⟩) (some ⟨.lo, .int (vals C s t p q).x⟩) (some ⟨.lo, .int (vals C s t p q).y⟩) none none none none none none) _
  unfold dueP
  unfold vsum at *
  clear X
  generalize vals C s t p q = V at *
  refine s_asg (sk := .lo) FS (Ev.cast (d' := dD (tabL (FlK n s t C) (keysN s t p q))) (ev_dict K (.cons (ev_pt2 (by (exact At.via (by with_reducible repeat' (first | exact Nm.here | apply Nm.there)) rfl)) (by (exact At.via (by with_reducible repeat' (first | exact Nm.here | apply Nm.there)) rfl))) (ev_cap (by (exact At.via (by with_reducible repeat' (first | exact Nm.here | apply Nm.there)) rfl)) (by (exact At.via (by with_reducible repeat' (first | exact Nm.here | apply Nm.there)) rfl)) (by (exact At.via (by with_reducible repeat' (first | exact Nm.here | apply Nm.there)) rfl)) (m2 hs4 ht4))
    (.cons (ev_pt2 (by (exact At.via (by with_reducible repeat' (first | exact Nm.here | apply Nm.there)) rfl)) (by (exact At.via (by with_reducible repeat' (first | exact Nm.here | apply Nm.there)) rfl))) (ev_add (ev_name_w (by (exact At.via (by with_reducible repeat' (first | exact Nm.here | apply Nm.there)) rfl))) (ev_name_w (by (exact At.via (by with_reducible repeat' (first | exact Nm.here | apply Nm.there)) rfl))))
    (.cons (ev_pt2 (by (exact At.via (by with_reducible repeat' (first | exact Nm.here | apply Nm.there)) rfl)) (by (exact At.via (by with_reducible repeat' (first | exact Nm.here | apply Nm.there)) rfl))) (ev_add (ev_name_w (by (exact At.via (by with_reducible repeat' (first | exact Nm.here | apply Nm.there)) rfl))) (ev_name_w (by (exact At.via (by with_reducible repeat' (first | exact Nm.here | apply Nm.there)) rfl))))
    (.cons (ev_pt2 (by (exact At.via (by with_reducible repeat' (first | exact Nm.here | apply Nm.there)) rfl)) (by (exact At.via (by with_reducible repeat' (first | exact Nm.here | apply Nm.there)) rfl))) (ev_add (ev_name_w (by (exact At.via (by with_reducible repeat' (first | exact Nm.here | apply Nm.there)) rfl))) (ev_name_w (by (exact At.via (by with_reducible repeat' (first | exact Nm.here | apply Nm.there)) rfl))))
    (.cons (ev_pt2 (by (exact At.via (by with_reducible repeat' (first | exact Nm.here | apply Nm.there)) rfl)) (by (exact At.via (by with_reducible repeat' (first | exact Nm.here | apply Nm.there)) rfl))) (ev_add (ev_name_w (by (exact At.via (by with_reducible repeat' (first | exact Nm.here | apply Nm.there)) rfl))) (ev_name_w (by (exact At.via (by with_reducible repeat' (first | exact Nm.here | apply Nm.there)) rfl))))
    (.cons (ev_pt2 (by (exact At.via (by with_reducible repeat' (first | exact Nm.here | apply Nm.there)) rfl)) (by (exact At.via (by with_reducible repeat' (first | exact Nm.here | apply Nm.there)) rfl))) (ev_name_w (by (exact At.via (by with_reducible repeat' (first | exact Nm.here | apply Nm.there)) rfl)))
    (.cons (ev_pt2 (by (exact At.via (by with_reducible repeat' (first | exact Nm.here | apply Nm.there)) rfl)) (by (exact At.via (by with_reducible repeat' (first | exact Nm.here | apply Nm.there)) rfl))) (ev_name_w (by (exact At.via (by with_reducible repeat' (first | exact Nm.here | apply Nm.there)) rfl))) .nil))))))) (List.cons_ne_nil _ _) rfl rfl (Nat.le_of_ble_eq_true rfl) (Nat.le_of_ble_eq_true rfl)) (by rw [eFl, puts_tab ks3])) .frlo (by (with_reducible repeat' (first | exact Upd.here | apply Upd.there | exact Nm.here | apply Nm.there))) ?_
  refine s_asg (sk := .sh) FS (ev_add (ev_add (ev_add (ev_add (ev_cap (by (exact At.via (by with_reducible repeat' (first | exact Nm.here | apply Nm.there)) rfl)) (by (exact At.via (by with_reducible repeat' (first | exact Nm.here | apply Nm.there)) rfl)) (by (exact At.via (by with_reducible repeat' (first | exact Nm.here | apply Nm.there)) rfl)) (m2 hs4 ht4)) (ev_name_w (by (exact At.via (by with_reducible repeat' (first | exact Nm.here | apply Nm.there)) rfl)))) (ev_name_w (by (exact At.via (by with_reducible repeat' (first | exact Nm.here | apply Nm.there)) rfl)))) (ev_name_w (by (exact At.via (by with_reducible repeat' (first | exact Nm.here | apply Nm.there)) rfl)))) (ev_name_w (by (exact At.via (by with_reducible repeat' (first | exact Nm.here | apply Nm.there)) rfl)))) (.flat rfl) (by (with_reducible repeat' (first | exact Upd.here | apply Upd.there | exact Nm.here | apply Nm.there))) ?_
  generalize C s t + V.sp + V.sq + V.x + V.y = value at *
  refine s_asg (sk := .ow) FS (ev_list (evl_fr (ev_valS (ev_name_w (by (exact At.via (by with_reducible repeat' (first | exact Nm.here | apply Nm.there)) rfl))) vbd) evl_nil) (Nat.le_of_ble_eq_true rfl)) .fr (by (with_reducible repeat' (first | exact Upd.here | apply Upd.there | exact Nm.here | apply Nm.there))) ?_
  generalize hF : FlK n s t C = F at *
  have hkl : (keysS s t p q).length ≤ 16 := Nat.le_trans (List.length_filter_le ..) (by decide)
  refine s_for2 (i1 := 4) (i2 := 5) (ls := (keysS s t p q).map toP) FS (it_listL (Ev.cast (ev_vcall1 (.inl ⟨_, rfl⟩) K Bsorted rfl (ev_name_w (by (exact At.via (by with_reducible repeat' (first | exact Nm.here | apply Nm.there)) rfl))) (vc_sortedP (ts := (keysN s t p q).map toP) (by unfold tabL; rw [List.map_map, List.map_map]; rfl) (Nat.le_of_ble_eq_true rfl) (Nat.le_of_ble_eq_true rfl) ks1)) (by rw [ks2]))) .fr
    (fun j ρ => ∃ o1 o2, ρ = R04d n es s t o1 o2 (some ⟨.ow, dD (tabL C prs4)⟩) o3 (some ⟨.lo, .int p⟩) (some ⟨.lo, .int q⟩) (some ⟨.lo, .int V.sp⟩) (some ⟨.lo, .int V.sq⟩) (some ⟨.lo, .int V.x⟩) (some ⟨.lo, .int V.y⟩) (some ⟨.lo, dD (tabL F (keysN s t p q))⟩) (some ⟨.sh, .int value⟩)
      (some ⟨.ow, .list ((valS value :: ((((keysS s t p q).take j).filter fun e => decide (0 < F e.1 e.2)).map fun e => pipeS e.1 e.2 (F e.1 e.2))).map .str)⟩) none none none) ⟨_, _, rfl⟩ ?_ ?_
  · rintro j el ρ' hj ⟨o1, o2, rfl⟩
    rw [List.getElem?_map] at hj
    obtain ⟨e, hje, rfl⟩ := Option.map_eq_some_iff.mp hj
    have hjl : j < (keysS s t p q).length := (List.getElem?_eq_some_iff.mp hje).1
    obtain ⟨k1, k2⟩ := List.mem_filter.mp (List.mem_of_getElem? hje)
    have hm : (e.1, e.2) ∈ keysN s t p q := of_decide_eq_true k2
    obtain ⟨hu4, hv4⟩ := prs4_mem.mp (show (e.1, e.2) ∈ prs4 from k1)
    refine ⟨_, _, by (with_reducible repeat' (first | exact Upd.here | apply Upd.there | exact Nm.here | apply Nm.there)), by (with_reducible repeat' (first | exact Upd.here | apply Upd.there | exact Nm.here | apply Nm.there)), ?_⟩
    rw [List.take_add_one, hje, Option.toList_some, List.filter_append]
    refine s_when (tst_cmp (ev_cap (a := e.1) (b := e.2) (by (exact At.via (by with_reducible repeat' (first | exact Nm.here | apply Nm.there)) rfl)) (by (exact At.via (by with_reducible repeat' (first | exact Nm.here | apply Nm.there)) rfl)) (by (exact At.via (by with_reducible repeat' (first | exact Nm.here | apply Nm.there)) rfl)) hm) ev_int cmp_gt) (fun h => ?_) (fun h => ?_)
    · refine s_append FS (by (exact At.via (by with_reducible repeat' (first | exact Nm.here | apply Nm.there)) rfl)) (ev_pipeS (ev_name_w (by (exact At.via (by with_reducible repeat' (first | exact Nm.here | apply Nm.there)) rfl))) (ev_name_w (by (exact At.via (by with_reducible repeat' (first | exact Nm.here | apply Nm.there)) rfl))) (ev_cap (a := e.1) (b := e.2) (by (exact At.via (by with_reducible repeat' (first | exact Nm.here | apply Nm.there)) rfl)) (by (exact At.via (by with_reducible repeat' (first | exact Nm.here | apply Nm.there)) rfl)) (by (exact At.via (by with_reducible repeat' (first | exact Nm.here | apply Nm.there)) rfl)) hm) (pt_abs (Nat.lt_of_lt_of_le hu4 (by decide))) (pt_abs (Nat.lt_of_lt_of_le hv4 (by decide))) (fbd _ _)) (.inr rfl) ?_ (by (with_reducible repeat' (first | exact Upd.here | apply Upd.there | exact Nm.here | apply Nm.there))) (s_end (s_end ?_))
      · have := List.length_filter_le (fun e => decide (0 < F e.1 e.2)) ((keysS s t p q).take j)
        rw [List.length_take] at this
        rw [List.length_map, List.length_cons, List.length_map]
        exact le17 (Nat.succ_le_succ (Nat.le_trans this (Nat.le_trans (Nat.min_le_right _ _) hkl)))
      · exact ⟨_, _, by rw [List.filter_cons, if_pos h, List.filter_nil, List.map_append, ← List.cons_append, List.map_append]; rfl⟩
    · exact s_end ⟨_, _, by rw [List.filter_cons, if_neg (by rw [h]; decide), List.filter_nil, List.append_nil]⟩
  rintro ρ' ⟨o1, o2, rfl⟩
  rw [List.length_map, List.take_length]
  have hwl : (valS value :: ((((keysS s t p q)).filter fun e => decide (0 < F e.1 e.2)).map fun e => pipeS e.1 e.2 (F e.1 e.2))).length ≤ 17 := by
    have := List.length_filter_le (fun e => decide (0 < F e.1 e.2)) (keysS s t p q)
    rw [List.length_cons, List.length_map]
    exact Nat.succ_le_succ (Nat.le_trans this hkl)
  generalize hW : (valS value :: ((((keysS s t p q)).filter fun e => decide (0 < F e.1 e.2)).map fun e => pipeS e.1 e.2 (F e.1 e.2))) = W at hwl ⊢
  refine s_asgE (sk := .lo) FS (Ev.cast (d' := .list ((c0 :: r).map cutE)) (ev_compId (xs := cutL s p q) (enc := cutE) (p := fun l => acr C l == value) H0 [6, 15] ["cap", "value"] [some ⟨.ow, dD (tabL C prs4)⟩, some ⟨.sh, .int value⟩] []
    (it_list (Ev.cast (ev_list (evl_fr (ev_list (evl_fr (Ev.ofFlat (ev_name_w (by (exact At.via (by with_reducible repeat' (first | exact Nm.here | apply Nm.there)) rfl))) rfl) evl_nil) (Nat.le_of_ble_eq_true rfl))
      (evl_fr (ev_list (evl_fr (Ev.ofFlat (ev_name_w (by (exact At.via (by with_reducible repeat' (first | exact Nm.here | apply Nm.there)) rfl))) rfl) (evl_fr (Ev.ofFlat (ev_name_w (by (exact At.via (by with_reducible repeat' (first | exact Nm.here | apply Nm.there)) rfl))) rfl) evl_nil)) (Nat.le_of_ble_eq_true rfl))
      (evl_fr (ev_list (evl_fr (Ev.ofFlat (ev_name_w (by (exact At.via (by with_reducible repeat' (first | exact Nm.here | apply Nm.there)) rfl))) rfl) (evl_fr (Ev.ofFlat (ev_name_w (by (exact At.via (by with_reducible repeat' (first | exact Nm.here | apply Nm.there)) rfl))) rfl) evl_nil)) (Nat.le_of_ble_eq_true rfl))
      (evl_fr (ev_list (evl_fr (Ev.ofFlat (ev_name_w (by (exact At.via (by with_reducible repeat' (first | exact Nm.here | apply Nm.there)) rfl))) rfl) (evl_fr (Ev.ofFlat (ev_name_w (by (exact At.via (by with_reducible repeat' (first | exact Nm.here | apply Nm.there)) rfl))) rfl) (evl_fr (Ev.ofFlat (ev_name_w (by (exact At.via (by with_reducible repeat' (first | exact Nm.here | apply Nm.there)) rfl))) rfl) evl_nil))) (Nat.le_of_ble_eq_true rfl)) evl_nil)))) (Nat.le_of_ble_eq_true rfl)) rfl)) (show 4 ≤ sizeLine by decide +kernel)
    (fun C1 H1 l hl => ifs_one (tst_cmp (ev_call K stAcr rfl (evl_w (ev_name_w (by (exact At.via (by with_reducible repeat' (first | exact Nm.here | apply Nm.there)) rfl))) (evl_w (ev_name_w (by (exact At.via (by with_reducible repeat' (first | exact Nm.here | apply Nm.there)) rfl))) evl_nilU)) (acr04_fn K Brange Bsum (hcl l hl).1 (hcl l hl).2) (Nat.le_of_ble_eq_true rfl)) (ev_name_w (by (exact At.via (by with_reducible repeat' (first | exact Nm.here | apply Nm.there)) rfl))) cmp_eq))) (by rw [← hcut]; rfl)) .lo (by (with_reducible repeat' (first | exact Upd.here | apply Upd.there | exact Nm.here | apply Nm.there))) ?_
  obtain ⟨g1, _, j1⟩ := jn4_ok hn4 fun v => decide (v ∈ c0)
  obtain ⟨g2, _, j2⟩ := jn4_ok hn4 fun v => !decide (v ∈ c0)
  refine s_asg (sk := .lo) FS (Ev.cast (d' := .str (jn4 n fun v => decide (v ∈ c0))) (ev_joinL (ts := ((List.range n).filter fun v => decide (v ∈ c0)).map fun (i : Nat) => tI i) (Ev.cast (ev_compX (enc := encN) (p := fun v => decide (v ∈ c0)) (g := fun (v : Nat) => .str (tI v)) .lo H0 [17] ["cuts"] [some ⟨.lo, .list ((c0 :: r).map cutE)⟩] []
    (it_n (it_range1 K Brange rfl (ev_name_w (by (exact At.via (by with_reducible repeat' (first | exact Nm.here | apply Nm.there)) rfl))) (nI1 hn4 (by decide)) nI2)) (.flat encN_flat (by decide)) (szN hn4 (by decide)) (fun C1 H1 v hv => ?_) (fun C1 H1 v hv _ => ?_)) ?_) g1) rfl) (.flat rfl) (by (with_reducible repeat' (first | exact Upd.here | apply Upd.there | exact Nm.here | apply Nm.there))) ?_
  · show Ifs _ _ _ _ (decide (v ∈ c0))
    rw [← nl_any c0 v]
    exact ifs_one (tst_cmp (ev_name_w (by (exact At.via (by with_reducible repeat' (first | exact Nm.here | apply Nm.there)) rfl))) (ev_item (i := 0) (d := cutE c0) (ev_name_w (by (exact At.via (by with_reducible repeat' (first | exact Nm.here | apply Nm.there)) rfl))) ev_int (by decide) (by decide) rfl) (cmp_in (Sm.shaped (n := 0) Sm.int) (nl_can c0)))
  · have hv : v < n := rngN hv
    exact ev_vcall1 (.inr ⟨_, rfl⟩) K Bstr rfl (ev_name_w (by (exact At.via (by with_reducible repeat' (first | exact Nm.here | apply Nm.there)) rfl))) (vc_stri (tI_log (pt_abs (Nat.lt_of_lt_of_le hv (Nat.le_trans hn4 (by decide))))))
  · rw [List.map_map]; rfl
  refine s_asg (sk := .lo) FS (Ev.cast (d' := .str (jn4 n fun v => !decide (v ∈ c0))) (ev_joinL (ts := ((List.range n).filter fun v => !decide (v ∈ c0)).map fun (i : Nat) => tI i) (Ev.cast (ev_compX (enc := encN) (p := fun v => !decide (v ∈ c0)) (g := fun (v : Nat) => .str (tI v)) .lo H0 [17] ["cuts"] [some ⟨.lo, .list ((c0 :: r).map cutE)⟩] []
    (it_n (it_range1 K Brange rfl (ev_name_w (by (exact At.via (by with_reducible repeat' (first | exact Nm.here | apply Nm.there)) rfl))) (nI1 hn4 (by decide)) nI2)) (.flat encN_flat (by decide)) (szN hn4 (by decide)) (fun C1 H1 v hv => ?_) (fun C1 H1 v hv _ => ?_)) ?_) g2) rfl) (.flat rfl) (by (with_reducible repeat' (first | exact Upd.here | apply Upd.there | exact Nm.here | apply Nm.there))) ?_
  · show Ifs _ _ _ _ (!decide (v ∈ c0))
    rw [← nl_any c0 v]
    exact ifs_one (tst_cmp (ev_name_w (by (exact At.via (by with_reducible repeat' (first | exact Nm.here | apply Nm.there)) rfl))) (ev_item (i := 0) (d := cutE c0) (ev_name_w (by (exact At.via (by with_reducible repeat' (first | exact Nm.here | apply Nm.there)) rfl))) ev_int (by decide) (by decide) rfl) (cmp_notin (Sm.shaped (n := 0) Sm.int) (nl_can c0)))
  · have hv : v < n := rngN hv
    exact ev_vcall1 (.inr ⟨_, rfl⟩) K Bstr rfl (ev_name_w (by (exact At.via (by with_reducible repeat' (first | exact Nm.here | apply Nm.there)) rfl))) (vc_stri (tI_log (pt_abs (Nat.lt_of_lt_of_le hv (Nat.le_trans hn4 (by decide))))))
  · rw [List.map_map]; rfl
  refine s_append FS (by (exact At.via (by with_reducible repeat' (first | exact Nm.here | apply Nm.there)) rfl)) (ev_cutS (ev_name_w (by (exact At.via (by with_reducible repeat' (first | exact Nm.here | apply Nm.there)) rfl))) (ev_name_w (by (exact At.via (by with_reducible repeat' (first | exact Nm.here | apply Nm.there)) rfl))) j1 j2) (.inr rfl) (szG hwl (by decide)) (by (with_reducible repeat' (first | exact Upd.here | apply Upd.there | exact Nm.here | apply Nm.there))) ?_
  refine s_retO (by (exact At.via (by with_reducible repeat' (first | exact Nm.here | apply Nm.there)) rfl)) ⟨?_, fun _ => rfl⟩
  rw [← hW, ← List.cons_append, List.map_append]; rfl
end Mine

set_option maxRecDepth 100000
namespace Mine
open PySem PySem.Spec PySem.Calls PyProof.Rows


theorem gd_of0 : ∀ n, n < 5 → ∀ s, s < n → ∀ t, t < n → s ≠ t → (goods.any fun g => decide (g.1 = n ∧ g.2.1 = s ∧ g.2.2.1 = t)) = true := by decide +kernel
theorem gd_of {n s t : Nat} (hn : n ≤ 4) (hs : s < n) (ht : t < n) (hst : s ≠ t) : ∃ p q, Gd n s t p q := by
  obtain ⟨g, hg, h⟩ := List.any_eq_true.mp (gd_of0 n (Nat.lt_succ_of_le hn) s hs t ht hst)
  obtain ⟨n', s', t', p, q⟩ := g
  obtain ⟨rfl, rfl, rfl⟩ := of_decide_eq_true h
  exact ⟨p, q, ⟨hg⟩⟩
noncomputable def cl04 (ns : List Int) : List Int := (ns.drop 4).take 18
noncomputable def e04 (ns : List Int) (n : Nat) (sp : Int) (i : Nat) : Nat × Nat × Int := (i % n, (i % n + 1 + i / n) % n, (cl04 ns).getD i 0 % sp)
noncomputable def law04 : FnD := fnAt PySem.Challenge.pw_k21_0004 13
noncomputable abbrev X04l : List Str := ["script", "n", "source", "sink", "span", "edges", "i", "c", "u", "kept", "got"]
noncomputable abbrev R04l (ns : List Int) (n s t : Nat) (sp : Int) (es : List (Nat × Nat × Int)) (i c u kept got : Option Slot) : Rho := [some ⟨.sh, .list (ns.map .int)⟩, some ⟨.sh, .int n⟩, some ⟨.sh, .int s⟩, some ⟨.sh, .int t⟩, some ⟨.sh, .int sp⟩, some ⟨.ow, .list (es.map encE)⟩, i, c, u, kept, got]
noncomputable def numL : List Nat := [4, 3, 4, 2, 1]
noncomputable def spnL : List Int := [6, 3, 21, 1000000000000000000000007]
theorem nums04 {k : Nat} (h : k < 5) : ∃ n : Nat, ([.int 4, .int 3, .int 4, .int 2, .int 1] : List PyData)[k]? = some (.int (n : Int)) ∧ 1 ≤ n ∧ n ≤ 4 := by
  have h' : k < numL.length := h
  refine ⟨numL[k], ?_, (by decide : ∀ x ∈ numL, 1 ≤ x ∧ x ≤ 4) _ (List.getElem_mem h')⟩
  show (numL.map fun (n : Nat) => PyData.int (n : Int))[k]? = _
  rw [List.getElem?_map, List.getElem?_eq_getElem h']; rfl
theorem span04 {k : Nat} (h : k < 4) : ∃ n : Int, ([.int 6, .int 3, .int 21, .int 1000000000000000000000007] : List PyData)[k]? = some (.int n) ∧ 0 < n ∧ n ≤ 10 ^ 30 := by
  have h' : k < spnL.length := h
  refine ⟨spnL[k], ?_, (by decide : ∀ x ∈ spnL, 0 < x ∧ x ≤ 10 ^ 30) _ (List.getElem_mem h')⟩
  show (spnL.map PyData.int)[k]? = _
  rw [List.getElem?_map, List.getElem?_eq_getElem h']; rfl
theorem law04_fn {c : Cx} (K : CxOk c) (BM : BMok c) (HT : HasTab c rep04) (Blen : Bi c "len" (.builtin "len")) (Brange : Bi c "range" (.type "range")) (Blist : Bi c "list" (.type "list")) (Bmin : Bi c "min" (.builtin "min")) (Bmax : Bi c "max" (.builtin "max")) (Bsum : Bi c "sum" (.builtin "sum")) (Bstr : Bi c "str" (.type "str")) (Bsorted : Bi c "sorted" (.builtin "sorted")) (Ben : Bi c "enumerate" (.type "enumerate"))
    (stPto : Stands c pto04) (stCap : Stands c cap04) (stAug : Stands c aug04) (stMf : Stands c mf04) (stVal : Stands c val04) (stSid : Stands c sid04) (stRep : Stands c rep04) (stAt : Stands c at04) (stAcr : Stands c acr04) (stDue : Stands c due04) {ns : List Int} (hns : ns.length ≤ 63) :
    Fn c 6 law04 [.list (ns.map .int)] (.bool true) true := by
  have a0 := Int.emod_nonneg (cellD ns 0 0) (b := 5) (by decide)
  have a1 := Int.emod_lt_of_pos (cellD ns 0 0) (b := 5) (by decide)
  have b0 := Int.emod_nonneg (cellD ns 3 0) (b := 4) (by decide)
  have b1 := Int.emod_lt_of_pos (cellD ns 3 0) (b := 4) (by decide)
  obtain ⟨n, hN, hn1, hn4⟩ := nums04 (k := (cellD ns 0 0 % 5).toNat) ((Int.toNat_lt a0).mpr a1)
  obtain ⟨sp, hSp, hsp0, hsp1⟩ := span04 (k := (cellD ns 3 0 % 4).toNat) ((Int.toNat_lt b0).mpr b1)
  have hp : (0 : Int) < n := Int.ofNat_lt.mpr hn1
  obtain ⟨s, hS⟩ : ∃ s : Nat, cellD ns 1 0 % (n : Int) = (s : Int) := ⟨_, (Int.toNat_of_nonneg (Int.emod_nonneg _ (Int.ne_of_gt hp))).symm⟩
  have hs : s < n := Int.ofNat_lt.mp (hS ▸ Int.emod_lt_of_pos (cellD ns 1 0) hp)
  obtain ⟨t, hT⟩ : ∃ t : Nat, cellD ns 2 0 % (n : Int) = (t : Int) := ⟨_, (Int.toNat_of_nonneg (Int.emod_nonneg _ (Int.ne_of_gt hp))).symm⟩
  have ht : t < n := Int.ofNat_lt.mp (hT ▸ Int.emod_lt_of_pos (cellD ns 2 0) hp)
  refine fn_go ["script"] X04l.tail X04l K ?_ rfl (by decide +kernel) (by decide +kernel) rfl rfl rfl [some ⟨.sh, .list (ns.map .int)⟩, none, none, none, none, none, none, none, none, none, none] ?_
  · intro pm cd doc vals hv
    obtain ⟨a, rfl⟩ := len1 hv; rfl
  intro fm FS
  refine s_asg (sk := .sh) FS (ev_tupitem (ev_tuple (evl_w ev_int (evl_w ev_int (evl_w ev_int (evl_w ev_int (evl_w ev_int evl_nilU))))) (Nat.le_of_ble_eq_true rfl)) (ev_mod (ev_call K stAt rfl (evl_w (ev_name_w (by (exact At.via (by with_reducible repeat' (first | exact Nm.here | apply Nm.there)) rfl))) (evl_w ev_int evl_nilU)) (at04_fn K Blen hns (by decide)) (Nat.le_of_ble_eq_true rfl)) ev_int (by decide)) a0 (Int.lt_trans a1 (by decide)) hN) (.flat rfl) (by (with_reducible repeat' (first | exact Upd.here | apply Upd.there | exact Nm.here | apply Nm.there))) ?_
  refine s_asg (sk := .sh) FS (Ev.cast (d' := .int s) (ev_mod (ev_call K stAt rfl (evl_w (ev_name_w (by (exact At.via (by with_reducible repeat' (first | exact Nm.here | apply Nm.there)) rfl))) (evl_w ev_int evl_nilU)) (at04_fn K Blen hns (by decide)) (Nat.le_of_ble_eq_true rfl)) (ev_name_w (by (exact At.via (by with_reducible repeat' (first | exact Nm.here | apply Nm.there)) rfl))) hp) (by rw [hS])) (.flat rfl) (by (with_reducible repeat' (first | exact Upd.here | apply Upd.there | exact Nm.here | apply Nm.there))) ?_
  refine s_asg (sk := .sh) FS (Ev.cast (d' := .int t) (ev_mod (ev_call K stAt rfl (evl_w (ev_name_w (by (exact At.via (by with_reducible repeat' (first | exact Nm.here | apply Nm.there)) rfl))) (evl_w ev_int evl_nilU)) (at04_fn K Blen hns (by decide)) (Nat.le_of_ble_eq_true rfl)) (ev_name_w (by (exact At.via (by with_reducible repeat' (first | exact Nm.here | apply Nm.there)) rfl))) hp) (by rw [hT])) (.flat rfl) (by (with_reducible repeat' (first | exact Upd.here | apply Upd.there | exact Nm.here | apply Nm.there))) ?_
  refine s_asg (sk := .sh) FS (ev_tupitem (ev_tuple (evl_w ev_int (evl_w ev_int (evl_w ev_int (evl_w ev_int evl_nilU)))) (Nat.le_of_ble_eq_true rfl)) (ev_mod (ev_call K stAt rfl (evl_w (ev_name_w (by (exact At.via (by with_reducible repeat' (first | exact Nm.here | apply Nm.there)) rfl))) (evl_w ev_int evl_nilU)) (at04_fn K Blen hns (by decide)) (Nat.le_of_ble_eq_true rfl)) ev_int (by decide)) b0 (Int.lt_trans b1 (by decide)) hSp) (.flat rfl) (by (with_reducible repeat' (first | exact Upd.here | apply Upd.there | exact Nm.here | apply Nm.there))) ?_
  refine s_asg (sk := .ow) FS (ev_list (k := .fr) evl_nil) .fr (by (with_reducible repeat' (first | exact Upd.here | apply Upd.there | exact Nm.here | apply Nm.there))) ?_
  have hcl : (cl04 ns).length ≤ 18 := by unfold cl04; rw [List.length_take]; exact Nat.min_le_left _ _
  refine s_forEn (ns := cl04 ns) (i1 := 6) (i2 := 7) K Ben rfl FS (ev_slice (ys := (cl04 ns).map .int) (ev_name_w (by (exact At.via (by with_reducible repeat' (first | exact Nm.here | apply Nm.there)) rfl))) (.some ev_int) (.some ev_int) (flats_map (fun _ => rfl) _) (szG hns (by decide)) ?_) rfl
    (fun j ρ => ∃ o1 o2 o3, ρ = R04l ns n s t sp ((List.range j).map (e04 ns n sp)) o1 o2 o3 none none) ⟨none, none, none, rfl⟩ ?_ ?_
  · rw [pick_map, cl04]
    exact congrArg (List.map PyData.int) (pick_run ns 4 22)
  · rintro j x ρ' hj ⟨o1, o2, o3, rfl⟩
    have hjl : j < (cl04 ns).length := (List.getElem?_eq_some_iff.mp hj).1
    have hg : (cl04 ns).getD j 0 = x := by rw [List.getD_eq_getElem?_getD, hj]; rfl
    refine ⟨_, _, by (with_reducible repeat' (first | exact Upd.here | apply Upd.there | exact Nm.here | apply Nm.there)), by (with_reducible repeat' (first | exact Upd.here | apply Upd.there | exact Nm.here | apply Nm.there)), ?_⟩
    refine s_asg (sk := .lo) FS (Ev.cast (d' := .int ((j % n : Nat) : Int)) (ev_mod (ev_name_w (by (exact At.via (by with_reducible repeat' (first | exact Nm.here | apply Nm.there)) rfl))) (ev_name_w (by (exact At.via (by with_reducible repeat' (first | exact Nm.here | apply Nm.there)) rfl))) hp) rfl) (.flat rfl) (by (with_reducible repeat' (first | exact Upd.here | apply Upd.there | exact Nm.here | apply Nm.there))) ?_
    refine s_append FS (by (exact At.via (by with_reducible repeat' (first | exact Nm.here | apply Nm.there)) rfl)) (Ev.cast (d' := encE (e04 ns n sp j)) (ev_tuple (evl_w (ev_name_w (by (exact At.via (by with_reducible repeat' (first | exact Nm.here | apply Nm.there)) rfl))) (evl_w (ev_mod (ev_add (ev_add (ev_name_w (by (exact At.via (by with_reducible repeat' (first | exact Nm.here | apply Nm.there)) rfl))) ev_int) (ev_fdiv (ev_name_w (by (exact At.via (by with_reducible repeat' (first | exact Nm.here | apply Nm.there)) rfl))) (ev_name_w (by (exact At.via (by with_reducible repeat' (first | exact Nm.here | apply Nm.there)) rfl))) hp (nI6 hn4 (by decide)))) (ev_name_w (by (exact At.via (by with_reducible repeat' (first | exact Nm.here | apply Nm.there)) rfl))) hp) (evl_w (ev_mod (ev_name_w (by (exact At.via (by with_reducible repeat' (first | exact Nm.here | apply Nm.there)) rfl))) (ev_name_w (by (exact At.via (by with_reducible repeat' (first | exact Nm.here | apply Nm.there)) rfl))) hsp0) evl_nilU))) (Nat.le_of_ble_eq_true rfl)) (by unfold e04; rw [hg]; rfl)) (.inr rfl) (szG (by rw [List.length_map, List.length_range]; exact Nat.le_trans (Nat.le_of_lt hjl) hcl) (by decide)) (by (with_reducible repeat' (first | exact Upd.here | apply Upd.there | exact Nm.here | apply Nm.there))) (s_end ?_)
    exact ⟨_, _, _, by rw [List.range_succ, List.map_append]; unfold R04l; rw [List.map_append]; rfl⟩
  rintro ρ' ⟨o1, o2, o3, rfl⟩
  have hes : ∀ e ∈ (List.range (cl04 ns).length).map (e04 ns n sp), (e.1 < n ∧ e.2.1 < n) ∧ 0 ≤ e.2.2 ∧ e.2.2 ≤ 10 ^ 30 := fun e he => by
    obtain ⟨i, _, rfl⟩ := List.mem_map.mp he
    refine ⟨⟨Nat.mod_lt _ hn1, Nat.mod_lt _ hn1⟩, Int.emod_nonneg _ (Int.ne_of_gt hsp0), ?_⟩
    exact Int.le_trans (Int.le_of_lt (Int.emod_lt_of_pos _ hsp0)) hsp1
  have hlen : ((List.range (cl04 ns).length).map (e04 ns n sp)).length ≤ 18 := by rw [List.length_map, List.length_range]; exact hcl
  generalize (List.range (cl04 ns).length).map (e04 ns n sp) = es at hes hlen ⊢
  refine s_asg (sk := .lo) FS (ev_vcall1 (.inr ⟨_, rfl⟩) K Blist rfl (ev_name_w (by (exact At.via (by with_reducible repeat' (first | exact Nm.here | apply Nm.there)) rfl))) (vc_list (flats_map (fun _ => rfl) _) (szG hlen (by decide)))) .frlo (by (with_reducible repeat' (first | exact Upd.here | apply Upd.there | exact Nm.here | apply Nm.there))) ?_
  have h0 : ∀ u v : Nat, 0 ≤ capF es u v := fun u v => capF_nonneg (fun e he => (hes e he).2.1) _ _
  have hB : ∀ u v : Nat, capF es u v ≤ 10 ^ 32 := fun u v => by
    refine Int.le_trans (capF_le (W := 10 ^ 30) (by decide) (fun e he => (hes e he).2.2) _ _) ?_
    have h1 : (es.length : Int) * 10 ^ 30 ≤ 18 * 10 ^ 30 := Int.mul_le_mul_of_nonneg_right (Int.ofNat_le.mpr hlen) (by decide)
    exact Int.le_trans h1 (by decide)
  have hz := capF_zo fun e he => (hes e he).1
  have repF := rep04_fn K BM HT Blen Brange Blist Bmin Bmax Bsum Bstr stPto stCap stAug stMf stVal stSid hn4 hs ht hlen (fun e he => (hes e he).1) rfl h0 hB (Int.le_refl _)
  have ok := repP_ok (n := n) (s := s) (t := t) hn4 (Fl := FlK n s t fun (u v : Nat) => capF es u v) (S := sdB s (brun (RG (fun (u v : Nat) => capF es u v) (FlK n s t fun (u v : Nat) => capF es u v)) s n n 0 (fun _ => none, [s])).1)
  have dueF : Fn c 3 due04 [.int n, .list (es.map encE), .int s, .int t] (.list ((repP n s t (FlK n s t fun (u v : Nat) => capF es u v) (sdB s (brun (RG (fun (u v : Nat) => capF es u v) (FlK n s t fun (u v : Nat) => capF es u v)) s n n 0 (fun _ => none, [s])).1)).map .str)) true := by
    by_cases hst : s = t
    · subst hst
      rw [rep_same]
      exact due04_same K
    · obtain ⟨p, q, G⟩ := gd_of hn4 hs ht hst
      obtain ⟨c0, r, k1, k3⟩ := rep_due G hz h0
      rw [k3]
      exact due04_fn K Brange Bmin Bsum Bstr Bsorted stAcr G hlen (fun e he => (hes e he).1) rfl hz h0 hB (Int.le_refl _) k1
  generalize repP n s t (FlK n s t fun (u v : Nat) => capF es u v) (sdB s (brun (RG (fun (u v : Nat) => capF es u v) (FlK n s t fun (u v : Nat) => capF es u v)) s n n 0 (fun _ => none, [s])).1) = D at repF ok dueF
  have smD : Sm 1 (.list (D.map .str)) := Sm.list fun d hd => by
    obtain ⟨x, hx, rfl⟩ := List.mem_map.mp hd
    exact Sm.str (ok x hx)
  refine s_asg (sk := .lo) FS (ev_call K stRep rfl (evl_w (ev_name_w (by (exact At.via (by with_reducible repeat' (first | exact Nm.here | apply Nm.there)) rfl))) (evl_w (ev_name_w (by (exact At.via (by with_reducible repeat' (first | exact Nm.here | apply Nm.there)) rfl))) (evl_w (ev_name_w (by (exact At.via (by with_reducible repeat' (first | exact Nm.here | apply Nm.there)) rfl))) (evl_w (ev_name_w (by (exact At.via (by with_reducible repeat' (first | exact Nm.here | apply Nm.there)) rfl))) evl_nilU)))) repF (Nat.le_of_ble_eq_true rfl)) .frlo (by (with_reducible repeat' (first | exact Upd.here | apply Upd.there | exact Nm.here | apply Nm.there))) ?_
  refine s_when (tst_cmp (ev_name_w (by (exact At.via (by with_reducible repeat' (first | exact Nm.here | apply Nm.there)) rfl))) (ev_name_w (by (exact At.via (by with_reducible repeat' (first | exact Nm.here | apply Nm.there)) rfl))) (cmp_nev (Sm.shaped (n := 2) Sm.edges) (Sm.shaped (n := 2) Sm.edges))) (fun h => ?_) (fun _ => ?_)
  · rw [Sm.eqv (n := 2) Sm.edges] at h; cases h
  refine s_when (tst_cmp (ev_name_w (by (exact At.via (by with_reducible repeat' (first | exact Nm.here | apply Nm.there)) rfl))) (ev_call K stDue rfl (evl_w (ev_name_w (by (exact At.via (by with_reducible repeat' (first | exact Nm.here | apply Nm.there)) rfl))) (evl_w (ev_name_w (by (exact At.via (by with_reducible repeat' (first | exact Nm.here | apply Nm.there)) rfl))) (evl_w (ev_name_w (by (exact At.via (by with_reducible repeat' (first | exact Nm.here | apply Nm.there)) rfl))) (evl_w (ev_name_w (by (exact At.via (by with_reducible repeat' (first | exact Nm.here | apply Nm.there)) rfl))) evl_nilU)))) dueF (Nat.le_of_ble_eq_true rfl)) (cmp_nev (Sm.shaped smD) (Sm.shaped smD))) (fun h => ?_) (fun _ => ?_)
  · rw [Sm.eqv smD] at h; cases h
  exact s_ret (u := true) ev_bool ⟨rfl, fun _ => rfl⟩ (.inl rfl)
end Mine

open PySem PySem.W PySem.Spec PyProof.Rows
set_option maxRecDepth 100000 in
set_option maxHeartbeats 8000000 in
open_top Mine.hd04 for PySem.Challenge.rw_k21_0004
set_option maxRecDepth 100000 in
set_option maxHeartbeats 8000000 in
theorem PySem.Challenge.cw_k21_0004_holds : PySem.Challenge.rw_k21_0004.Holds := by
  refine Mine.hd04 ?_
  intro w s₀ s₁ mg mb G Y fa o pm cd doc dV kV ho hd hcd hD hmg hg args vals as hpre hlay hrd hwl hlo
  clear Y hD
  refine Ground.open G ?_
  intro T B D TE TW
  clear B D TE TW
  wrow_args hpre hlay hrd hwl hlo
  rename_i ns _ _ _ _ _ as' _ a vs _ _ _ _ r0 _ _ hlen _
  have hl : ns.length ≤ 63 := by omega
  refine Mine.law_endM T hg hmg 10 rfl 6 rfl (fun P hP HT => Mine.law04_fn (Mine.cxOkG T hP) (Mine.bmG T hP) HT (Mine.biG T rfl (by decide) (by decide +kernel)) (Mine.biG T rfl (by decide) (by decide +kernel)) (Mine.biG T rfl (by decide) (by decide +kernel)) (Mine.biG T rfl (by decide) (by decide +kernel)) (Mine.biG T rfl (by decide) (by decide +kernel)) (Mine.biG T rfl (by decide) (by decide +kernel)) (Mine.biG T rfl (by decide) (by decide +kernel)) (Mine.biG T rfl (by decide) (by decide +kernel)) (Mine.biG T rfl (by decide) (by decide +kernel)) (Mine.standsM T hP 0 rfl) (Mine.standsM T hP 1 rfl) (Mine.standsM T hP 2 rfl) (Mine.standsM T hP 3 rfl) (Mine.standsM T hP 4 rfl) (Mine.standsM T hP 5 rfl) (Mine.standsM T hP 6 rfl) (Mine.standsM T hP 7 rfl) (Mine.standsM T hP 8 rfl) (Mine.standsM T hP 9 rfl) hl) (by decide) (.cons (Mine.reads_il r0) .nil) ?_ ?_
  · intro c; rfl
  · wrow_post

