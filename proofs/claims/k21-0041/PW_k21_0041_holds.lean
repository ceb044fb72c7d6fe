import PyProof.Rows.All
import Wide.All
import OpenK.AllK
import Wide.FinOn
import PySem.Challenge.RW_k21_0041
set_option Elab.async false
set_option linter.unusedVariables false
namespace Mine
open PySem PySem.Spec PySem.Calls PyProof.Rows

/-! the context of a law's run -/
structure Cx where
  prog : Program
  w : World
  hB : Heap
  X : Addr → Prop
  mg : Str → Option Value
  mb : Str → Option Value
  os : OsState
  lo : Nat

noncomputable abbrev Cx.M (c : Cx) : Model := model c.prog c.w

structure Up (X : Addr → Prop) (h h' : Heap) : Prop where
  kp : ∀ b o, ¬ X b → h.get? b = some o → h'.get? b = some o
  th : ∀ b o, h.get? b = some o → ∃ o', h'.get? b = some o'

theorem Up.refl (X : Addr → Prop) (h : Heap) : Up X h h := ⟨fun _ _ _ e => e, fun _ o e => ⟨o, e⟩⟩
theorem Up.of {X : Addr → Prop} {h h' : Heap} (k : ∀ b o, h.get? b = some o → h'.get? b = some o) : Up X h h' :=
  ⟨fun b o _ e => k b o e, fun b o e => ⟨o, k b o e⟩⟩
theorem Up.trans {X : Addr → Prop} {h h' h'' : Heap} (a : Up X h h') (b : Up X h' h'') : Up X h h'' :=
  ⟨fun x o n e => b.kp x o n (a.kp x o n e), fun x o e => let ⟨_, e'⟩ := a.th x o e; b.th x _ e'⟩
theorem Up.none {X : Addr → Prop} {h h' : Heap} (u : Up X h h') {a : Addr} (e : h'.get? a = none) : h.get? a = none := by
  cases q : h.get? a with
  | none => rfl
  | some o => obtain ⟨o', e'⟩ := u.th a o q; rw [e] at e'; cases e'

structure Wf (c : Cx) (s : Shared) : Prop where
  base : ∀ b o, ¬ c.X b → c.hB.get? b = some o → s.heap.get? b = some o
  tab : ∀ b, c.X b → ∃ ps : { a : Array Value // TriplesOk a.toList }, s.heap.get? b = some { cls := .none, data := .fields ps.1 }
  old : OldK c.hB s.heap
  gens : AllBare s.gens
  os : s.os = c.os
  lot : c.lo ≤ s.toks

structure Ext (c : Cx) (s s' : Shared) : Prop where
  tk : s.toks ≤ s'.toks
  up : Up c.X s.heap s'.heap
  wf : Wf c s'

theorem Ext.refl {c : Cx} {s : Shared} (W : Wf c s) : Ext c s s := ⟨Nat.le_refl _, Up.refl _ _, W⟩
theorem Ext.trans {c : Cx} {s s' s'' : Shared} (a : Ext c s s') (b : Ext c s' s'') : Ext c s s'' := ⟨Nat.le_trans a.tk b.tk, a.up.trans b.up, b.wf⟩
theorem Wf.keeps {c : Cx} {s s' : Shared} (W : Wf c s) (hk : ∀ b o, s.heap.get? b = some o → s'.heap.get? b = some o) (hg : s'.gens = s.gens) (ho : s'.os = s.os) (ht : s.toks ≤ s'.toks) : Wf c s' where
  base := fun b o n e => hk b o (W.base b o n e)
  tab := fun b x => let ⟨ps, e⟩ := W.tab b x; ⟨ps, hk _ _ e⟩
  old := W.old.step_keeps hk
  gens := hg ▸ W.gens
  os := ho.trans W.os
  lot := Nat.le_trans W.lot ht
theorem Ext.of {c : Cx} {s s' : Shared} (W : Wf c s) (hk : ∀ b o, s.heap.get? b = some o → s'.heap.get? b = some o) (hg : s'.gens = s.gens := by rfl) (ho : s'.os = s.os := by rfl) (ht : s.toks ≤ s'.toks := by first | exact Nat.le_refl _ | exact Nat.le_succ _ | assumption | omega | (simp only; omega)) : Ext c s s' :=
  ⟨ht, Up.of hk, W.keeps hk hg ho ht⟩
theorem Ext.toks {c : Cx} {s : Shared} (W : Wf c s) (tk : Nat) (ht : s.toks ≤ tk := by first | exact Nat.le_refl _ | exact Nat.le_succ _ | assumption | omega | (simp only; omega)) : Ext c s { s with toks := tk } := Ext.of W (fun _ _ e => e) rfl rfl ht
theorem Ext.push {c : Cx} {s : Shared} (W : Wf c s) (o : Obj) (tk : Nat) (ht : s.toks ≤ tk := by first | exact Nat.le_refl _ | exact Nat.le_succ _ | assumption | omega | (simp only; omega)) : Ext c s { s with heap := s.heap.push o, toks := tk } :=
  Ext.of W (fun _ _ e => Heap.get?_push_of_some o e) rfl rfl ht

/-! a change at one address that the base does not know -/
theorem oldK_same {h₀ h h' : Heap} (K : OldK h₀ h) {a : Addr} (ha : h₀.get? a = none) (hs : ∀ b, b ≠ a → h'.get? b = h.get? b) : OldK h₀ h' := by
  have ne : ∀ b o, h₀.get? b = some o → b ≠ a := fun b o e q => by rw [q, ha] at e; cases e
  refine ⟨fun b o e => ?_, fun b o e => let ⟨o', ho'⟩ := K.there b o e; ⟨o', (hs b (ne b o e)).trans ho'⟩⟩
  rcases K.old b o e with x | ⟨t, hc, vs, more, hv, x⟩ | ⟨rfl, hc, ⟨o', es, n, ho', r⟩, z⟩
  · exact .inl ((hs b (ne b o e)).trans x)
  · exact .inr (.inl ⟨t, hc, vs, more, hv, (hs b (ne b o e)).trans x⟩)
  · exact .inr (.inr ⟨rfl, hc, ⟨o', es, n, (hs _ (ne _ o e)).trans ho', r⟩, fun key => by rw [OldK.staticOf_congr (hs _ (ne _ o e)) key]; exact z key⟩)

theorem Wf.sameBut {c : Cx} {s : Shared} {h' : Heap} {a : Addr} {tk : Nat} (W : Wf c s) (hs : Heap.SameBut a s.heap h') (ha : c.hB.get? a = none) (hX : ¬ c.X a) (ht : s.toks ≤ tk := by first | exact Nat.le_refl _ | exact Nat.le_succ _ | assumption | omega | (simp only; omega)) : Wf c { s with heap := h', toks := tk } where
  base := fun b o n e => (hs.2 b (fun q => by rw [q, ha] at e; cases e)).trans (W.base b o n e)
  tab := fun b x => let ⟨ps, e⟩ := W.tab b x; ⟨ps, (hs.2 b (fun q => hX (q ▸ x))).trans e⟩
  old := oldK_same W.old ha hs.2
  gens := W.gens
  os := W.os
  lot := Nat.le_trans W.lot ht

/-! data in the heap, as the library's Reads, but a dict (of tuples of ints to ints) with its hashes -/
mutual
inductive Reads (L T : Nat) (h : Heap) : Value → PyData → List Addr → Prop
  | none : Reads L T h .none .none []
  | bool (b) : Reads L T h (.bool b) (.bool b) []
  | int (i t) : Reads L T h (.int i t) (.int i) []
  | str (x t) : Reads L T h (.str x t) (.str x) []
  | list {a o vs n xs as} : h.get? a = some o → o.cls = .type "list" → o.data = .seq vs n → ReadsAll L T h vs.toList xs as → Reads L T h (.ref a) (.list xs) (a :: as)
  | tuple {a o vs n xs as} : h.get? a = some o → o.cls = .type "tuple" → o.data = .seq vs n → ReadsAll L T h vs.toList xs as → Reads L T h (.ref a) (.tuple xs) as
  | flt (b : UInt64) (q : Bool) (t : Tok) : t ≠ 0 → t < T → (q = true → L ≤ t) → Reads L T h (.float b t) (.dict [(.bool q, .int b.toNat)]) []
inductive ReadsAll (L T : Nat) (h : Heap) : List Value → List PyData → List Addr → Prop
  | nil : ReadsAll L T h [] [] []
  | cons {v vs d ds as bs} : Reads L T h v d as → ReadsAll L T h vs ds bs → ReadsAll L T h (v :: vs) (d :: ds) (as ++ bs)
end
/-- the datum of a float -/
noncomputable abbrev fltD (b : UInt64) (q : Bool) : PyData := .dict [(.bool q, .int b.toNat)]
noncomputable def isFlt : List (PyData × PyData) → Bool
  | [(.bool _, .int _)] => true
  | _ => false
mutual
theorem Reads.lib {h : Heap} {v : Value} {d : PyData} {as : List Addr} (r : Reads L T h v d as) (hc : d.canLay0 = true) : PySem.Reads h v d as :=
  match r with
  | .none => .none
  | .bool b => .bool b
  | .int i t => .int i t
  | .str x t => .str x t
  | .list h1 h2 h3 h4 => .list h1 h2 h3 (ReadsAll.lib h4 (by simpa [PyData.canLay0] using hc))
  | .tuple h1 h2 h3 h4 => .tuple h1 h2 h3 (ReadsAll.lib h4 (by simpa [PyData.canLay0] using hc))
  | .flt .. => by simp [PyData.canLay0] at hc
theorem ReadsAll.lib {h : Heap} {vs : List Value} {ds : List PyData} {as : List Addr} (r : ReadsAll L T h vs ds as) (hc : PyData.canLayAll0 ds = true) : PySem.ReadsAll h vs ds as :=
  match r with
  | .nil => .nil
  | .cons h1 h2 => by
    simp only [PyData.canLayAll0, Bool.and_eq_true] at hc
    exact .cons (Reads.lib h1 hc.1) (ReadsAll.lib h2 hc.2)
end
theorem reads_ints {h : Heap} : ∀ {vs : List Value} {ns : List Int} {as : List Addr}, PySem.ReadsAll h vs (ns.map .int) as → ReadsAll L T h vs (ns.map .int) as
  | _, [], _, r => by cases r; exact .nil
  | _, n :: ns, _, r => by
    cases r with | cons r1 r2 => cases r1; exact .cons (.int _ _) (reads_ints r2)
theorem reads_il {h : Heap} {v : Value} {ns : List Int} {as : List Addr} (r : PySem.Reads h v (.list (ns.map .int)) as) : Reads L T h v (.list (ns.map .int)) as := by
  cases r with | list h1 h2 h3 h4 => exact .list h1 h2 h3 (reads_ints h4)
/-! the relation Reads under changes -/
noncomputable def Plainish (o : Obj) : Prop := (o.cls = .type "tuple" ∨ o.cls = .type "list" ∨ o.cls = .type "dict")
mutual
theorem reads_upon {h h' : Heap} {v : Value} {d : PyData} {as : List Addr} (r : Reads L T h v d as)
    (hl : ∀ a ∈ as, ∀ o, h.get? a = some o → Plainish o → h'.get? a = some o)
    (ht : ∀ a o, h.get? a = some o → o.cls = .type "tuple" → (∃ vs n, o.data = .seq vs n) → h'.get? a = some o) (hT : T ≤ T' := by first | exact Nat.le_refl _ | exact Nat.le_succ _ | assumption | omega | (simp only; omega)) : Reads L T' h' v d as :=
  match r with
  | .none => .none
  | .bool b => .bool b
  | .int i t => .int i t
  | .str x t => .str x t
  | .list h1 h2 h3 h4 => .list (hl _ (List.mem_cons_self ..) _ h1 (.inr (.inl h2))) h2 h3 (readsAll_upon h4 (fun a ha => hl a (List.mem_cons_of_mem _ ha)) ht hT)
  | .tuple h1 h2 h3 h4 => .tuple (ht _ _ h1 h2 ⟨_, _, h3⟩) h2 h3 (readsAll_upon h4 hl ht hT)
  | .flt b q t h1 h2 h3 => .flt b q t h1 (Nat.lt_of_lt_of_le h2 hT) h3
theorem readsAll_upon {h h' : Heap} {vs : List Value} {ds : List PyData} {as : List Addr} (r : ReadsAll L T h vs ds as)
    (hl : ∀ a ∈ as, ∀ o, h.get? a = some o → Plainish o → h'.get? a = some o)
    (ht : ∀ a o, h.get? a = some o → o.cls = .type "tuple" → (∃ vs n, o.data = .seq vs n) → h'.get? a = some o) (hT : T ≤ T' := by first | exact Nat.le_refl _ | exact Nat.le_succ _ | assumption | omega | (simp only; omega)) : ReadsAll L T' h' vs ds as :=
  match r with
  | .nil => .nil
  | .cons h1 h2 => .cons (reads_upon h1 (fun a ha => hl a (List.mem_append_left _ ha)) ht hT) (readsAll_upon h2 (fun a ha => hl a (List.mem_append_right _ ha)) ht hT)
end
theorem not_tab {c : Cx} {s : Shared} (W : Wf c s) {a : Addr} {o : Obj} (e : s.heap.get? a = some o) (hc : o.cls ≠ .none) : ¬ c.X a := fun x => by
  obtain ⟨ps, q⟩ := W.tab a x
  rw [q] at e; cases e; exact hc rfl
theorem plainish_cls {o : Obj} (p : Plainish o) : o.cls ≠ .none := by
  rcases p with q | q | q <;> rw [q] <;> nofun
theorem Ext.reads {c : Cx} {s s' : Shared} {v : Value} {d : PyData} {as : List Addr} (W : Wf c s) (x : Ext c s s') (r : Reads c.lo s.toks s.heap v d as) : Reads c.lo s'.toks s'.heap v d as :=
  reads_upon r (fun a _ o e p => x.up.kp a o (not_tab W e (plainish_cls p)) e) (fun a o e p _ => x.up.kp a o (not_tab W e (by rw [p]; nofun)) e) x.tk
theorem Ext.readsAll {c : Cx} {s s' : Shared} {vs : List Value} {ds : List PyData} {as : List Addr} (W : Wf c s) (x : Ext c s s') (r : ReadsAll c.lo s.toks s.heap vs ds as) : ReadsAll c.lo s'.toks s'.heap vs ds as :=
  readsAll_upon r (fun a _ o e p => x.up.kp a o (not_tab W e (plainish_cls p)) e) (fun a o e p _ => x.up.kp a o (not_tab W e (by rw [p]; nofun)) e) x.tk

/-! data with no young floats -/
mutual
noncomputable def noNew : PyData → Bool
  | .none | .bool _ | .int _ | .str _ => true
  | .list xs => noNews xs
  | .tuple xs => noNews xs
  | .dict [(.bool q, _)] => !q
  | .dict _ => false
noncomputable def noNews : List PyData → Bool
  | [] => true
  | x :: r => noNew x && noNews r
end
/-! every object of a footprint is a list or a dict -/
noncomputable def ListOrDict (o : Obj) : Prop := (o.cls = .type "list" ∧ ∃ vs n, o.data = .seq vs n) ∨ (o.cls = .type "dict" ∧ ∃ es n, o.data = .dict es n)
mutual
theorem reads_objs {h : Heap} {v : Value} {d : PyData} {as : List Addr} (r : Reads L T h v d as) : ∀ a ∈ as, ∃ o, h.get? a = some o ∧ ListOrDict o :=
  match r with
  | .none => nofun
  | .bool _ => nofun
  | .int _ _ => nofun
  | .str _ _ => nofun
  | .list h1 h2 h3 h4 => fun a ha => (List.mem_cons.mp ha).elim (fun e => e ▸ ⟨_, h1, .inl ⟨h2, _, _, h3⟩⟩) (readsAll_objs h4 a)
  | .tuple _ _ _ h4 => readsAll_objs h4
  | .flt _ _ _ _ _ _ => nofun
theorem readsAll_objs {h : Heap} {vs : List Value} {ds : List PyData} {as : List Addr} (r : ReadsAll L T h vs ds as) : ∀ a ∈ as, ∃ o, h.get? a = some o ∧ ListOrDict o :=
  match r with
  | .nil => nofun
  | .cons h1 h2 => fun a ha => (List.mem_append.mp ha).elim (reads_objs h1 a) (readsAll_objs h2 a)
end

noncomputable def Pl (h : Heap) (a : Addr) : Prop := ∃ o, h.get? a = some o ∧ ListOrDict o ∧ o.dict = none ∧ o.slots = #[]
theorem Pl.ext {c : Cx} {s s' : Shared} {a : Addr} (W : Wf c s) (x : Ext c s s') (p : Pl s.heap a) : Pl s'.heap a :=
  let ⟨o, e, l, q⟩ := p
  ⟨o, x.up.kp a o (not_tab W e (by rcases l with ⟨q, _⟩ | ⟨q, _⟩ <;> rw [q] <;> nofun)) e, l, q⟩

/-! flat data: no list, no dict within -/
mutual
noncomputable def flat : PyData → Bool
  | .none | .bool _ | .int _ | .str _ => true
  | .list _ => false
  | .dict kvs => isFlt kvs
  | .tuple xs => flats xs
noncomputable def flats : List PyData → Bool
  | [] => true
  | x :: r => flat x && flats r
end
mutual
theorem reads_flat {h : Heap} {v : Value} {d : PyData} {as : List Addr} (r : Reads L T h v d as) (hf : flat d = true) : as = [] :=
  match r with
  | .none => rfl
  | .bool _ => rfl
  | .int _ _ => rfl
  | .str _ _ => rfl
  | .list .. => by simp [flat] at hf
  | .tuple _ _ _ h4 => readsAll_flat h4 (by simpa [flat] using hf)
  | .flt _ _ _ _ _ _ => rfl
theorem readsAll_flat {h : Heap} {vs : List Value} {ds : List PyData} {as : List Addr} (r : ReadsAll L T h vs ds as) (hf : flats ds = true) : as = [] :=
  match r with
  | .nil => rfl
  | .cons h1 h2 => by
    simp only [flats, Bool.and_eq_true] at hf
    rw [reads_flat h1 hf.1, readsAll_flat h2 hf.2]; rfl
end

end Mine

namespace Mine
open PySem PySem.Spec PySem.Calls PyProof.Rows

inductive K where
  | sh | lo | ow
  deriving DecidableEq
structure Slot where
  k : K
  d : PyData
noncomputable abbrev Rho := List (Option Slot)

structure Fm where
  env : Env
  A : Around
  h₀ : Heap
  xs : List Str
  lv : Nat

noncomputable def Loads (env : Env) (h : Heap) (x : Str) (v : Value) : Prop :=
  (env.kindOf x = some .local ∧ ∃ m, h.Ns env.locals m ∧ m x = some v) ∨
  ((env.kindOf x = some .cell ∨ env.kindOf x = some .free) ∧ ∃ a, env.cells.lookup x = some a ∧ h.IsCell a (some v))

/-- room for n more levels of calls -/
structure Room (n : Nat) (A : Around) : Prop where
  hand : A.handled = none
  depth : A.depth + 10 * n + 10 < recursionLimit
  units : A.units + 100 * n + 200 < cLine
  guards : A.guards = some []

structure FmOk (c : Cx) (f : Fm) : Prop where
  kind : f.env.scope.kind = .function
  glob : f.env.globals = mainGlobals
  bi : f.env.builtins = builtinsNs
  room : Room f.lv f.A
  base : Up c.X c.hB f.h₀

structure St (c : Cx) (f : Fm) (ρ : Rho) (mo : Addr → Prop) (val : Nat → Value) (fp : Nat → List Addr) (s : Shared) : Prop where
  wf : Wf c s
  ok : FmOk c f
  keep : Up c.X f.h₀ s.heap
  ns : ∃ m, s.heap.Ns f.env.locals m
  cells : ∀ x a, f.env.cells.lookup x = some a → ∃ v, s.heap.IsCell a v
  var : ∀ i sl, ρ[i]? = some (some sl) → ∃ x, f.xs[i]? = some x ∧ Loads f.env s.heap x (val i) ∧ Reads c.lo s.toks s.heap (val i) sl.d (fp i)
  own : ∀ i sl, ρ[i]? = some (some sl) → sl.k = .ow → (fp i).Nodup ∧ ∀ a ∈ fp i, mo a
  shr : ∀ i sl, ρ[i]? = some (some sl) → sl.k ≠ .ow → ∀ a ∈ fp i, ¬ mo a
  loc : ∀ i sl, ρ[i]? = some (some sl) → sl.k = .lo → ∀ a ∈ fp i, f.h₀.get? a = none
  apart : ∀ i j sl sl', i ≠ j → ρ[i]? = some (some sl) → ρ[j]? = some (some sl') → sl.k = .ow → sl'.k = .ow → ∀ a ∈ fp i, a ∉ fp j
  moNew : ∀ a, mo a → f.h₀.get? a = none
  moPl : ∀ a, mo a → Pl s.heap a
  moL : ¬ mo f.env.locals
  fpL : ∀ i sl, ρ[i]? = some (some sl) → f.env.locals ∉ fp i

theorem St.moIn {c : Cx} {f : Fm} {ρ : Rho} {mo : Addr → Prop} {val : Nat → Value} {fp : Nat → List Addr} {s : Shared} (S : St c f ρ mo val fp s) (a : Addr) (h : mo a) : ∃ o, s.heap.get? a = some o ∧ ListOrDict o :=
  let ⟨o, e, l, _⟩ := S.moPl a h; ⟨o, e, l⟩
theorem Ns.ext {c : Cx} {s s' : Shared} {a : Addr} {m : Str → Option Value} (W : Wf c s) (x : Ext c s s') (n : s.heap.Ns a m) : s'.heap.Ns a m := by
  obtain ⟨o, es, ep, ho, hd, r⟩ := n
  refine ⟨o, es, ep, x.up.kp a o (fun hx => ?_) ho, hd, r⟩
  obtain ⟨ps, e⟩ := W.tab a hx
  rw [e] at ho; cases ho; cases hd
theorem IsCell.ext {c : Cx} {s s' : Shared} {a : Addr} {v : Option Value} (W : Wf c s) (x : Ext c s s') (n : s.heap.IsCell a v) : s'.heap.IsCell a v := by
  obtain ⟨o, ho, hd⟩ := n
  refine ⟨o, x.up.kp a o (fun hx => ?_) ho, hd⟩
  obtain ⟨ps, e⟩ := W.tab a hx
  rw [e] at ho; cases ho; cases hd
theorem Loads.ext {c : Cx} {s s' : Shared} {env : Env} {y : Str} {v : Value} (W : Wf c s) (x : Ext c s s') (n : Loads env s.heap y v) : Loads env s'.heap y v := by
  rcases n with ⟨hk, m, hn, hm⟩ | ⟨hk, a, ha, hc⟩
  · exact .inl ⟨hk, m, Ns.ext W x hn, hm⟩
  · exact .inr ⟨hk, a, ha, IsCell.ext W x hc⟩
theorem listOrDict_ext {c : Cx} {s s' : Shared} {a : Addr} {o : Obj} (W : Wf c s) (x : Ext c s s') (e : s.heap.get? a = some o) (p : ListOrDict o) : s'.heap.get? a = some o :=
  x.up.kp a o (not_tab W e (by rcases p with ⟨q, _⟩ | ⟨q, _⟩ <;> rw [q] <;> nofun)) e

theorem St.ext {c : Cx} {f : Fm} {ρ : Rho} {mo : Addr → Prop} {val : Nat → Value} {fp : Nat → List Addr} {s s' : Shared} (S : St c f ρ mo val fp s) (x : Ext c s s') : St c f ρ mo val fp s' where
  wf := x.wf
  ok := S.ok
  keep := S.keep.trans x.up
  ns := let ⟨m, n⟩ := S.ns; ⟨m, Ns.ext S.wf x n⟩
  cells := fun y a e => let ⟨v, n⟩ := S.cells y a e; ⟨v, IsCell.ext S.wf x n⟩
  var := fun i sl e => let ⟨y, h1, h2, h3⟩ := S.var i sl e; ⟨y, h1, h2.ext S.wf x, x.reads S.wf h3⟩
  own := S.own
  shr := S.shr
  loc := S.loc
  apart := S.apart
  moNew := S.moNew
  moPl := fun a h => (S.moPl a h).ext S.wf x
  moL := S.moL
  fpL := S.fpL

/-! kinds of results -/
inductive EK where
  | w | sh | lo | fr
  | us (is : List Nat)

noncomputable def KOk0 (f : Fm) (mo : Addr → Prop) (fp : Nat → List Addr) (h h' : Heap) : EK → List Addr → Prop
  | .w, _ => True
  | .sh, as => ∀ a ∈ as, ¬ mo a
  | .lo, as => ∀ a ∈ as, ¬ mo a ∧ f.h₀.get? a = none
  | .fr, as => as.Nodup ∧ (∀ a ∈ as, h.get? a = none) ∧ ∀ a ∈ as, Pl h' a
  | .us is, as => as = is.flatMap fp
noncomputable def KOk (f : Fm) (mo : Addr → Prop) (fp : Nat → List Addr) (h h' : Heap) (k : EK) (as : List Addr) : Prop := f.env.locals ∉ as ∧ KOk0 f mo fp h h' k as

noncomputable def Ev (c : Cx) (f : Fm) (ρ : Rho) (e : Expr) (d : PyData) (k : EK) : Prop :=
  ∀ mo val fp s E, St c f ρ mo val fp s → wpAny c.M f.A (eval e f.env) (fun v s' => Ext c s s' ∧ ∃ as, Reads c.lo s'.toks s'.heap v d as ∧ KOk f mo fp s.heap s'.heap k as) E s

section
variable {c : Cx} {f : Fm} {ρ : Rho} {mo : Addr → Prop} {val : Nat → Value} {fp : Nat → List Addr} {s : Shared} {E : Value → Shared → Prop} {e : Expr} {d : PyData} {k : EK}

theorem Ev.bind {Q : Value → Shared → Prop} (h : Ev c f ρ e d k) (S : St c f ρ mo val fp s)
    (hn : ∀ v s' as, Ext c s s' → St c f ρ mo val fp s' → Reads c.lo s'.toks s'.heap v d as → KOk f mo fp s.heap s'.heap k as → Q v s') : wpAny c.M f.A (eval e f.env) Q E s :=
  wpAny_mono (h mo val fp s E S) (fun v s' ⟨x, as, r, ko⟩ => hn v s' as x (S.ext x) r ko) fun _ _ z => z

theorem KOk.nil {h h' : Heap} (hk : ∀ is, k = .us is → is = []) : KOk f mo fp h h' k [] := by
  refine ⟨nofun, ?_⟩
  cases k with
  | w => trivial
  | sh => exact nofun
  | lo => exact nofun
  | fr => exact ⟨.nil, nofun, nofun⟩
  | us is => rw [hk is rfl]; rfl
theorem Ev.ofFlat (h : Ev c f ρ e d k) (hf : flat d = true) : Ev c f ρ e d .fr := fun mo val fp s E S => h.bind S fun v s' as x _ r _ => ⟨x, as, r, by rw [reads_flat r hf]; exact ⟨nofun, .nil, nofun, nofun⟩⟩
theorem Ev.ofFlatU (h : Ev c f ρ e d k) (hf : flat d = true) : Ev c f ρ e d (.us []) := fun mo val fp s E S => h.bind S fun v s' as x _ r _ => ⟨x, as, r, by rw [reads_flat r hf]; exact ⟨nofun, rfl⟩⟩
theorem KOk.fr_lo (S : St c f ρ mo val fp s) {as : List Addr} {s' : Shared} (h : KOk f mo fp s.heap s'.heap .fr as) : KOk f mo fp s.heap s'.heap .lo as := ⟨h.1, fun a ha => by
  have e := h.2.2.1 a ha
  refine ⟨fun m => ?_, S.keep.none e⟩
  obtain ⟨o, q, _⟩ := S.moIn a m
  rw [e] at q; cases q⟩
theorem frOk (S : St c f ρ mo val fp s) {as : List Addr} {h' : Heap} (h1 : as.Nodup) (h2 : ∀ a ∈ as, s.heap.get? a = none) (h3 : ∀ a ∈ as, Pl h' a) : KOk f mo fp s.heap h' .fr as :=
  ⟨fun h => (by obtain ⟨m, o, _, _, q, _⟩ := S.ns; rw [h2 _ h] at q; cases q), h1, h2, h3⟩
theorem Ev.cast {d' : PyData} (h : Ev c f ρ e d k) (q : d = d') : Ev c f ρ e d' k := q ▸ h

/-- where a name stands in the frame's list -/
inductive At : List Str → Rho → Str → Slot → Nat → Prop
  | here {x : Str} {xs : List Str} {sl : Slot} {ρ : Rho} : At (x :: xs) (some sl :: ρ) x sl 0
  | there {x y : Str} {xs : List Str} {sl : Slot} {o : Option Slot} {ρ : Rho} {i : Nat} : At xs ρ x sl i → At (y :: xs) (o :: ρ) x sl (i + 1)
theorem At.slot {xs : List Str} {ρ : Rho} {x : Str} {sl : Slot} {i : Nat} (h : At xs ρ x sl i) : ρ[i]? = some (some sl) := by
  induction h with
  | here => rfl
  | there _ ih => simpa using ih
theorem At.name {xs : List Str} {ρ : Rho} {x : Str} {sl : Slot} {i : Nat} (h : At xs ρ x sl i) : xs[i]? = some x := by
  induction h with
  | here => rfl
  | there _ ih => simpa using ih

theorem load_any {x : Str} {v : Value} {Q : Value → Shared → Prop} {env : Env} {M : Model} {A : Around} (hk : env.scope.kind = .function) (l : Loads env s.heap x v) (h : Q v s) (hn : (x == ("__classdict__" : Str)) = false) :
    wpAny M A (loadName env x) Q E s := by
  rcases l with ⟨h1, m, h2, h3⟩ | ⟨h1 | h1, a, h2, h3⟩
  · exact wpAny_loadName_local hk h1 h2 h3 h
  · exact wpAny_loadName_cell hk h1 h2 h3 h
  · exact wpAny_loadName_free hk h1 h2 h3 h hn

theorem name_step {x : Str} {pos : Pos} {sl : Slot} {i : Nat} {Q : Value → Shared → Prop} (S : St c f ρ mo val fp s) (h : At f.xs ρ x sl i) (hq : Reads c.lo s.toks s.heap (val i) sl.d (fp i) → Q (val i) s)
    (hd : (x == ("__debug__" : Str)) = false) (hn : (x == ("__classdict__" : Str)) = false) : wpAny c.M f.A (eval (.Name x pos) f.env) Q E s := by
  obtain ⟨y, h1, h2, h3⟩ := S.var i sl h.slot
  rw [h.name] at h1; cases h1
  exact wpAny_Name (load_any S.ok.kind h2 (hq h3) hn) hd

/-- a variable, as it lies -/
theorem ev_name_w {x : Str} {pos : Pos} {k : K} {d : PyData} {i : Nat} (h : At f.xs ρ x ⟨k, d⟩ i) (hd : (x == ("__debug__" : Str)) = false := by decide +kernel) (hn : (x == ("__classdict__" : Str)) = false := by decide +kernel) :
    Ev c f ρ (.Name x pos) d .w := fun mo val fp s E S => name_step S h (fun r => ⟨Ext.refl S.wf, fp i, r, S.fpL i _ h.slot, trivial⟩) hd hn
theorem ev_name_us {x : Str} {pos : Pos} {k : K} {d : PyData} {i : Nat} (h : At f.xs ρ x ⟨k, d⟩ i) (hd : (x == ("__debug__" : Str)) = false := by decide +kernel) (hn : (x == ("__classdict__" : Str)) = false := by decide +kernel) :
    Ev c f ρ (.Name x pos) d (.us [i]) := fun mo val fp s E S => name_step S h (fun r => ⟨Ext.refl S.wf, fp i, r, S.fpL i _ h.slot, by simp [KOk0]⟩) hd hn
theorem ev_name_sh {x : Str} {pos : Pos} {d : PyData} {i : Nat} {k : K} (h : At f.xs ρ x ⟨k, d⟩ i) (hk : k ≠ .ow := by decide) (hd : (x == ("__debug__" : Str)) = false := by decide +kernel) (hn : (x == ("__classdict__" : Str)) = false := by decide +kernel) :
    Ev c f ρ (.Name x pos) d .sh := fun mo val fp s E S => name_step S h (fun r => ⟨Ext.refl S.wf, fp i, r, S.fpL i _ h.slot, S.shr i _ h.slot hk⟩) hd hn
theorem ev_name_lo {x : Str} {pos : Pos} {d : PyData} {i : Nat} (h : At f.xs ρ x ⟨.lo, d⟩ i) (hd : (x == ("__debug__" : Str)) = false := by decide +kernel) (hn : (x == ("__classdict__" : Str)) = false := by decide +kernel) :
    Ev c f ρ (.Name x pos) d .lo := fun mo val fp s E S => name_step S h (fun r => ⟨Ext.refl S.wf, fp i, r, S.fpL i _ h.slot, fun a ha => ⟨S.shr i _ h.slot (by nofun) a ha, S.loc i _ h.slot rfl a ha⟩⟩) hd hn

theorem ev_int {i : Int} {n : Nat} {pos : Pos} : Ev c f ρ (.Constant (.int i) n pos) (.int i) .fr := fun _ _ _ _ _ S =>
  wpAny_Constant_int ⟨Ext.toks S.wf _, [], .int _ _, nofun, .nil, nofun, nofun⟩
theorem ev_none {n : Nat} {pos : Pos} : Ev c f ρ (.Constant .none n pos) .none .fr := fun _ _ _ _ _ S =>
  wpAny_Constant_none ⟨Ext.refl S.wf, [], .none, nofun, .nil, nofun, nofun⟩
theorem ev_bool {b : Bool} {n : Nat} {pos : Pos} : Ev c f ρ (.Constant (.bool b) n pos) (.bool b) .fr := fun _ _ _ _ _ S =>
  wpAny_Constant_bool ⟨Ext.refl S.wf, [], .bool _, nofun, .nil, nofun, nofun⟩
theorem ev_str {x : Str} {n : Nat} {pos : Pos} : Ev c f ρ (.Constant (.str x) n pos) (.str x) .fr := fun _ _ _ _ _ S =>
  wpAny_Constant_str ⟨Ext.toks S.wf _, [], .str _ _, nofun, .nil, nofun, nofun⟩
end

end Mine

namespace Mine
open PySem PySem.Spec PySem.Calls PyProof.Rows

section
variable {c : Cx} {f : Fm} {ρ : Rho} {mo : Addr → Prop} {val : Nat → Value} {fp : Nat → List Addr} {s : Shared} {E : Value → Shared → Prop}
  {e l r x y : Expr} {d d1 d2 : PyData} {k k1 k2 : EK} {pos : Pos} {a b : Int}

theorem frNil {h h' : Heap} : KOk f mo fp h h' .fr [] := ⟨nofun, .nil, nofun, nofun⟩

/-! two operands -/
theorem ev_bin {op : Operator} (h1 : Ev c f ρ l d1 k1) (h2 : Ev c f ρ r d2 k2)
    (h : ∀ s v1 v2 as1 as2 E, Wf c s → Room f.lv f.A → Reads c.lo s.toks s.heap v1 d1 as1 → Reads c.lo s.toks s.heap v2 d2 as2 →
      wpAny c.M f.A (binaryOp op v1 v2) (fun v s' => Ext c s s' ∧ ∃ as, Reads c.lo s'.toks s'.heap v d as ∧ as.Nodup ∧ (∀ a ∈ as, s.heap.get? a = none) ∧ ∀ a ∈ as, Pl s'.heap a) E s) : Ev c f ρ (.BinOp l op r pos) d .fr := by
  intro mo val fp s E S
  refine wpAny_BinOp (h1.bind S fun v1 s1 as1 x1 S1 r1 _ => h2.bind S1 fun v2 s2 as2 x2 S2 r2 _ => ?_)
  refine wpAny_mono (h s2 v1 v2 as1 as2 E S2.wf S.ok.room (x2.reads S1.wf r1) r2) (fun v s3 ⟨x3, as, r3, n3, q3, p3⟩ => ?_) fun _ _ z => z
  exact ⟨(x1.trans x2).trans x3, as, r3, frOk S n3 (fun a ha => (x1.trans x2).up.none (q3 a ha)) p3⟩

theorem ev_add (h1 : Ev c f ρ l (.int a) k1) (h2 : Ev c f ρ r (.int b) k2) : Ev c f ρ (.BinOp l .Add r pos) (.int (a + b)) .fr :=
  ev_bin h1 h2 fun s v1 v2 as1 as2 E W _ r1 r2 => by cases r1; cases r2; exact P.add_int ⟨Ext.toks W _, [], .int _ _, .nil, nofun, nofun⟩
theorem ev_sub (h1 : Ev c f ρ l (.int a) k1) (h2 : Ev c f ρ r (.int b) k2) : Ev c f ρ (.BinOp l .Sub r pos) (.int (a - b)) .fr :=
  ev_bin h1 h2 fun s v1 v2 as1 as2 E W _ r1 r2 => by cases r1; cases r2; exact P.sub_int ⟨Ext.toks W _, [], .int _ _, .nil, nofun, nofun⟩
theorem ev_mul (h1 : Ev c f ρ l (.int a) k1) (h2 : Ev c f ρ r (.int b) k2) (hm : IntMulOk a b) : Ev c f ρ (.BinOp l .Mult r pos) (.int (a * b)) .fr :=
  ev_bin h1 h2 fun s v1 v2 as1 as2 E W _ r1 r2 => by cases r1; cases r2; exact P.mul_int ⟨Ext.toks W _, [], .int _ _, .nil, nofun, nofun⟩ hm
theorem ev_mod (h1 : Ev c f ρ l (.int a) k1) (h2 : Ev c f ρ r (.int b) k2) (hb : 0 < b) : Ev c f ρ (.BinOp l .Mod r pos) (.int (a % b)) .fr :=
  ev_bin h1 h2 fun s v1 v2 as1 as2 E W _ r1 r2 => by
    cases r1; cases r2
    exact PyProof.Rows.mod_int (by omega) ⟨Ext.toks W _, [], by rw [Int.fmod_eq_emod_of_nonneg _ (by omega)]; exact .int _ _, .nil, nofun, nofun⟩
theorem ev_fdiv (h1 : Ev c f ρ l (.int a) k1) (h2 : Ev c f ρ r (.int b) k2) (hb : 0 < b) (hs : b < 1073741824) : Ev c f ρ (.BinOp l .FloorDiv r pos) (.int (a / b)) .fr :=
  ev_bin h1 h2 fun s v1 v2 as1 as2 E W _ r1 r2 => by
    cases r1; cases r2
    refine AutoIntOps.floordiv_1 (by simp; omega) (by rw [PyProof.noPylong_small (by omega)]; simp) ?_
    show (fun v s' => _) _ _
    exact ⟨Ext.toks W _, [], by rw [Int.fdiv_eq_ediv_of_nonneg _ (by omega)]; exact .int _ _, .nil, nofun, nofun⟩
/-! comparisons -/
noncomputable def Cmp (c : Cx) (n : Nat) (op : CmpOp) (d1 d2 : PyData) (b : Bool) : Prop :=
  ∀ A s v1 v2 as1 as2 E (Q : Value → Shared → Prop), Wf c s → Room n A → Reads c.lo s.toks s.heap v1 d1 as1 → Reads c.lo s.toks s.heap v2 d2 as2 → Q (.bool b) s → wpAny c.M A (compareOp op v1 v2) Q E s

theorem ev_cmp {op : CmpOp} {q : Bool} (h1 : Ev c f ρ l d1 k1) (h2 : Ev c f ρ r d2 k2) (h : Cmp c f.lv op d1 d2 q) (hm : behindInMarks op r = false := by with_unfolding_all rfl) :
    Ev c f ρ (.Compare l [op] [r] pos) (.bool q) .fr := by
  intro mo val fp s E S
  refine wpAny_Compare1 (h1.bind S fun v1 s1 as1 x1 S1 r1 _ => h2.bind S1 fun v2 s2 as2 x2 S2 r2 _ => ?_) hm
  exact h _ _ _ _ _ _ _ _ S2.wf S.ok.room (x2.reads S1.wf r1) r2 ⟨x1.trans x2, [], .bool _, frNil⟩

theorem cmp_lt {n : Nat} : Cmp c n .Lt (.int a) (.int b) (decide (a < b)) := fun _ _ _ _ _ _ _ _ _ _ r1 r2 h => by cases r1; cases r2; exact P.lt_int h
theorem cmp_gt {n : Nat} : Cmp c n .Gt (.int a) (.int b) (decide (b < a)) := fun _ _ _ _ _ _ _ _ _ _ r1 r2 h => by cases r1; cases r2; exact P.gt_int h
theorem cmp_eq {n : Nat} : Cmp c n .Eq (.int a) (.int b) (a == b) := fun _ _ _ _ _ _ _ _ _ _ r1 r2 h => by cases r1; cases r2; exact P.eq_int h
theorem cmp_eqv {n : Nat} (h1 : SeqAt.shaped d1 = true) (h2 : SeqAt.shaped d2 = true) : Cmp c n .Eq d1 d2 (PyData.eqv d1 d2) := fun _ _ _ _ _ _ _ _ _ R r1 r2 h =>
  SeqAt.compareEq_shaped (r1.lib (SeqAt.canLay_of_shaped h1)) (r2.lib (SeqAt.canLay_of_shaped h2)) h1 h2 (by have := R.units; omega) h
noncomputable def isNone : PyData → Bool
  | .none => true
  | _ => false
noncomputable def isBool (q : Bool) : PyData → Bool
  | .bool b => b == q
  | _ => false
theorem cmp_is_none {n : Nat} : Cmp c n .Is d1 .none (isNone d1) := fun _ _ _ _ _ _ _ _ _ _ r1 r2 h => by
  cases r2; cases r1 <;> first | exact wpAny_is_self rfl h | exact wpAny_is_other rfl nofun h
theorem cmp_isnot_none {n : Nat} : Cmp c n .IsNot d1 .none (!isNone d1) := fun _ _ _ _ _ _ _ _ _ _ r1 r2 h => by
  cases r2; cases r1 <;> first | exact wpAny_isNot_plain rfl h | exact wpAny_isNot_other rfl nofun h
theorem cmp_is_bool {n : Nat} {q : Bool} : Cmp c n .Is d1 (.bool q) (isBool q d1) := fun _ _ _ _ _ _ _ _ _ _ r1 r2 h => by
  cases r2; cases r1 <;> first | exact wpAny_is_other rfl nofun h | skip
  rename_i b
  refine wpAny_is_plain rfl ?_
  have : (Value.bool b == Value.bool q) = (b == q) := by cases b <;> cases q <;> rfl
  rw [this]; exact h
theorem cmp_isnot_bool {n : Nat} {q : Bool} : Cmp c n .IsNot d1 (.bool q) (!isBool q d1) := fun _ _ _ _ _ _ _ _ _ _ r1 r2 h => by
  cases r2; cases r1 <;> first | exact wpAny_isNot_other rfl nofun h | skip
  rename_i b
  refine wpAny_isNot_plain rfl ?_
  have : (Value.bool b == Value.bool q) = (b == q) := by cases b <;> cases q <;> rfl
  rw [this]; exact h

/-! truth of a test -/
noncomputable def Tst (c : Cx) (f : Fm) (ρ : Rho) (e : Expr) (b : Bool) : Prop :=
  ∀ mo val fp s E, St c f ρ mo val fp s → wpAny c.M f.A (isTrue e f.env (eval e f.env)) (fun t s' => t = b ∧ Ext c s s') E s

theorem Tst.bind {q : Bool} {Q : Bool → Shared → Prop} (h : Tst c f ρ e q) (S : St c f ρ mo val fp s) (hn : ∀ s', Ext c s s' → St c f ρ mo val fp s' → Q q s') :
    wpAny c.M f.A (isTrue e f.env (eval e f.env)) Q E s :=
  wpAny_mono (h mo val fp s E S) (fun t s' ⟨ht, x⟩ => ht ▸ hn s' x (S.ext x)) fun _ _ z => z

noncomputable def truth : PyData → Bool
  | .none => false
  | .bool b => b
  | .int i => i != 0
  | .str x => x.length != 0
  | .list xs => !xs.isEmpty
  | .tuple xs => !xs.isEmpty
  | .dict xs => !xs.isEmpty

theorem tst_cmp {op : CmpOp} {q : Bool} (h1 : Ev c f ρ l d1 k1) (h2 : Ev c f ρ r d2 k2) (h : Cmp c f.lv op d1 d2 q) (hm : behindInMarks op r = false := by with_unfolding_all rfl) :
    Tst c f ρ (.Compare l [op] [r] pos) q := by
  intro mo val fp s E S
  refine wpAny_isTrue_Compare1 (h1.bind S fun v1 s1 as1 x1 S1 r1 _ => h2.bind S1 fun v2 s2 as2 x2 S2 r2 _ => ?_) hm
  exact h _ _ _ _ _ _ _ _ S2.wf S.ok.room (x2.reads S1.wf r1) r2 (wpAny_truthy_bool ⟨rfl, x1.trans x2⟩)
theorem tst_not {q : Bool} (h : Tst c f ρ x q) : Tst c f ρ (.UnaryOp .Not x pos) (!q) := fun mo val fp s E S =>
  wpAny_isTrue_Not (h.bind S fun s' x _ => ⟨rfl, x⟩)
theorem tst_bool {q : Bool} (h : Ev c f ρ e (.bool q) k) (he : ∀ env whole, isTrue e env whole = (do let v ← whole; standAt e.pos; holding [v] (truthy v)) := by intro _ _; rfl) : Tst c f ρ e q := fun mo val fp s E S =>
  wpAny_isTrue_value (h.bind S fun v s' as x S' r _ => by cases r; exact wpAny_truthy_bool ⟨rfl, x⟩) (he _ _)
inductive TstL (c : Cx) (f : Fm) (ρ : Rho) (op : BoolOp) : List Expr → Bool → Prop
  | last {x : Expr} {q : Bool} : Tst c f ρ x q → TstL c f ρ op [x] q
  | stop {x : Expr} {q : Bool} {rest : List Expr} : Tst c f ρ x q → q = (match op with | .And => false | .Or => true) → TstL c f ρ op (x :: rest) q
  | go {x : Expr} {q t : Bool} {rest : List Expr} : Tst c f ρ x q → q = (match op with | .And => true | .Or => false) → TstL c f ρ op rest t → TstL c f ρ op (x :: rest) t
theorem tst_allTrue {op : BoolOp} {es : List Expr} {q : Bool} (h : TstL c f ρ op es q) : ∀ {mo val fp s E}, St c f ρ mo val fp s → wpAny c.M f.A (allTrue op es f.env) (fun t s' => t = q ∧ Ext c s s') E s := by
  induction h with
  | last h =>
    intro mo val fp s E S
    cases op
    · refine wpAny_allTrue_And_cons (h.bind S fun s' x S' => ?_)
      split
      · rename_i e; exact wpAny_allTrue_And_nil ⟨e.symm, x⟩
      · rename_i e; exact ⟨by simpa using e, x⟩
    · refine wpAny_allTrue_Or_cons (h.bind S fun s' x S' => ?_)
      split
      · rename_i e; exact ⟨e.symm, x⟩
      · rename_i e; exact wpAny_allTrue_Or_nil ⟨by simpa using e, x⟩
  | stop h e =>
    intro mo val fp s E S
    cases op
    · refine wpAny_allTrue_And_cons (h.bind S fun s' x S' => ?_)
      subst e; exact ⟨rfl, x⟩
    · refine wpAny_allTrue_Or_cons (h.bind S fun s' x S' => ?_)
      subst e; exact ⟨rfl, x⟩
  | go h e _ ih =>
    intro mo val fp s E S
    cases op
    · refine wpAny_allTrue_And_cons (h.bind S fun s' x S' => ?_)
      subst e; exact wpAny_mono (ih S') (fun t s2 ⟨q, x2⟩ => ⟨q, x.trans x2⟩) fun _ _ z => z
    · refine wpAny_allTrue_Or_cons (h.bind S fun s' x S' => ?_)
      subst e; exact wpAny_mono (ih S') (fun t s2 ⟨q, x2⟩ => ⟨q, x.trans x2⟩) fun _ _ z => z
theorem tst_boolop {op : BoolOp} {es : List Expr} {q : Bool} (h : TstL c f ρ op es q) : Tst c f ρ (.BoolOp op es pos) q := fun mo val fp s E S =>
  wpAny_isTrue_BoolOp (tst_allTrue h S)
/-- and, or of two tests: the second is asked only where the first leaves it open -/
theorem tst_and {p q : Bool} (h1 : Tst c f ρ x p) (h2 : p = true → Tst c f ρ y q) : Tst c f ρ (.BoolOp .And [x, y] pos) (p && q) := by
  cases p with
  | false => exact tst_boolop (.stop h1 rfl)
  | true => exact tst_boolop (.go h1 rfl (.last (h2 rfl)))
theorem tst_or {p q : Bool} (h1 : Tst c f ρ x p) (h2 : p = false → Tst c f ρ y q) : Tst c f ρ (.BoolOp .Or [x, y] pos) (p || q) := by
  cases p with
  | true => exact tst_boolop (.stop h1 rfl)
  | false => exact tst_boolop (.go h1 rfl (.last (h2 rfl)))
/-! and, or as values, of bools -/
theorem ev_and {p q : Bool} (h1 : Ev c f ρ x (.bool p) k1) (h2 : p = true → Ev c f ρ y (.bool q) k2) : Ev c f ρ (.BoolOp .And [x, y] pos) (.bool (p && q)) .fr := by
  intro mo val fp s E S
  refine wpAny_And2 (h1.bind S fun v1 s1 as1 x1 S1 r1 _ => ?_)
  cases r1
  refine wpAny_truthy_bool ?_
  cases p with
  | false => exact ⟨x1, [], .bool _, frNil⟩
  | true => exact (h2 rfl).bind S1 fun v2 s2 as2 x2 S2 r2 _ => by cases r2; exact ⟨x1.trans x2, [], .bool _, frNil⟩
theorem ev_or {p q : Bool} (h1 : Ev c f ρ x (.bool p) k1) (h2 : p = false → Ev c f ρ y (.bool q) k2) : Ev c f ρ (.BoolOp .Or [x, y] pos) (.bool (p || q)) .fr := by
  intro mo val fp s E S
  refine wpAny_Or2 (h1.bind S fun v1 s1 as1 x1 S1 r1 _ => ?_)
  cases r1
  refine wpAny_truthy_bool ?_
  cases p with
  | true => exact ⟨x1, [], .bool _, frNil⟩
  | false => exact (h2 rfl).bind S1 fun v2 s2 as2 x2 S2 r2 _ => by cases r2; exact ⟨x1.trans x2, [], .bool _, frNil⟩
end
end Mine

namespace Mine
open PySem PySem.Spec PySem.Calls PyProof.Rows

/-! items -/
theorem readsAll_item {h : Heap} : ∀ {vs : List Value} {ds : List PyData} {as : List Addr}, ReadsAll L T h vs ds as → ∀ {i : Nat} {d : PyData}, ds[i]? = some d → ∃ v bs, vs[i]? = some v ∧ Reads L T h v d bs ∧ bs.Sublist as
  | _, _, _, .nil, i, d, e => by simp at e
  | _, _, _, .cons (as := as) (bs := bs) r rs, 0, d, e => by
    simp at e; subst e
    exact ⟨_, as, rfl, r, List.sublist_append_left _ _⟩
  | _, _, _, .cons (as := as) (bs := bs) r rs, i + 1, d, e => by
    obtain ⟨v, cs, h1, h2, h3⟩ := readsAll_item rs (i := i) (d := d) (by simpa using e)
    exact ⟨v, cs, by simpa using h1, h2, h3.trans (List.sublist_append_right _ _)⟩
theorem readsAll_length {h : Heap} : ∀ {vs : List Value} {ds : List PyData} {as : List Addr}, ReadsAll L T h vs ds as → vs.length = ds.length
  | _, _, _, .nil => rfl
  | _, _, _, .cons _ r => by simp [readsAll_length r]

noncomputable def EK.sub : EK → EK
  | .us _ => .w
  | k => k
theorem KOk.sub {f : Fm} {mo : Addr → Prop} {fp : Nat → List Addr} {h h' : Heap} {k : EK} {as bs : List Addr} (x : KOk f mo fp h h' k as) (hs : bs.Sublist as) : KOk f mo fp h h' k.sub bs := by
  refine ⟨fun h => x.1 (hs.subset h), ?_⟩
  replace x := x.2
  cases k with
  | w => trivial
  | sh => exact fun a ha => x a (hs.subset ha)
  | lo => exact fun a ha => x a (hs.subset ha)
  | fr => exact ⟨x.1.sublist hs, fun a ha => x.2.1 a (hs.subset ha), fun a ha => x.2.2 a (hs.subset ha)⟩
  | us is => trivial
theorem KOk.later {c : Cx} {f : Fm} {mo : Addr → Prop} {fp : Nat → List Addr} {s' s'' : Shared} {h : Heap} {k : EK} {as : List Addr} (W : Wf c s') (x : Ext c s' s'') (ko : KOk f mo fp h s'.heap k as) : KOk f mo fp h s''.heap k as := by
  refine ⟨ko.1, ?_⟩
  replace ko := ko.2
  cases k with
  | w => trivial
  | sh => exact ko
  | lo => exact ko
  | fr => exact ⟨ko.1, ko.2.1, fun a ha => (ko.2.2 a ha).ext W x⟩
  | us is => exact ko

section
variable {c : Cx} {f : Fm} {ρ : Rho} {mo : Addr → Prop} {val : Nat → Value} {fp : Nat → List Addr} {s : Shared} {E : Value → Shared → Prop}
  {e l r x y : Expr} {d d1 d2 : PyData} {k k1 k2 : EK} {pos : Pos} {a b i : Int} {xs : List PyData} {es : List Expr} {ds : List PyData}

theorem ev_item (h1 : Ev c f ρ l (.list xs) k1) (h2 : Ev c f ρ r (.int i) k2) (h0 : 0 ≤ i) (hfit : i < 2 ^ 63) (hx : xs[i.toNat]? = some d)
    (hs : ∀ o i, subscripted r false o i = operate [o, i] (getItem o i) := by intros; rfl) : Ev c f ρ (.Subscript l r pos) d k1.sub := by
  intro mo val fp s E S
  refine Subscript_ (h1.bind S fun v1 s1 as1 x1 S1 r1 k1 => h2.bind S1 fun v2 s2 as2 x2 S2 r2 _ => ?_)
  have r1' := x2.reads S1.wf r1
  cases r2
  cases r1' with
  | list g1 g2 g3 g4 =>
    obtain ⟨v, bs, q1, q2, q3⟩ := readsAll_item g4 hx
    refine tail_any (T := "list") ⟨_, g1, g2⟩ slot_list_getitem.lookup ?_ (hs _ _)
    exact wpAny_getItem_list ⟨_, g1, g2, _, g3⟩ h0 hfit (by simpa using q1) ⟨x1.trans x2, bs, q2, KOk.sub (KOk.later S1.wf x2 (by assumption)) (q3.trans (List.sublist_cons_self ..))⟩
theorem ev_tupitem (h1 : Ev c f ρ l (.tuple xs) k1) (h2 : Ev c f ρ r (.int i) k2) (h0 : 0 ≤ i) (hfit : i < 2 ^ 63) (hx : xs[i.toNat]? = some d)
    (hs : ∀ o i, subscripted r false o i = operate [o, i] (getItem o i) := by intros; rfl) : Ev c f ρ (.Subscript l r pos) d k1.sub := by
  intro mo val fp s E S
  refine Subscript_ (h1.bind S fun v1 s1 as1 x1 S1 r1 k1 => h2.bind S1 fun v2 s2 as2 x2 S2 r2 _ => ?_)
  have r1' := x2.reads S1.wf r1
  cases r2
  cases r1' with
  | tuple g1 g2 g3 g4 =>
    obtain ⟨v, bs, q1, q2, q3⟩ := readsAll_item g4 hx
    refine tail_any (T := "tuple") ⟨_, g1, g2⟩ slot_tuple_getitem.lookup ?_ (hs _ _)
    have hlt : i.toNat < xs.length := by
      rcases Nat.lt_or_ge i.toNat xs.length with q | q
      · exact q
      · rw [List.getElem?_eq_none q] at hx; cases hx
    have hl := readsAll_length g4
    rename_i o vs n
    have hsz : vs.size = xs.length := by simpa using hl
    exact PyProof.Rows.getItem_tuple (j := i.toNat) ⟨_, g1, g2, _, g3⟩ (by omega) hfit
      (by unfold seqIndex?; have e1 : ¬ (i < 0) := by omega
          have e2 : i < (vs.size : Int) := by omega
          simp [e1, h0, e2]) (by simpa using q1) ⟨x1.trans x2, bs, q2, KOk.sub (KOk.later S1.wf x2 (by assumption)) q3⟩

/-! lists of expressions -/
noncomputable def EvL (c : Cx) (f : Fm) (ρ : Rho) (es : List Expr) (ds : List PyData) (k : EK) : Prop :=
  ∀ pos mo val fp s E, St c f ρ mo val fp s → wpAny c.M f.A (spliced (backTo pos (starEach es f.env))) (fun vs s' => Ext c s s' ∧ ∃ as, ReadsAll c.lo s'.toks s'.heap vs ds as ∧ KOk f mo fp s.heap s'.heap k as) E s

theorem evl_nil (hk : ∀ is, k = .us is → is = [] := by nofun) : EvL c f ρ [] [] k := fun pos mo val fp s E S =>
  args_nil ⟨Ext.refl S.wf, [], .nil, KOk.nil hk⟩
theorem evl_nilU : EvL c f ρ [] [] (.us []) := evl_nil fun is e => by cases e; rfl
theorem evl_cons_any {k : EK} (h1 : Ev c f ρ e d k1) (h2 : EvL c f ρ es ds k2)
    (hk : ∀ mo fp (s s1 s2 : Shared) as bs v, Ext c s s1 → Reads c.lo s1.toks s1.heap v d as → KOk0 f mo fp s.heap s2.heap k1 as → KOk0 f mo fp s1.heap s2.heap k2 bs → KOk0 f mo fp s.heap s2.heap k (as ++ bs))
    (he : ∀ env rest, starEach (e :: rest) env = (false, eval e env) :: starEach rest env := by intros; rfl) : EvL c f ρ (e :: es) (d :: ds) k := fun pos mo val fp s E S =>
  args_cons (h1.bind S fun v1 s1 as1 x1 S1 r1 ko1 => wpAny_mono (h2 pos mo val fp s1 E S1) (fun vs s2 ⟨x2, bs, r2, ko2⟩ =>
    ⟨x1.trans x2, as1 ++ bs, .cons (x2.reads S1.wf r1) r2, fun h => (List.mem_append.mp h).elim ko1.1 ko2.1, hk mo fp s s1 s2 as1 bs v1 x1 r1 (KOk.later S1.wf x2 ko1).2 ko2.2⟩) fun _ _ z => z) (he _ _)
theorem evl_w (h1 : Ev c f ρ e d k1) (h2 : EvL c f ρ es ds k2) (he : ∀ env rest, starEach (e :: rest) env = (false, eval e env) :: starEach rest env := by intros; rfl) : EvL c f ρ (e :: es) (d :: ds) .w :=
  evl_cons_any h1 h2 (fun _ _ _ _ _ _ _ _ _ _ _ _ => trivial) he
theorem evl_fr (h1 : Ev c f ρ e d .fr) (h2 : EvL c f ρ es ds .fr) (he : ∀ env rest, starEach (e :: rest) env = (false, eval e env) :: starEach rest env := by intros; rfl) : EvL c f ρ (e :: es) (d :: ds) .fr :=
  evl_cons_any h1 h2 (fun mo fp s s1 s2 as bs v x r a b => ⟨List.nodup_append.mpr ⟨a.1, b.1, fun p hp q hq e => by
    subst e
    obtain ⟨o, ho, _⟩ := reads_objs r p hp
    rw [b.2.1 p hq] at ho; cases ho⟩, fun p hp => (List.mem_append.mp hp).elim (a.2.1 p) fun hq => x.up.none (b.2.1 p hq), fun p hp => (List.mem_append.mp hp).elim (a.2.2 p) (b.2.2 p)⟩) he
theorem evl_us {is js : List Nat} (h1 : Ev c f ρ e d (.us is)) (h2 : EvL c f ρ es ds (.us js)) (he : ∀ env rest, starEach (e :: rest) env = (false, eval e env) :: starEach rest env := by intros; rfl) : EvL c f ρ (e :: es) (d :: ds) (.us (is ++ js)) :=
  evl_cons_any h1 h2 (fun mo fp s s1 s2 as bs v x r (a : as = _) (b : bs = _) => by show as ++ bs = _; rw [a, b, List.flatMap_append]) he

theorem ev_tuple {n : Nat} (h : EvL c f ρ es ds k) (hsz : ds.length ≤ sizeLine := by decide) : Ev c f ρ (.Tuple es n pos) (.tuple ds) k := by
  intro mo val fp s E S
  refine Tuple_ (wpAny_mono (h pos mo val fp s E S) (fun vs s1 ⟨x1, as, r1, ko⟩ => ?_) fun _ _ z => z)
  refine wpAny_newTuple ?_ (by rw [readsAll_length r1]; exact hsz)
  have x2 : Ext c s1 { s1 with heap := s1.heap.push { cls := .type "tuple", data := .seq vs.toArray } } := Ext.push x1.wf _ _
  exact ⟨x1.trans x2, as, .tuple (Heap.get?_push_size _ rfl) rfl rfl (x2.readsAll x1.wf (by simpa using r1)), ko.later x1.wf x2⟩
theorem get_size_none (h : Heap) : h.get? h.objs.size = none := by
  cases e : h.get? h.objs.size with
  | none => rfl
  | some o => exact absurd (Heap.lt_size e) (Nat.lt_irrefl _)
theorem KOk.cons (S : St c f ρ mo val fp s) {s1 : Shared} {as : List Addr} {D : Addr} (x : Ext c s s1) (hD : s1.heap.get? D = none) (hin : ∀ a ∈ as, ∃ o, s1.heap.get? a = some o) {h' : Heap} (hP : Pl h' D) (ko : KOk f mo fp s.heap h' k as) : KOk f mo fp s.heap h' k.sub (D :: as) := by
  have hDs := x.up.none hD
  have h1 : ¬ mo D := fun m => by obtain ⟨o, q, _⟩ := S.moIn D m; rw [hDs] at q; cases q
  refine ⟨fun h => (List.mem_cons.mp h).elim (fun e => by obtain ⟨m, o, _, _, q, _⟩ := S.ns; rw [e, hDs] at q; cases q) ko.1, ?_⟩
  replace ko := ko.2
  cases k with
  | w => trivial
  | sh => exact fun a ha => (List.mem_cons.mp ha).elim (fun e => e ▸ h1) (ko a)
  | lo => exact fun a ha => (List.mem_cons.mp ha).elim (fun e => e ▸ ⟨h1, S.keep.none hDs⟩) (ko a)
  | fr => exact ⟨List.nodup_cons.mpr ⟨fun hm => (by obtain ⟨o, q⟩ := hin D hm; rw [hD] at q; cases q), ko.1⟩, fun a ha => (List.mem_cons.mp ha).elim (fun e => e ▸ hDs) (ko.2.1 a), fun a ha => (List.mem_cons.mp ha).elim (fun e => e ▸ hP) (ko.2.2 a)⟩
  | us is => trivial
theorem ev_list (h : EvL c f ρ es ds k) (hsz : ds.length ≤ sizeLine := by decide) : Ev c f ρ (.List es pos) (.list ds) k.sub := by
  intro mo val fp s E S
  refine List_ (wpAny_mono (h pos mo val fp s E S) (fun vs s1 ⟨x1, as, r1, ko⟩ => ?_) fun _ _ z => z)
  refine wpAny_newList ?_ (by rw [readsAll_length r1]; exact hsz)
  have x2 : Ext c s1 { s1 with heap := s1.heap.push { cls := .type "list", data := .seq vs.toArray } } := Ext.push x1.wf _ _
  refine ⟨x1.trans x2, s1.heap.objs.size :: as, .list (Heap.get?_push_size _ rfl) rfl rfl (x2.readsAll x1.wf (by simpa using r1)), ?_⟩
  exact KOk.cons S x1 (get_size_none _) (fun a ha => let ⟨o, q, _⟩ := readsAll_objs r1 a ha; ⟨o, q⟩) ⟨_, Heap.get?_push_size _ rfl, .inl ⟨rfl, _, _, rfl⟩, rfl, rfl⟩ (ko.later x1.wf x2)

/-! the context's names -/
structure CxOk (c : Cx) : Prop where
  g : c.hB.Ns mainGlobals c.mg
  gX : ¬ c.X mainGlobals
  b : c.hB.Ns builtinsNs c.mb
  bX : ¬ c.X builtinsNs
  nolimit : c.hB.NoLimit
  sX : ¬ c.X cStatics
  nodigits : ∃ mc, c.hB.Ns cStatics mc ∧ mc "sys.int_max_str_digits" = none
  builtins : ∀ x : Str, x ≠ "__name__" → c.mb x = bootBuiltins x

theorem Ns.base {c : Cx} {s : Shared} {a : Addr} {m : Str → Option Value} (W : Wf c s) (n : c.hB.Ns a m) (hX : ¬ c.X a) : s.heap.Ns a m := by
  obtain ⟨o, es, ep, ho, r⟩ := n
  exact ⟨o, es, ep, W.base _ _ hX ho, r⟩
theorem NoLimit.base {c : Cx} {s : Shared} (W : Wf c s) (C : CxOk c) : s.heap.NoLimit := by
  obtain ⟨mc, n, e⟩ := C.nolimit
  exact ⟨mc, Ns.base W n C.sX, e⟩

structure FnD where
  name : Str
  params : Arguments
  body : List Stmt
  scope : Scope

structure Has (c : Cx) (d : FnD) (fa : Addr) (o : Obj) (pm code doc : Value) : Prop where
  at_ : c.mg d.name = some (.ref fa)
  obj : c.hB.get? fa = some o
  nX : ¬ c.X fa
  data : o.data = .func (docDef d.name d.params d.body d.scope pm code doc)
  crec : c.hB.CodeRec code d.name
  cX : ∀ a, code = .ref a → ¬ c.X a
theorem Has.codeRec {d : FnD} {fa : Addr} {o : Obj} {pm code doc : Value} (H : Has c d fa o pm code doc) (W : Wf c s) : s.heap.CodeRec code d.name := by
  obtain ⟨a, ob, vs, t, e, g, r⟩ := H.crec
  exact ⟨a, ob, vs, t, e, W.base _ _ (H.cX a e) g, r⟩

/-- what a call of a def gives: a datum of new objects -/
noncomputable def Fn (c : Cx) (lv : Nat) (d : FnD) (args : List PyData) (res : PyData) (u : Bool) : Prop :=
  ∀ A s vals ass E fa o pm code doc, Has c d fa o pm code doc → Room lv A → Wf c s → ReadsAll c.lo s.toks s.heap vals args ass →
    wpAny c.M A (call (.ref fa) vals) (fun v s' => Ext c s s' ∧ ∃ as, Reads c.lo s'.toks s'.heap v res as ∧ (∀ a ∈ as, s.heap.get? a = none) ∧ (u = true → as.Nodup ∧ ∀ a ∈ as, Pl s'.heap a)) E s

theorem Room.mono {n m : Nat} {A : Around} (R : Room n A) (h : m ≤ n) : Room m A := ⟨R.hand, by have := R.depth; omega, by have := R.units; omega, R.guards⟩

/-- the function stands in the module -/
noncomputable def Stands (c : Cx) (d : FnD) : Prop := ∃ fa o pm code doc, Has c d fa o pm code doc

theorem call_core {d : FnD} {args : List PyData} {res : PyData} {u : Bool} {lv : Nat} {np : Pos} {e : Expr} (C : CxOk c) (H : Stands c d) (hx : f.env.kindOf d.name = some .globalImplicit)
    (ha : EvL c f ρ (e :: es) args k) (hf : Fn c lv d args res u) (hlv : lv ≤ f.lv)
    (hd : (d.name == ("__debug__" : Str)) = false) (he : ∀ env rest, starEach (e :: rest) env = (false, eval e env) :: starEach rest env)
    (S : St c f ρ mo val fp s) :
    wpAny c.M f.A (eval (.Call (.Name d.name np) (e :: es) [] pos) f.env) (fun v s' => Ext c s s' ∧ ∃ as, Reads c.lo s'.toks s'.heap v res as ∧ (∀ a ∈ as, s.heap.get? a = none) ∧ (u = true → as.Nodup ∧ ∀ a ∈ as, Pl s'.heap a)) E s := by
  obtain ⟨fa, o, pm, code, doc, H⟩ := H
  refine Call_ (Name_function_global S.ok.kind hx ?_ hd)
  refine loadGlobal_global (mg := c.mg) (by rw [S.ok.glob]; exact Ns.base S.wf C.g C.gX) H.at_ ?_
  refine callWith_def (o := o) H.data ?_ (he _ _)
  refine wpAny_mono (ha pos mo val fp s E S) (fun vs s1 ⟨x1, as, r1, _⟩ => ⟨x1.wf.base _ _ H.nX H.obj, ?_⟩) fun _ _ z => z
  refine wpAny_mono (hf f.A s1 vs as E fa o pm code doc H (S.ok.room.mono hlv) x1.wf r1) (fun v s2 ⟨x2, bs, r2, n2, u2⟩ => ?_) fun _ _ z => z
  exact ⟨x1.trans x2, bs, r2, fun a h => x1.up.none (n2 a h), u2⟩

theorem ev_call {d : FnD} {args : List PyData} {res : PyData} {lv : Nat} {np : Pos} {e : Expr} (C : CxOk c) (H : Stands c d) (hx : f.env.kindOf d.name = some .globalImplicit)
    (ha : EvL c f ρ (e :: es) args k) (hf : Fn c lv d args res true) (hlv : lv ≤ f.lv)
    (hd : (d.name == ("__debug__" : Str)) = false := by decide +kernel) (he : ∀ env rest, starEach (e :: rest) env = (false, eval e env) :: starEach rest env := by intros; rfl) :
    Ev c f ρ (.Call (.Name d.name np) (e :: es) [] pos) res .fr := fun mo val fp s E S =>
  wpAny_mono (call_core C H hx ha hf hlv hd he S) (fun v s' ⟨x, as, r, n, u⟩ => ⟨x, as, r, frOk S (u rfl).1 n (u rfl).2⟩) fun _ _ z => z
end
end Mine

namespace Mine
open PySem PySem.Spec PySem.Calls PyProof.Rows

noncomputable def Pv (f : Fm) (a : Addr) : Prop := a = f.env.locals ∨ ∃ x, f.env.cells.lookup x = some a

structure FmS (c : Cx) (f : Fm) : Prop where
  kinds : ∀ (i : Nat) (x : Str), f.xs[i]? = some x → f.env.kindOf x = some .local ∨ (f.env.kindOf x = some .cell ∧ ∃ a, f.env.cells.lookup x = some a)
  nd : f.xs.Nodup
  inj : ∀ x y a, f.env.cells.lookup x = some a → f.env.cells.lookup y = some a → x = y
  pv : ∀ a, Pv f a → f.h₀.get? a = none
  base : Up c.X c.hB f.h₀

structure Step (c : Cx) (f : Fm) (mo : Addr → Prop) (s : Shared) (mo' : Addr → Prop) (s' : Shared) : Prop where
  kp : ∀ b o, ¬ c.X b → ¬ Pv f b → ¬ mo b → s.heap.get? b = some o → s'.heap.get? b = some o
  th : ∀ b o, s.heap.get? b = some o → ∃ o', s'.heap.get? b = some o'
  mo : ∀ b, mo' b → mo b ∨ s.heap.get? b = none

theorem Step.refl {c : Cx} {f : Fm} {mo : Addr → Prop} {s : Shared} : Step c f mo s mo s := ⟨fun _ _ _ _ _ e => e, fun _ o e => ⟨o, e⟩, fun _ h => .inl h⟩
theorem Step.ext {c : Cx} {f : Fm} {mo : Addr → Prop} {s s' : Shared} (x : Ext c s s') : Step c f mo s mo s' := ⟨fun b o h _ _ e => x.up.kp b o h e, x.up.th, fun _ h => .inl h⟩
theorem Step.none {c : Cx} {f : Fm} {mo mo' : Addr → Prop} {s s' : Shared} (x : Step c f mo s mo' s') {a : Addr} (e : s'.heap.get? a = none) : s.heap.get? a = none := by
  cases q : s.heap.get? a with
  | none => rfl
  | some o => obtain ⟨o', e'⟩ := x.th a o q; rw [e] at e'; cases e'
theorem Step.trans {c : Cx} {f : Fm} {mo mo' mo'' : Addr → Prop} {s s' s'' : Shared} (a : Step c f mo s mo' s') (b : Step c f mo' s' mo'' s'') : Step c f mo s mo'' s'' where
  kp := fun x o h1 h2 h3 e => b.kp x o h1 h2 (fun h => (a.mo x h).elim h3 fun q => by rw [e] at q; cases q) (a.kp x o h1 h2 h3 e)
  th := fun x o e => let ⟨_, e'⟩ := a.th x o e; b.th x _ e'
  mo := fun x h => (b.mo x h).elim (a.mo x) fun q => .inr (a.none q)
noncomputable def upd {α : Type} (g : Nat → α) (i : Nat) (v : α) : Nat → α := fun j => if j = i then v else g j
theorem upd_self {α : Type} (g : Nat → α) (i : Nat) (v : α) : upd g i v i = v := by simp [upd]
theorem upd_ne {α : Type} (g : Nat → α) (i : Nat) (v : α) {j : Nat} (h : j ≠ i) : upd g i v j = g j := by simp [upd, h]

noncomputable def SlotOk (f : Fm) (ρ : Rho) (i : Nat) (mo : Addr → Prop) (fp : Nat → List Addr) (h : Heap) (k : K) (as : List Addr) : Prop :=
  match k with
  | .sh => ∀ a ∈ as, ¬ mo a
  | .lo => ∀ a ∈ as, ¬ mo a ∧ f.h₀.get? a = none
  | .ow => as.Nodup ∧ (∀ a ∈ as, ¬ mo a ∧ f.h₀.get? a = none) ∧ (∀ j sl, j ≠ i → ρ[j]? = some (some sl) → ∀ a ∈ fp j, a ∉ as) ∧ ∀ a ∈ as, Pl h a
noncomputable def moWith (mo : Addr → Prop) (k : K) (as : List Addr) : Addr → Prop := fun a => mo a ∨ (k = .ow ∧ a ∈ as)

section
variable {c : Cx} {f : Fm} {ρ : Rho} {mo : Addr → Prop} {val : Nat → Value} {fp : Nat → List Addr} {s : Shared} {E : Value → Shared → Prop}

theorem pv_obj (S : St c f ρ mo val fp s) {p : Addr} (hp : Pv f p) : ∃ o, s.heap.get? p = some o ∧ ((∃ es n, o.data = .dict es n) ∨ ∃ v, o.data = .cell v) := by
  rcases hp with rfl | ⟨x, hx⟩
  · obtain ⟨m, o, es, ep, ho, hd, _⟩ := S.ns; exact ⟨o, ho, .inl ⟨es, ep, hd⟩⟩
  · obtain ⟨v, o, ho, hd⟩ := S.cells x p hx; exact ⟨o, ho, .inr ⟨v, hd⟩⟩
theorem pv_notX (S : St c f ρ mo val fp s) {p : Addr} (hp : Pv f p) : ¬ c.X p := fun hx => by
  obtain ⟨o, ho, h⟩ := pv_obj S hp
  obtain ⟨ps, q⟩ := S.wf.tab p hx
  rw [q] at ho; cases ho
  rcases h with ⟨_, _, h⟩ | ⟨_, h⟩ <;> cases h

/-- a change at a private place keeps what is read -/
theorem reads_pv (S : St c f ρ mo val fp s) {p : Addr} {h' : Heap} {v : Value} {d : PyData} {as : List Addr} (hp : Pv f p) (hs : Heap.SameBut p s.heap h') (hL : f.env.locals ∉ as) (r : Reads c.lo s.toks s.heap v d as) (hT : s.toks ≤ T' := by first | exact Nat.le_refl _ | exact Nat.le_succ _ | assumption | omega | (simp only; omega)) : Reads c.lo T' h' v d as := by
  obtain ⟨op, hop, hdp⟩ := pv_obj S hp
  refine reads_upon r (fun a ha o e _ => (hs.2 a fun q => ?_).trans e) (fun a o e ht hd => (hs.2 a fun q => ?_).trans e)
  · subst q
    rcases hp with rfl | ⟨x, hx⟩
    · exact hL ha
    · obtain ⟨v, o2, ho2, hd2⟩ := S.cells x a hx
      obtain ⟨o3, ho3, hl⟩ := reads_objs r a ha
      rw [ho2] at ho3; cases ho3
      rcases hl with ⟨_, _, _, h⟩ | ⟨_, _, _, h⟩ <;> rw [hd2] at h <;> cases h
  · subst q
    rw [hop] at e; cases e
    obtain ⟨vs, n, hd⟩ := hd
    rcases hdp with ⟨_, _, h⟩ | ⟨_, h⟩ <;> rw [hd] at h <;> cases h

theorem St.store {i : Nat} {x : Str} {v : Value} {sl : Slot} {as : List Addr} {p : Addr} {h' : Heap} {tk : Nat} (FS : FmS c f) (S : St c f ρ mo val fp s) (hx : f.xs[i]? = some x) (hi : i < ρ.length)
    (hp : Pv f p) (hs : Heap.SameBut p s.heap h') (hns : ∃ m, h'.Ns f.env.locals m) (hcells : ∀ y a, f.env.cells.lookup y = some a → ∃ v, h'.IsCell a v)
    (hload : Loads f.env h' x v) (hother : ∀ y u, y ≠ x → Loads f.env s.heap y u → Loads f.env h' y u)
    (r : Reads c.lo s.toks s.heap v sl.d as) (hL : f.env.locals ∉ as) (ok : SlotOk f ρ i mo fp s.heap sl.k as) (ht : s.toks ≤ tk := by first | exact Nat.le_refl _ | exact Nat.le_succ _ | assumption | omega | (simp only; omega)) :
    St c f (ρ.set i (some sl)) (moWith mo sl.k as) (upd val i v) (upd fp i as) { s with heap := h', toks := tk } ∧ (∀ b o, ¬ Pv f b → s.heap.get? b = some o → h'.get? b = some o) ∧ (∀ b o, s.heap.get? b = some o → ∃ o', h'.get? b = some o') := by
  have hB : c.hB.get? p = none := FS.base.none (FS.pv p hp)
  have hX := pv_notX S hp
  have slot : ∀ j t, (ρ.set i (some sl))[j]? = some (some t) → (j = i ∧ t = sl) ∨ (j ≠ i ∧ ρ[j]? = some (some t)) := fun j t e => by
    rw [List.getElem?_set] at e
    by_cases q : i = j
    · rw [if_pos q, if_pos hi] at e; cases e; exact .inl ⟨q.symm, rfl⟩
    · rw [if_neg q] at e; exact .inr ⟨fun h => q h.symm, e⟩
  have asmo : ∀ a ∈ as, ¬ mo a := fun a ha => by
    revert ok; unfold SlotOk
    cases sl.k with
    | sh => exact fun q => q a ha
    | lo => exact fun q => (q a ha).1
    | ow => exact fun q => (q.2.1 a ha).1
  have keepB : ∀ b o, b ≠ p → s.heap.get? b = some o → h'.get? b = some o := fun b o hb e => (hs.2 b hb).trans e
  obtain ⟨op, hop, hdp⟩ := pv_obj S hp
  have th : ∀ b o, s.heap.get? b = some o → ∃ o', h'.get? b = some o' := fun b o e => by
    by_cases q : b = p
    · subst q
      rcases hp with rfl | ⟨y, hy⟩
      · obtain ⟨m, o', _, _, ho', _⟩ := hns; exact ⟨o', ho'⟩
      · obtain ⟨_, o', ho', _⟩ := hcells y b hy; exact ⟨o', ho'⟩
    · exact ⟨o, keepB b o q e⟩
  have ldNotPv : ∀ a o, s.heap.get? a = some o → ListOrDict o → a ≠ f.env.locals → a ≠ p := fun a o e hl hn q => by
    subst q
    rcases hp with rfl | ⟨y, hy⟩
    · exact hn rfl
    · obtain ⟨v, o2, ho2, hd2⟩ := S.cells y a hy
      rw [ho2] at e; cases e
      rcases hl with ⟨_, _, _, h⟩ | ⟨_, _, _, h⟩ <;> rw [hd2] at h <;> cases h
  refine ⟨?_, fun b o h2 e => keepB b o (fun q => h2 (q ▸ hp)) e, th⟩
  · refine ⟨S.wf.sameBut hs hB hX ht, S.ok, ⟨fun b o h e => ?_, fun b o e => ?_⟩, hns, hcells, fun j t e => ?_, fun j t e ho => ?_, fun j t e ho => ?_, fun j t e hl => ?_, fun j j' t t' hne e e' ho ho' => ?_, fun a h => ?_, fun a h => ?_, ?_, fun j t e => ?_⟩
    · exact keepB b o (fun q => by have := FS.pv p hp; rw [← q, e] at this; cases this) (S.keep.kp b o h e)
    · obtain ⟨o', e'⟩ := S.keep.th b o e; exact th b o' e'
    · rcases slot j t e with ⟨rfl, rfl⟩ | ⟨hj, e⟩
      · exact ⟨x, hx, by rw [upd_self]; exact hload, by rw [upd_self, upd_self]; exact reads_pv S hp hs hL r⟩
      · obtain ⟨y, h1, h2, h3⟩ := S.var j t e
        have hyx : y ≠ x := fun q => hj (by
          subst q
          have hl1 : j < f.xs.length := (List.getElem?_eq_some_iff.mp h1).1
          exact (List.getElem?_inj hl1 FS.nd).mp (h1.trans hx.symm))
        exact ⟨y, h1, by rw [upd_ne _ _ _ hj]; exact hother y _ hyx h2, by rw [upd_ne _ _ _ hj, upd_ne _ _ _ hj]; exact reads_pv S hp hs (S.fpL j t e) h3⟩
    · rcases slot j t e with ⟨rfl, rfl⟩ | ⟨hj, e⟩
      · rw [upd_self]; simp only [SlotOk, ho] at ok; exact ⟨ok.1, fun a ha => .inr ⟨ho, ha⟩⟩
      · rw [upd_ne _ _ _ hj]; exact ⟨(S.own j t e ho).1, fun a ha => .inl ((S.own j t e ho).2 a ha)⟩
    · rcases slot j t e with ⟨rfl, rfl⟩ | ⟨hj, e⟩
      · rw [upd_self]; exact fun a ha h => h.elim (asmo a ha) fun q => ho q.1
      · rw [upd_ne _ _ _ hj]
        intro a ha h
        rcases h with h | ⟨h, h'⟩
        · exact S.shr j t e ho a ha h
        · simp only [SlotOk, h] at ok; exact ok.2.2.1 j t hj e a ha h'
    · rcases slot j t e with ⟨rfl, rfl⟩ | ⟨hj, e⟩
      · rw [upd_self]; simp only [SlotOk, hl] at ok; exact fun a ha => (ok a ha).2
      · rw [upd_ne _ _ _ hj]; exact S.loc j t e hl
    · rcases slot j t e with ⟨rfl, rfl⟩ | ⟨hj, e1⟩ <;> rcases slot j' t' e' with ⟨rfl, rfl⟩ | ⟨hj', e1'⟩
      · exact absurd rfl hne
      · rw [upd_self, upd_ne _ _ _ hj']
        simp only [SlotOk, ho] at ok
        exact fun a ha h => ok.2.2.1 j' t' hj' e1' a h ha
      · rw [upd_self, upd_ne _ _ _ hj]
        simp only [SlotOk, ho'] at ok
        exact fun a ha h => ok.2.2.1 j t hj e1 a ha h
      · rw [upd_ne _ _ _ hj, upd_ne _ _ _ hj']; exact S.apart j j' t t' hne e1 e1' ho ho'
    · rcases h with h | ⟨h, ha⟩
      · exact S.moNew a h
      · simp only [SlotOk, h] at ok; exact (ok.2.1 a ha).2
    · have : Pl s.heap a := h.elim (S.moPl a) fun q => by
        have ok' := ok
        simp only [SlotOk, q.1] at ok'; exact ok'.2.2.2 a q.2
      obtain ⟨o, ho, hl, hd⟩ := this
      exact ⟨o, keepB a o (ldNotPv a o ho hl (fun q => h.elim (fun h => S.moL (q ▸ h)) fun h => hL (q ▸ h.2))) ho, hl, hd⟩
    · exact fun h => h.elim S.moL fun q => hL q.2
    · rcases slot j t e with ⟨rfl, rfl⟩ | ⟨hj, e⟩
      · rw [upd_self]; exact hL
      · rw [upd_ne _ _ _ hj]; exact S.fpL j t e
end
end Mine

namespace Mine
open PySem PySem.Spec PySem.Calls PyProof.Rows

inductive Fl where
  | next | brk | cont
  | ret (d : PyData) (u : Bool)

noncomputable def FlOk (c : Cx) (f : Fm) (s' : Shared) : Flow → Fl → Prop
  | .next, .next => True
  | .brk, .brk => True
  | .cont, .cont => True
  | .ret v, .ret d u => ∃ as, Reads c.lo s'.toks s'.heap v d as ∧ (∀ a ∈ as, f.h₀.get? a = none) ∧ (u = true → as.Nodup ∧ ∀ a ∈ as, Pl s'.heap a)
  | _, _ => False

noncomputable def Post (c : Cx) (f : Fm) (mo : Addr → Prop) (s : Shared) (Q : Fl → Rho → Prop) (fl : Flow) (s' : Shared) : Prop :=
  ∃ fl' ρ' mo' val' fp', FlOk c f s' fl fl' ∧ St c f ρ' mo' val' fp' s' ∧ Step c f mo s mo' s' ∧ Q fl' ρ'

noncomputable def Ex1 (c : Cx) (f : Fm) (st : Stmt) (ρ : Rho) (Q : Fl → Rho → Prop) : Prop :=
  ∀ mo val fp s, St c f ρ mo val fp s → wpAny c.M f.A (exec st f.env) (Post c f mo s Q) (fun _ _ => False) s
noncomputable def Ex (c : Cx) (f : Fm) (body : List Stmt) (ρ : Rho) (Q : Fl → Rho → Prop) : Prop :=
  ∀ mo val fp s, St c f ρ mo val fp s → wpAny c.M f.A (execs body f.env) (Post c f mo s Q) (fun _ _ => False) s

noncomputable def seqQ (c : Cx) (f : Fm) (rest : List Stmt) (Q : Fl → Rho → Prop) : Fl → Rho → Prop
  | .next, ρ => Ex c f rest ρ Q
  | fl, ρ => Q fl ρ

section
variable {c : Cx} {f : Fm} {ρ ρ' : Rho} {mo mo' : Addr → Prop} {val val' : Nat → Value} {fp fp' : Nat → List Addr} {s s' : Shared} {E : Value → Shared → Prop}
  {st : Stmt} {rest body orelse : List Stmt} {Q : Fl → Rho → Prop} {e : Expr} {d : PyData} {k : EK} {pos : Pos}

theorem Post.mono {Q' : Fl → Rho → Prop} {fl : Flow} (h : Post c f mo s Q fl s') (hq : ∀ fl ρ, Q fl ρ → Q' fl ρ) : Post c f mo s Q' fl s' :=
  let ⟨a, b, m, v, p, h1, h2, h3, h4⟩ := h; ⟨a, b, m, v, p, h1, h2, h3, hq _ _ h4⟩
theorem Post.later {fl : Flow} {s1 : Shared} (x : Step c f mo s mo' s1) (h : Post c f mo' s1 Q fl s') : Post c f mo s Q fl s' :=
  let ⟨a, b, m, v, p, h1, h2, h3, h4⟩ := h; ⟨a, b, m, v, p, h1, h2, x.trans h3, h4⟩

theorem ex_nil (h : Q .next ρ) : Ex c f [] ρ Q := fun mo val fp s S => wpAny_execs_nil ⟨.next, ρ, mo, val, fp, trivial, S, Step.refl, h⟩
theorem ex_cons (h : Ex1 c f st ρ (seqQ c f rest Q)) : Ex c f (st :: rest) ρ Q := fun mo val fp s S => by
  refine wpAny_execs_cons (wpAny_mono (h mo val fp s S) (fun fl s1 hp => ?_) fun _ _ z => z)
  obtain ⟨fl', ρ', mo', val', fp', h1, h2, h3, h4⟩ := hp
  cases fl <;> cases fl' <;> first | exact h1.elim | skip
  · exact wpAny_mono (h4 mo' val' fp' s1 h2) (fun fl s2 hp => hp.later h3) fun _ _ z => z
  · exact ⟨.brk, ρ', mo', val', fp', h1, h2, h3, h4⟩
  · exact ⟨.cont, ρ', mo', val', fp', h1, h2, h3, h4⟩
  · exact ⟨.ret _ _, ρ', mo', val', fp', h1, h2, h3, h4⟩
theorem ex_one (h : Ex1 c f st ρ Q) : Ex c f [st] ρ Q := ex_cons fun mo val fp s S => wpAny_mono (h mo val fp s S) (fun fl s1 hp => hp.mono fun fl ρ q => by
  cases fl <;> first | exact ex_nil q | exact q) fun _ _ z => z
theorem Ex1.mono {Q' : Fl → Rho → Prop} (h : Ex1 c f st ρ Q) (hq : ∀ fl ρ, Q fl ρ → Q' fl ρ) : Ex1 c f st ρ Q' := fun mo val fp s S => wpAny_mono (h mo val fp s S) (fun _ _ hp => hp.mono hq) fun _ _ z => z

/-! less knowledge -/
noncomputable def K.le : K → K → Bool
  | .sh, _ => true
  | .lo, .sh => false
  | .lo, _ => true
  | .ow, .ow => true
  | .ow, _ => false
noncomputable def Sub (ρ ρ' : Rho) : Prop := ∀ (i : Nat) (sl' : Slot), ρ'[i]? = some (some sl') → ∃ sl : Slot, ρ[i]? = some (some sl) ∧ sl.d = sl'.d ∧ (sl'.k.le sl.k = true ∨ flat sl.d = true)
noncomputable def moOf (ρ : Rho) (fp : Nat → List Addr) : Addr → Prop := fun a => ∃ (i : Nat) (sl : Slot), ρ[i]? = some (some sl) ∧ sl.k = .ow ∧ a ∈ fp i

/-! a store into a variable -/
theorem store_step {x : Str} {i : Nat} {v : Value} {sl : Slot} {as : List Addr} {Q : Unit → Shared → Prop} (FS : FmS c f) (S : St c f ρ mo val fp s) (hx : f.xs[i]? = some x) (hi : i < ρ.length)
    (r : Reads c.lo s.toks s.heap v sl.d as) (hL : f.env.locals ∉ as) (ok : SlotOk f ρ i mo fp s.heap sl.k as)
    (hQ : ∀ s', St c f (ρ.set i (some sl)) (moWith mo sl.k as) (upd val i v) (upd fp i as) s' → (∀ b o, ¬ Pv f b → s.heap.get? b = some o → s'.heap.get? b = some o) → (∀ b o, s.heap.get? b = some o → ∃ o', s'.heap.get? b = some o') → Q () s') :
    wpAny c.M f.A (storeName f.env x v) Q E s := by
  rcases FS.kinds i x hx with hl | ⟨hl, a, ha⟩
  · obtain ⟨m, hm⟩ := S.ns
    refine wpAny_storeName_local hl hm (fun h' hn hs => ?_) (by rw [S.ok.kind]; rfl)
    have := S.store (v := v) (sl := sl) (as := as) (p := f.env.locals) (h' := h') (tk := s.toks + 1) FS hx hi (.inl rfl) hs ⟨_, hn⟩ (fun y a e => ?_) (.inl ⟨hl, _, hn, by simp⟩) (fun y u hy ld => ?_) r hL ok
    · exact hQ _ this.1 this.2.1 this.2.2
    · obtain ⟨v0, o, ho, hd⟩ := S.cells y a e
      refine ⟨v0, o, (hs.2 a fun q => ?_).trans ho, hd⟩
      subst q
      obtain ⟨o2, _, _, ho2, hd2, _⟩ := hm
      rw [ho] at ho2; cases ho2; rw [hd] at hd2; cases hd2
    · rcases ld with ⟨h1, m1, h2, h3⟩ | ⟨h1, a, h2, h3⟩
      · refine .inl ⟨h1, _, hn, ?_⟩
        have e1 : m1 y = m y := by
          obtain ⟨o1, es1, _, g1, g2, _, g3⟩ := h2
          obtain ⟨o2, es2, _, g4, g5, _, g6⟩ := hm
          rw [g1] at g4; cases g4
          rw [g2] at g5; cases g5
          rw [← g3, ← g6]
        simp only [hy, if_false, ← e1, h3]
      · obtain ⟨o, ho, hd⟩ := h3
        refine .inr ⟨h1, a, h2, o, (hs.2 a fun q => ?_).trans ho, hd⟩
        subst q
        obtain ⟨o2, _, _, ho2, hd2, _⟩ := hm
        rw [ho] at ho2; cases ho2; rw [hd] at hd2; cases hd2
  · obtain ⟨v0, hv0⟩ := S.cells x a ha
    refine wpAny_storeName_cell S.ok.kind hl ha hv0 fun h' hv hs => ?_
    have := S.store (v := v) (sl := sl) (as := as) (p := a) (h' := h') (tk := s.toks) FS hx hi (.inr ⟨x, ha⟩) hs ?_ (fun y b e => ?_) (.inr ⟨.inl hl, a, ha, hv⟩) (fun y u hy ld => ?_) r hL ok
    · exact hQ _ this.1 this.2.1 this.2.2
    · obtain ⟨m, o, es, ep, ho, hd, q⟩ := S.ns
      refine ⟨m, o, es, ep, (hs.2 _ fun q => ?_).trans ho, hd, q⟩
      obtain ⟨o2, ho2, hd2⟩ := hv0
      rw [q, ho2] at ho; cases ho; rw [hd2] at hd; cases hd
    · by_cases q : b = a
      · subst q; exact ⟨_, hv⟩
      · obtain ⟨v1, o, ho, hd⟩ := S.cells y b e
        exact ⟨v1, o, (hs.2 b q).trans ho, hd⟩
    · rcases ld with ⟨h1, m1, ⟨o, es, ep, ho, hd, h2⟩, h3⟩ | ⟨h1, b, h2, h3⟩
      · refine .inl ⟨h1, m1, ⟨o, es, ep, (hs.2 _ fun q => ?_).trans ho, hd, h2⟩, h3⟩
        obtain ⟨o2, ho2, hd2⟩ := hv0
        rw [q, ho2] at ho; cases ho; rw [hd2] at hd; cases hd
      · obtain ⟨o, ho, hd⟩ := h3
        exact .inr ⟨h1, b, h2, o, (hs.2 b fun q => hy (FS.inj y x a (q ▸ h2) ha)).trans ho, hd⟩

/-- what kind of slot a value of a kind may fill -/
inductive Fills : EK → PyData → K → Prop
  | fr {d : PyData} : Fills .fr d .ow
  | lo {d : PyData} : Fills .lo d .lo
  | frlo {d : PyData} : Fills .fr d .lo
  | sh {d : PyData} : Fills .sh d .sh
  | flat {k : EK} {d : PyData} {k' : K} : flat d = true → Fills k d k'

theorem Fills.ok {k : EK} {d : PyData} {sk : K} {v : Value} {as : List Addr} (h : Fills k d sk) (S : St c f ρ mo val fp s) (x : Ext c s s') (r : Reads c.lo s'.toks s'.heap v d as) (ko : KOk f mo fp s.heap s'.heap k as) {i : Nat} :
    SlotOk f ρ i mo fp s'.heap sk as ∧ (sk = .ow → ∀ a ∈ as, s.heap.get? a = none) := by
  have fpIn : ∀ j sl, ρ[j]? = some (some sl) → ∀ a ∈ fp j, ∃ o, s.heap.get? a = some o := fun j sl e a ha => by
    obtain ⟨_, _, _, r⟩ := S.var j sl e
    obtain ⟨o, ho, _⟩ := reads_objs r a ha; exact ⟨o, ho⟩
  cases h with
  | fr => exact ⟨⟨ko.2.1, (KOk.fr_lo S ko).2, fun j sl _ e a ha h => (by obtain ⟨o, ho⟩ := fpIn j sl e a ha; rw [ko.2.2.1 a h] at ho; cases ho), ko.2.2.2⟩, fun _ => ko.2.2.1⟩
  | lo => exact ⟨ko.2, by nofun⟩
  | frlo => exact ⟨(KOk.fr_lo S ko).2, by nofun⟩
  | sh => exact ⟨ko.2, by nofun⟩
  | flat hf =>
    rw [reads_flat r hf]
    refine ⟨?_, by nofun⟩
    cases sk with
    | sh => exact nofun
    | lo => exact nofun
    | ow => exact ⟨.nil, nofun, fun _ _ _ _ _ _ h => (by cases h), nofun⟩

theorem ex_assign {x : Str} {xp : Pos} {i : Nat} {sk : K} (FS : FmS c f) (hx : f.xs[i]? = some x) (hi : i < ρ.length) (h : Ev c f ρ e d k) (hk : Fills k d sk)
    (hQ : Q .next (ρ.set i (some ⟨sk, d⟩))) (hs : ∀ env, swapsWith e (some (.Name x xp)) pos.line env = pure false := by intro _; rfl) : Ex1 c f (.Assign [.Name x xp] e pos) ρ Q := fun mo val fp s S => by
  refine wpAny_Assign_Name (h.bind S fun v s1 as x1 S1 r1 ko => ?_) (hs _)
  obtain ⟨ok, fresh⟩ := hk.ok S x1 r1 ko (i := i)
  refine store_step (sl := ⟨sk, d⟩) FS S1 hx hi r1 ko.1 ok fun s2 S2 hk2 th2 => ?_
  refine ⟨.next, _, _, _, _, trivial, S2, ⟨fun b o h1 h2 h3 e => hk2 b o h2 (x1.up.kp b o h1 e), fun b o e => let ⟨o', e'⟩ := x1.up.th b o e; th2 b o' e', fun b h => ?_⟩, hQ⟩
  rcases h with h | ⟨h, hb⟩
  · exact .inl h
  · exact .inr (fresh h b hb)

theorem ex_return {u : Bool} (h : Ev c f ρ e d k) (hk : (k = .fr) ∨ (k = .lo ∧ u = false) ∨ (flat d = true) ∨ (∃ is : List Nat, k = .us is ∧ is.Nodup ∧ ∀ i ∈ is, ∃ sl : Slot, ρ[i]? = some (some sl) ∧ sl.k = .ow))
    (hQ : Q (.ret d u) ρ) : Ex1 c f (.Return (some e) pos) ρ Q := fun mo val fp s S => by
  refine wpAny_Return_some (h.bind S fun v s1 as x1 S1 r1 ko => ?_)
  refine ⟨.ret d u, ρ, mo, val, fp, ⟨as, r1, ?_⟩, S1, Step.ext x1, hQ⟩
  rcases hk with rfl | ⟨rfl, rfl⟩ | hf | ⟨is, rfl, hn, hi⟩
  · exact ⟨fun a ha => S.keep.none (ko.2.2.1 a ha), fun _ => ⟨ko.2.1, ko.2.2.2⟩⟩
  · exact ⟨fun a ha => (ko.2 a ha).2, by nofun⟩
  · rw [reads_flat r1 hf]; exact ⟨nofun, fun _ => ⟨.nil, nofun⟩⟩
  · have : as = is.flatMap fp := ko.2
    subst this
    refine ⟨fun a ha => ?_, fun _ => ⟨?_, fun a ha => ?_⟩⟩
    · obtain ⟨i, h1, h2⟩ := List.mem_flatMap.mp ha
      obtain ⟨sl, h3, h4⟩ := hi i h1
      exact S.moNew a ((S.own i sl h3 h4).2 a h2)
    · clear h r1 ko
      induction is with
      | nil => exact .nil
      | cons i is ih =>
        rw [List.flatMap_cons]
        obtain ⟨sl, h3, h4⟩ := hi i (List.mem_cons_self ..)
        refine List.nodup_append.mpr ⟨(S.own i sl h3 h4).1, ih (List.nodup_cons.mp hn).2 fun j hj => hi j (List.mem_cons_of_mem _ hj), fun a ha b hb q => ?_⟩
        subst q
        obtain ⟨j, h5, h6⟩ := List.mem_flatMap.mp hb
        obtain ⟨sl', h7, h8⟩ := hi j (List.mem_cons_of_mem _ h5)
        exact S.apart i j sl sl' (fun q => (List.nodup_cons.mp hn).1 (q ▸ h5)) h3 h7 h4 h8 a ha h6
    · obtain ⟨i, h1, h2⟩ := List.mem_flatMap.mp ha
      obtain ⟨sl, h3, h4⟩ := hi i h1
      exact S1.moPl a ((S.own i sl h3 h4).2 a h2)

theorem ex_if {t : Expr} {q : Bool} (ht : Tst c f ρ t q) (h1 : q = true → Ex c f body ρ Q) (h2 : q = false → Ex c f orelse ρ Q) : Ex1 c f (.If t body orelse pos) ρ Q := fun mo val fp s S => by
  refine wpAny_If (ht.bind S fun s1 x1 S1 => ?_)
  cases q with
  | true => exact wpAny_mono (h1 rfl mo val fp s1 S1) (fun _ _ hp => hp.later (Step.ext x1)) fun _ _ z => z
  | false => exact wpAny_mono (h2 rfl mo val fp s1 S1) (fun _ _ hp => hp.later (Step.ext x1)) fun _ _ z => z
end
end Mine

namespace Mine
open PySem PySem.Spec PySem.Calls PyProof.Rows

theorem itemT {prog : Program} {w : World} {A : Around} {I : Addr} {fp wr : List Addr} {n : Nat} {P : Nat → Value → Prop} {St : Nat → Heap → Prop} (W : Walks prog w A I fp wr n P St) (i : Nat) (s : Shared) (Q : Option Value → Shared → Prop) (E : Value → Shared → Prop) (hi : i < n) (st : St i s.heap)
    (hQ : ∀ v h' tk, s.toks ≤ tk → P i v → St (i + 1) h' → (∀ b o, b ∉ wr → s.heap.get? b = some o → h'.get? b = some o) → Q (some v) { s with heap := h', toks := tk }) : wpAny (model prog w) A (pyNext (.ref I)) Q E s :=
  wpAny_with_toks (Nat.le_refl _) (W.item i s (fun a s' => s.toks ≤ s'.toks → Q a s') _ hi st fun v h' tk a b c hle => hQ v h' tk hle a b c)
theorem doneT {prog : Program} {w : World} {A : Around} {I : Addr} {fp wr : List Addr} {n : Nat} {P : Nat → Value → Prop} {St : Nat → Heap → Prop} (W : Walks prog w A I fp wr n P St) (s : Shared) (Q : Option Value → Shared → Prop) (E : Value → Shared → Prop) (st : St n s.heap)
    (hQ : ∀ h' tk, s.toks ≤ tk → (∀ b o, b ∉ wr → s.heap.get? b = some o → h'.get? b = some o) → Q none { s with heap := h', toks := tk }) : wpAny (model prog w) A (pyNext (.ref I)) Q E s :=
  wpAny_with_toks (Nat.le_refl _) (W.done s (fun a s' => s.toks ≤ s'.toks → Q a s') _ st fun h' tk a hle => hQ h' tk hle a)
/-! changes at the objects of fields that the call itself has made (iterators) -/
theorem oldK_but {h₀ h h' : Heap} {wr : List Addr} (K : OldK h₀ h) (hB : ∀ b ∈ wr, h₀.get? b = none) (hk : ∀ b o, b ∉ wr → h.get? b = some o → h'.get? b = some o) : OldK h₀ h' := by
  have ne : ∀ b o, h₀.get? b = some o → b ∉ wr := fun b o e q => by rw [hB b q] at e; cases e
  refine ⟨fun b o e => ?_, fun b o e => let ⟨o', ho'⟩ := K.there b o e; ⟨o', hk b o' (ne b o e) ho'⟩⟩
  rcases K.old b o e with x | ⟨t, hc, vs, more, hv, x⟩ | ⟨rfl, hc, ⟨o', es, n, ho', r⟩, z⟩
  · exact .inl (hk b o (ne b o e) x)
  · exact .inr (.inl ⟨t, hc, vs, more, hv, hk _ _ (ne b o e) x⟩)
  · have q := hk _ _ (ne _ o e) ho'
    exact .inr (.inr ⟨rfl, hc, ⟨o', es, n, q, r⟩, fun key => by rw [OldK.staticOf_congr (q.trans ho'.symm) key]; exact z key⟩)

section
variable {c : Cx} {f : Fm} {ρ : Rho} {mo : Addr → Prop} {val : Nat → Value} {fp : Nat → List Addr} {s : Shared} {E : Value → Shared → Prop}

theorem reads_soft {h h' : Heap} {wr : List Addr} {v : Value} {d : PyData} {as : List Addr} (hk : ∀ b o, b ∉ wr → h.get? b = some o → h'.get? b = some o)
    (hw : ∀ b ∈ wr, ∃ o vs, h.get? b = some o ∧ o.data = .fields vs) (r : Reads L T h v d as) (hT : T ≤ T' := by first | exact Nat.le_refl _ | exact Nat.le_succ _ | assumption | omega | (simp only; omega)) : Reads L T' h' v d as := by
  refine reads_upon r (fun a ha o e _ => hk a o (fun q => ?_) e) (fun a o e _ hd => hk a o (fun q => ?_) e)
  · obtain ⟨o1, h1, h2⟩ := reads_objs r a ha
    obtain ⟨o2, vs, h3, h4⟩ := hw a q
    rw [h1] at h3; cases h3
    rcases h2 with ⟨_, _, _, h⟩ | ⟨_, _, _, h⟩ <;> rw [h4] at h <;> cases h
  · obtain ⟨o2, vs, h3, h4⟩ := hw a q
    rw [e] at h3; cases h3
    obtain ⟨_, _, h⟩ := hd
    rw [h4] at h; cases h

theorem St.soft {wr : List Addr} {h' : Heap} {tk : Nat} (S : St c f ρ mo val fp s) (hk : ∀ b o, b ∉ wr → s.heap.get? b = some o → h'.get? b = some o)
    (hw : ∀ b ∈ wr, ∃ o vs, s.heap.get? b = some o ∧ o.data = .fields vs) (hn : ∀ b ∈ wr, f.h₀.get? b = none) (hB : ∀ b ∈ wr, c.hB.get? b = none) (hX : ∀ b ∈ wr, ¬ c.X b) (ht : s.toks ≤ tk) :
    St c f ρ mo val fp { s with heap := h', toks := tk } := by
  have nw : ∀ {b : Addr} {o : Obj}, s.heap.get? b = some o → (∀ vs, o.data ≠ .fields vs) → b ∉ wr := fun {b o} e h q => by
    obtain ⟨o2, vs, h3, h4⟩ := hw b q
    rw [e] at h3; cases h3; exact h vs h4
  have nsK : ∀ {a m}, s.heap.Ns a m → h'.Ns a m := fun ⟨o, es, ep, ho, hd, r⟩ => ⟨o, es, ep, hk _ o (nw ho (by rw [hd]; nofun)) ho, hd, r⟩
  have cellK : ∀ {a v}, s.heap.IsCell a v → h'.IsCell a v := fun ⟨o, ho, hd⟩ => ⟨o, hk _ o (nw ho (by rw [hd]; nofun)) ho, hd⟩
  refine ⟨⟨fun b o h e => ?_, fun b h => ?_, oldK_but S.wf.old hB hk, S.wf.gens, S.wf.os, Nat.le_trans S.wf.lot ht⟩, S.ok, ⟨fun b o h e => ?_, fun b o e => ?_⟩, let ⟨m, n⟩ := S.ns; ⟨m, nsK n⟩,
    fun x a e => let ⟨v, n⟩ := S.cells x a e; ⟨v, cellK n⟩, fun i sl e => ?_, S.own, S.shr, S.loc, S.apart, S.moNew, fun a h => ?_, S.moL, S.fpL⟩
  · exact hk b o (fun q => by rw [hB b q] at e; cases e) (S.wf.base b o h e)
  · obtain ⟨ps, q⟩ := S.wf.tab b h; exact ⟨ps, hk _ _ (fun q => hX b q h) q⟩
  · exact hk b o (fun q => by rw [hn b q] at e; cases e) (S.keep.kp b o h e)
  · obtain ⟨o', e'⟩ := S.keep.th b o e; exact ⟨o', hk b o' (fun q => by rw [hn b q] at e; cases e) e'⟩
  · obtain ⟨x, h1, h2, h3⟩ := S.var i sl e
    refine ⟨x, h1, ?_, reads_soft hk hw h3⟩
    rcases h2 with ⟨g1, m, g2, g3⟩ | ⟨g1, a, g2, g3⟩
    · exact .inl ⟨g1, m, nsK g2, g3⟩
    · exact .inr ⟨g1, a, g2, cellK g3⟩
  · obtain ⟨o, ho, hl, hd⟩ := S.moPl a h
    exact ⟨o, hk a o (nw ho (by rcases hl with ⟨_, _, _, q⟩ | ⟨_, _, _, q⟩ <;> rw [q] <;> nofun)) ho, hl, hd⟩

/-- tuples stand under any step -/
theorem Step.tuple {mo' : Addr → Prop} {s' : Shared} (S : St c f ρ mo val fp s) (x : Step c f mo s mo' s') {a : Addr} {o : Obj} (e : s.heap.get? a = some o) (hc : o.cls = .type "tuple") (hd : ∃ vs n, o.data = .seq vs n) : s'.heap.get? a = some o := by
  obtain ⟨vs, n, hd⟩ := hd
  refine x.kp a o (not_tab S.wf e (by rw [hc]; nofun)) (fun hp => ?_) (fun hm => ?_) e
  · obtain ⟨o2, h2, h3⟩ := pv_obj S hp
    rw [e] at h2; cases h2
    rcases h3 with ⟨_, _, h⟩ | ⟨_, h⟩ <;> rw [hd] at h <;> cases h
  · obtain ⟨o2, h2, h3⟩ := S.moIn a hm
    rw [e] at h2; cases h2
    rcases h3 with ⟨h, _⟩ | ⟨h, _⟩ <;> rw [hc] at h <;> simp at h

noncomputable def EK.safe : EK → Bool
  | .sh | .lo | .fr => true
  | _ => false

structure Itr (c : Cx) (f : Fm) (mo : Addr → Prop) (fp : Nat → List Addr) (s s2 : Shared) (ds : List PyData) (k : EK) (I : Addr) (Fp wr : List Addr) (P : Nat → Value → Prop) (Sx : Nat → Heap → Prop) (as : List Addr) : Prop where
  walks : Walks c.prog c.w f.A I Fp wr ds.length P Sx
  start : Sx 0 s2.heap
  inH : ∀ b ∈ Fp, ∃ o, s2.heap.get? b = some o
  npv : ∀ b ∈ Fp, ¬ Pv f b
  nX : ∀ b ∈ Fp, ¬ c.X b
  nmo : k.safe = true → ∀ b ∈ Fp, ¬ mo b
  fld : ∀ i h, Sx i h → ∀ b ∈ wr, ∃ o vs, h.get? b = some o ∧ o.data = .fields vs
  new : ∀ b ∈ wr, s.heap.get? b = none
  val : ∀ j v d, P j v → ds[j]? = some d → ∃ bs, bs.Sublist as ∧ Reads c.lo s2.toks s2.heap v d bs
  ok : KOk f mo fp s.heap s2.heap k as
  asIn : ∀ a ∈ as, ∃ o, s2.heap.get? a = some o ∧ ListOrDict o

noncomputable def It (c : Cx) (f : Fm) (ρ : Rho) (e : Expr) (ds : List PyData) (k : EK) : Prop :=
  ∀ mo val fp s E, St c f ρ mo val fp s → wpAny c.M f.A (eval e f.env) (fun xv s1 => wpAny c.M f.A (pyIter xv) (fun it s2 => Ext c s s2 ∧
    ∃ I Fp wr P Sx as, it = .ref I ∧ Itr c f mo fp s s2 ds k I Fp wr P Sx as) E s1) E s

/-- slots of a loop's name -/
inductive Fills2 : EK → List PyData → K → Prop
  | sh {ds : List PyData} : Fills2 .sh ds .sh
  | lo {ds : List PyData} : Fills2 .lo ds .lo
  | fr {ds : List PyData} : Fills2 .fr ds .lo
  | flat {k : EK} {ds : List PyData} {sk : K} : k.safe = true → (∀ d ∈ ds, flat d = true) → Fills2 k ds sk
theorem Fills2.safe {k : EK} {ds : List PyData} {sk : K} (h : Fills2 k ds sk) : k.safe = true := by cases h <;> first | rfl | assumption

noncomputable def loopQ (J : Rho → Prop) (Q : Fl → Rho → Prop) : Fl → Rho → Prop
  | .next, ρ => J ρ
  | .cont, ρ => J ρ
  | .brk, ρ => Q .next ρ
  | .ret d u, ρ => Q (.ret d u) ρ

variable {Q : Fl → Rho → Prop} {body : List Stmt} {pos : Pos}

theorem pv_ld (S : St c f ρ mo val fp s) {a : Addr} {o : Obj} (e : s.heap.get? a = some o) (hl : ListOrDict o) (hn : a ≠ f.env.locals) : ¬ Pv f a := fun hp => by
  rcases hp with rfl | ⟨y, hy⟩
  · exact hn rfl
  · obtain ⟨v, o2, ho2, hd2⟩ := S.cells y a hy
    rw [ho2] at e; cases e
    rcases hl with ⟨_, _, _, h⟩ | ⟨_, _, _, h⟩ <;> rw [hd2] at h <;> cases h

theorem ex_for {x : Str} {xp : Pos} {iter : Expr} {i : Nat} {sk : K} {ds : List PyData} {k : EK} (FS : FmS c f) (hx : f.xs[i]? = some x) (h : It c f ρ iter ds k) (hk : Fills2 k ds sk)
    (J : Nat → Rho → Prop) (h0 : J 0 ρ)
    (hb : ∀ j d ρ', ds[j]? = some d → J j ρ' → i < ρ'.length ∧ Ex c f body (ρ'.set i (some ⟨sk, d⟩)) (loopQ (J (j + 1)) Q))
    (hend : ∀ ρ', J ds.length ρ' → Q .next ρ') (hs : ∀ env x, foldedSetIterable iter env x = pure x := by intro _ _; rfl) : Ex1 c f (.For (.Name x xp) iter body [] pos) ρ Q := fun mo val fp s S => by
  refine wpAny_For (wpAny_mono (h mo val fp s _ S) (fun xv s1 h1 => wpAny_mono h1 (fun it s2 ⟨x2, I, Fp, wr, P, Sx, as, e, T⟩ => ?_) fun _ _ z => z) fun _ _ z => z) (hs _)
  subst e
  have hsafe := hk.safe
  have S2 := S.ext x2
  have wrH0 : ∀ b ∈ wr, f.h₀.get? b = none := fun b hb => S.keep.none (T.new b hb)
  have wrHB : ∀ b ∈ wr, c.hB.get? b = none := fun b hb => FS.base.none (wrH0 b hb)
  have wrX : ∀ b ∈ wr, ¬ c.X b := fun b hb => T.nX b (T.walks.sub b hb)
  have asmo : ∀ a ∈ as, ¬ mo a := by
    have ko := T.ok
    cases k <;> first | (cases hsafe; done) | skip
    · exact ko.2
    · exact fun a ha => (ko.2 a ha).1
    · exact fun a ha => ((KOk.fr_lo S ko).2 a ha).1
  have aslo : k ≠ .sh → ∀ a ∈ as, f.h₀.get? a = none := by
    have ko := T.ok
    cases k <;> first | (cases hsafe; done) | skip
    · exact fun q => absurd rfl q
    · exact fun _ a ha => (ko.2 a ha).2
    · exact fun _ a ha => ((KOk.fr_lo S ko).2 a ha).2
  refine codeAny_forLoop_any (fun n s' => ∃ j ρ' mo' val' fp', j ≤ ds.length ∧ n = ds.length + 1 - j ∧ J j ρ' ∧ s2.toks ≤ s'.toks ∧ St c f ρ' mo' val' fp' s' ∧ Step c f mo s mo' s' ∧ Sx j s'.heap ∧
      (∀ b ∈ Fp, ∃ o, s'.heap.get? b = some o) ∧ (∀ b ∈ Fp, ¬ mo' b) ∧ (∀ a ∈ as, ¬ mo' a) ∧ (∀ a ∈ as, ∀ o, s2.heap.get? a = some o → ListOrDict o → s'.heap.get? a = some o) ∧
      (∀ a o, s2.heap.get? a = some o → o.cls = .type "tuple" → (∃ vs n, o.data = .seq vs n) → s'.heap.get? a = some o)) ?_ (ds.length + 1)
    ⟨0, ρ, mo, val, fp, Nat.zero_le _, rfl, h0, Nat.le_refl _, S2, Step.ext x2, T.start, T.inH, T.nmo hsafe, asmo, fun _ _ _ e _ => e, fun _ _ e _ _ => e⟩
  rintro n s' ⟨j, ρ', mo', val', fp', hj, rfl, hJ, hts, S', X', hSx, hin, hnm, hasm, hkeep, htup⟩
  by_cases hlt : j < ds.length
  · refine itemT T.walks j s' _ _ hlt hSx fun v h3 tk htk hP hSx3 hk3 => ?_
    obtain ⟨d, hd⟩ : ∃ d, ds[j]? = some d := ⟨_, List.getElem?_eq_getElem hlt⟩
    obtain ⟨bs, hbs, r2⟩ := T.val j v d hP hd
    have wrF := T.fld j s'.heap hSx
    have S3 := S'.soft (h' := h3) (tk := tk) hk3 wrF wrH0 wrHB wrX htk
    have asW : ∀ a o, s2.heap.get? a = some o → ListOrDict o → s'.heap.get? a = some o → h3.get? a = some o := fun a o e hl e' => hk3 a o (fun q => by
      obtain ⟨o2, vs, g1, g2⟩ := wrF a q
      rw [e'] at g1; cases g1
      rcases hl with ⟨_, _, _, h⟩ | ⟨_, _, _, h⟩ <;> rw [g2] at h <;> cases h) e'
    have tupW : ∀ a o, s2.heap.get? a = some o → o.cls = .type "tuple" → (∃ vs n, o.data = .seq vs n) → h3.get? a = some o := fun a o e hc hd => hk3 a o (fun q => by
      obtain ⟨o2, vs, g1, g2⟩ := wrF a q
      rw [htup a o e hc hd] at g1; cases g1
      obtain ⟨_, _, h⟩ := hd; rw [g2] at h; cases h) (htup a o e hc hd)
    have r3 : Reads c.lo tk h3 v d bs := reads_upon r2 (fun a ha o e _ => by
        obtain ⟨o1, g1, g2⟩ := reads_objs r2 a ha
        rw [e] at g1; cases g1
        exact asW a o e g2 (hkeep a (hbs.subset ha) o e g2)) tupW (Nat.le_trans hts htk)
    show wpAny _ _ (letOwnedTupleGo (.Name x xp) (.ref I) v) _ _ _
    refine wpAny_pure (wpAny_assign_Name (wpAny_with_toks (n := s2.toks) (Nat.le_trans hts htk) ?_))
    obtain ⟨hil, hB⟩ := hb j d ρ' hd hJ
    have hL : f.env.locals ∉ bs := fun h => T.ok.1 (hbs.subset h)
    have fl : flat d = true → bs = [] := fun hf => reads_flat r2 hf
    have ok : SlotOk f ρ' i mo' fp' h3 sk bs := by
      cases hk with
      | sh => exact fun a ha => hasm a (hbs.subset ha)
      | lo => exact fun a ha => ⟨hasm a (hbs.subset ha), aslo (by nofun) a (hbs.subset ha)⟩
      | fr => exact fun a ha => ⟨hasm a (hbs.subset ha), aslo (by nofun) a (hbs.subset ha)⟩
      | flat _ hf =>
        rw [fl (hf d (List.mem_of_getElem? hd))]
        cases sk with
        | sh => exact nofun
        | lo => exact nofun
        | ow => exact ⟨.nil, nofun, fun _ _ _ _ _ _ h => (by cases h), nofun⟩
    refine store_step (sl := ⟨sk, d⟩) FS S3 hx hil r3 hL ok fun s4 S4 hk4 th4 hle4 => ?_
    -- what lies at the loop's own places stands under the store
    have mo4 : ∀ b, moWith mo' sk bs b → mo' b ∨ b ∈ bs := fun b h => h.imp id And.right
    have bsFlat : sk = .ow → bs = [] := by
      cases hk with
      | sh => nofun
      | lo => nofun
      | fr => nofun
      | flat _ hf => exact fun _ => fl (hf d (List.mem_of_getElem? hd))
    have mo4' : ∀ b, moWith mo' sk bs b → mo' b := fun b h => h.elim id fun ⟨q, hb⟩ => by rw [bsFlat q] at hb; cases hb
    have Fp3 : ∀ b ∈ Fp, ∃ o, h3.get? b = some o := fun b hb => by
      obtain ⟨o, e⟩ := hin b hb
      by_cases q : b ∈ wr
      · obtain ⟨o2, vs, g1, _⟩ := T.fld _ h3 hSx3 b q; exact ⟨o2, g1⟩
      · exact ⟨o, hk3 b o q e⟩
    have X4 : Step c f mo s (moWith mo' sk bs) s4 := ⟨fun b o h1 h2 h3' e => by
        have e1 := X'.kp b o h1 h2 h3' e
        have e2 := hk3 b o (fun q => by rw [T.new b q] at e; cases e) e1
        exact hk4 b o h2 e2, fun b o e => by
        obtain ⟨o1, e1⟩ := X'.th b o e
        have e2 := hk3 b o1 (fun q => by rw [T.new b q] at e; cases e) e1
        exact th4 b o1 e2, fun b h => X'.mo b (mo4' b h)⟩
    have hSx4 : Sx (j + 1) s4.heap := T.walks.frame _ _ _ hSx3 fun b hb o e => hk4 b o (T.npv b hb) e
    have Fp4 : ∀ b ∈ Fp, ∃ o, s4.heap.get? b = some o := fun b hb => let ⟨o, e⟩ := Fp3 b hb; ⟨o, hk4 b o (T.npv b hb) e⟩
    refine wpAny_mono (wpAny_toks_of hle4 (hB _ _ _ s4 S4)) (fun fl s5 hp => ?_) fun _ _ z => z.2.elim
    obtain ⟨hle5, fl', ρ5, mo5, val5, fp5, hfl, S5, X5, hq⟩ := hp
    have X05 := X4.trans X5
    cases fl <;> cases fl' <;> first | exact hfl.elim | skip
    all_goals first
      | exact ⟨.next, ρ5, mo5, val5, fp5, trivial, S5, X05, hq⟩
      | exact ⟨.ret _ _, ρ5, mo5, val5, fp5, hfl, S5, X05, hq⟩
      | skip
    all_goals (
      have keep45 : ∀ b o, ¬ c.X b → ¬ Pv f b → ¬ mo' b → s4.heap.get? b = some o → s5.heap.get? b = some o := fun b o h1 h2 h3' e => X5.kp b o h1 h2 (fun q => h3' (mo4' b q)) e
      refine ⟨ds.length + 1 - (j + 1), by omega, j + 1, ρ5, mo5, val5, fp5, by omega, rfl, hq, hle5, S5, X05, ?_, ?_, ?_, ?_, ?_, ?_⟩
      · exact T.walks.frame _ _ _ hSx4 fun b hb o e => keep45 b o (T.nX b hb) (T.npv b hb) (hnm b hb) e
      · exact fun b hb => let ⟨o, e⟩ := Fp4 b hb; ⟨o, keep45 b o (T.nX b hb) (T.npv b hb) (hnm b hb) e⟩
      · intro b hb h
        rcases X5.mo b h with q | q
        · exact hnm b hb (mo4' b q)
        · obtain ⟨o, e⟩ := Fp4 b hb; rw [q] at e; cases e
      · intro a ha h
        rcases X5.mo a h with q | q
        · exact hasm a ha (mo4' a q)
        · rcases X05.mo a h with q' | q'
          · exact asmo a ha q'
          · obtain ⟨o, g1, g2⟩ := T.asIn a ha
            have g3 := hkeep a ha o g1 g2
            have g4 := asW a o g1 g2 g3
            have hnl : a ≠ f.env.locals := fun q => T.ok.1 (q ▸ ha)
            have g5 := hk4 a o (pv_ld S2 g1 g2 hnl) g4
            rw [q] at g5; cases g5
      · intro a ha o e hl
        have g3 := hkeep a ha o e hl
        have g4 := asW a o e hl g3
        have hnl : a ≠ f.env.locals := fun q => T.ok.1 (q ▸ ha)
        have hnp := pv_ld S2 e hl hnl
        have hnX : ¬ c.X a := not_tab S2.wf e (by rcases hl with ⟨q, _⟩ | ⟨q, _⟩ <;> rw [q] <;> nofun)
        exact keep45 a o hnX hnp (hasm a ha) (hk4 a o hnp g4)
      · intro a o e hc hd'
        have g4 := tupW a o e hc hd'
        have hnp : ¬ Pv f a := fun hp => by
          obtain ⟨o2, h2, h3'⟩ := pv_obj S3 hp
          rw [show ({ s' with heap := h3, toks := tk } : Shared).heap.get? a = some o from g4] at h2; cases h2
          obtain ⟨_, _, hd'⟩ := hd'
          rcases h3' with ⟨_, _, h⟩ | ⟨_, h⟩ <;> rw [hd'] at h <;> cases h
        have g5 := hk4 a o hnp g4
        exact X5.tuple S4 g5 hc hd')
  · have hj' : j = ds.length := by omega
    subst hj'
    refine doneT T.walks s' _ _ hSx fun h3 tk htk hk3 => ?_
    refine wpAny_execs_nil ?_
    have wrF := T.fld _ s'.heap hSx
    exact ⟨.next, ρ', mo', val', fp', trivial, S'.soft hk3 wrF wrH0 wrHB wrX htk, ⟨fun b o h1 h2 h3' e => hk3 b o (fun q => by rw [T.new b q] at e; cases e) (X'.kp b o h1 h2 h3' e),
      fun b o e => let ⟨o1, e1⟩ := X'.th b o e; ⟨o1, hk3 b o1 (fun q => by rw [T.new b q] at e; cases e) e1⟩, X'.mo⟩, hend ρ' hJ⟩

theorem ex_while {t : Expr} (J : Nat → Rho → Prop) {n : Nat} (h0 : J n ρ)
    (hb : ∀ n ρ', J n ρ' → ∃ q, Tst c f ρ' t q ∧ (q = true → Ex c f body ρ' (loopQ (fun ρ'' => ∃ m, m < n ∧ J m ρ'') Q)) ∧ (q = false → Q .next ρ')) : Ex1 c f (.While t body [] pos) ρ Q := fun mo val fp s S => by
  refine wpAny_While ?_
  refine codeAny_whileLoop (fun n s' => ∃ ρ' mo' val' fp', J n ρ' ∧ St c f ρ' mo' val' fp' s' ∧ Step c f mo s mo' s') ?_ n ⟨ρ, mo, val, fp, h0, S, Step.refl⟩
  rintro n s' ⟨ρ', mo', val', fp', hJ, S', X'⟩
  obtain ⟨q, ht, h1, h2⟩ := hb n ρ' hJ
  refine ht.bind S' fun s1 x1 S1 => ?_
  cases q with
  | true =>
    refine wpAny_mono (h1 rfl _ _ _ s1 S1) (fun fl s5 hp => ?_) fun _ _ z => z.elim
    obtain ⟨fl', ρ5, mo5, val5, fp5, hfl, S5, X5, hq⟩ := hp
    have X05 := (X'.trans (Step.ext x1)).trans X5
    cases fl <;> cases fl' <;> first | exact hfl.elim | skip
    · obtain ⟨m, h3, h4⟩ := hq; exact ⟨m, h3, ρ5, mo5, val5, fp5, h4, S5, X05⟩
    · exact ⟨.next, ρ5, mo5, val5, fp5, trivial, S5, X05, hq⟩
    · obtain ⟨m, h3, h4⟩ := hq; exact ⟨m, h3, ρ5, mo5, val5, fp5, h4, S5, X05⟩
    · exact ⟨.ret _ _, ρ5, mo5, val5, fp5, hfl, S5, X05, hq⟩
  | false => exact wpAny_execs_nil ⟨.next, ρ', mo', val', fp', trivial, S1, X'.trans (Step.ext x1), h2 rfl⟩

/-! what may be walked -/
theorem it_list {e : Expr} {ds : List PyData} {k : EK} (h : Ev c f ρ e (.list ds) k) : It c f ρ e ds k.sub := fun mo val fp s E S => by
  refine h.bind S fun v s1 as x1 S1 r1 ko => ?_
  cases r1 with
  | list g1 g2 g3 g4 =>
    rename_i a o vs n bs
    refine wpAny_pyIter_list ⟨_, g1, g2, _, g3⟩ ?_
    have x2 : Ext c s1 { s1 with heap := s1.heap.push { cls := .type "list_iterator", data := .fields #[.ref a, .int 0 0] } } := Ext.push S1.wf _ _
    have hne : a ≠ s1.heap.objs.size := Nat.ne_of_lt (Heap.lt_size g1)
    have hnL : a ≠ f.env.locals := fun q => ko.1 (q ▸ List.mem_cons_self ..)
    have hlen := readsAll_length g4
    have hIn := get_size_none s1.heap
    have g4' := x2.readsAll S1.wf g4
    have hsz : vs.size = ds.length := by simpa using hlen
    refine ⟨x1.trans x2, s1.heap.objs.size, [s1.heap.objs.size, a], [s1.heap.objs.size], _, _, a :: bs, rfl, ⟨hsz ▸ Walks.list S.ok.room.hand s1.heap.objs.size a hne vs,
      ⟨⟨_, Heap.get?_push_size _ rfl, rfl, rfl⟩, ⟨_, x2.up.kp a _ (not_tab S1.wf g1 (by rw [g2]; nofun)) g1, g2, _, g3⟩⟩, fun b hb => ?_, fun b hb => ?_, fun b hb => ?_, fun hs b hb => ?_, fun i h st b hb => ?_, fun b hb => ?_, fun j v d hP hd => ?_, ?_, fun b hb => ?_⟩⟩
    · rcases List.mem_cons.mp hb with rfl | hb
      · exact ⟨_, Heap.get?_push_size _ rfl⟩
      · rw [List.mem_singleton.mp hb]; exact ⟨_, Heap.get?_push_of_some _ g1⟩
    · rcases List.mem_cons.mp hb with rfl | hb
      · intro hp
        obtain ⟨o2, h2, _⟩ := pv_obj S1 hp
        rw [hIn] at h2; cases h2
      · rw [List.mem_singleton.mp hb]; exact pv_ld S1 g1 (.inl ⟨g2, _, _, g3⟩) hnL
    · rcases List.mem_cons.mp hb with rfl | hb
      · intro hx
        obtain ⟨ps, q⟩ := S1.wf.tab _ hx
        rw [hIn] at q; cases q
      · rw [List.mem_singleton.mp hb]; exact not_tab S1.wf g1 (by rw [g2]; nofun)
    · rcases List.mem_cons.mp hb with rfl | hb
      · intro hm
        obtain ⟨o2, h2, _⟩ := S1.moIn _ hm
        rw [hIn] at h2; cases h2
      · rw [List.mem_singleton.mp hb]
        cases k <;> first | (cases hs; done) | skip
        · exact ko.2 a (List.mem_cons_self ..)
        · exact (ko.2 a (List.mem_cons_self ..)).1
        · exact ((KOk.fr_lo S ko).2 a (List.mem_cons_self ..)).1
    · rw [List.mem_singleton.mp hb]
      obtain ⟨o2, h2, _, h3⟩ := st.1
      exact ⟨o2, _, h2, h3⟩
    · rw [List.mem_singleton.mp hb]; exact x1.up.none hIn
    · obtain ⟨v', cs, q1, q2, q3⟩ := readsAll_item g4' hd
      have : v' = v := by
        have h1 : vs.toList[j]? = some v := by simpa using hP
        rw [q1] at h1; exact Option.some.inj h1
      subst this
      exact ⟨cs, q3.trans (List.sublist_cons_self ..), q2⟩
    · exact KOk.sub (ko.later S1.wf x2) (List.Sublist.refl _)
    · rcases List.mem_cons.mp hb with rfl | hb
      · exact ⟨_, Heap.get?_push_of_some _ g1, .inl ⟨g2, _, _, g3⟩⟩
      · exact readsAll_objs g4' b hb

/-- the builtin stands under its name -/
structure Bi (c : Cx) (x : Str) (v : Value) : Prop where
  no : c.mg x = none
  is : bootBuiltins x = some v
  ne : x ≠ "__name__"
theorem builtin_name {x : Str} {v : Value} {pos : Pos} {Q : Value → Shared → Prop} (C : CxOk c) (B : Bi c x v) (hx : f.env.kindOf x = some .globalImplicit) (S : St c f ρ mo val fp s) (h : Q v s)
    (hd : (x == ("__debug__" : Str)) = false := by decide +kernel) : wpAny c.M f.A (eval (.Name x pos) f.env) Q E s :=
  Name_function_global S.ok.kind hx (loadGlobal_builtin (mg := c.mg) (mb := c.mb) (by rw [S.ok.glob]; exact Ns.base S.wf C.g C.gX) B.no (by rw [S.ok.bi]; exact Ns.base S.wf C.b C.bX) ((C.builtins x B.ne).trans B.is) h) hd

noncomputable def intsL (a : Int) (n : Nat) : List PyData := (List.range n).map fun (i : Nat) => PyData.int (a + (i : Int))
theorem intsL_get {a : Int} {n i : Nat} {d : PyData} (h : (intsL a n)[i]? = some d) : i < n ∧ d = .int (a + i) := by
  unfold intsL at h
  rw [List.getElem?_map] at h
  rcases Nat.lt_or_ge i n with q | q
  · rw [List.getElem?_range q] at h; simp at h; exact ⟨q, h.symm⟩
  · rw [List.getElem?_eq_none (by simpa using q)] at h; simp at h
theorem intsL_length (a : Int) (n : Nat) : (intsL a n).length = n := by simp [intsL]
theorem intsL_flat {a : Int} {n : Nat} : ∀ d ∈ intsL a n, flat d = true := fun d hd => by
  unfold intsL at hd
  obtain ⟨i, _, rfl⟩ := List.mem_map.mp hd
  rfl

theorem itr_range {s1 : Shared} {a : Int} {n : Nat} {o : Obj} {tk : Nat} (S : St c f ρ mo val fp s) (x1 : Ext c s s1) (S1 : St c f ρ mo val fp s1) (htk : s1.toks ≤ tk := by first | exact Nat.le_refl _ | exact Nat.le_succ _ | assumption | omega | (simp only; omega))
    : let s2 : Shared := { s1 with heap := (s1.heap.push o).push { cls := .type "range_iterator", data := .fields #[rawInt a, rawInt n, rawInt 1] }, toks := tk }
      Ext c s s2 ∧ ∃ I Fp wr P Sx as, (Value.ref (s1.heap.push o).objs.size) = .ref I ∧ Itr c f mo fp s s2 (intsL a n) .fr I Fp wr P Sx as := by
  intro s2
  have xs : Ext c s1 s2 := Ext.of S1.wf (fun _ _ e => Heap.get?_push_of_some _ (Heap.get?_push_of_some _ e)) rfl rfl htk
  have x2 : Ext c s s2 := x1.trans xs
  have hIn : s1.heap.get? (s1.heap.push o).objs.size = none := by
    cases e : s1.heap.get? (s1.heap.push o).objs.size with
    | none => rfl
    | some o' => have := Heap.lt_size e; rw [Heap.size_push] at this; exact absurd this (Nat.not_lt.mpr (Nat.le_succ _))
  refine ⟨x2, (s1.heap.push o).objs.size, [(s1.heap.push o).objs.size], [(s1.heap.push o).objs.size], _, _, [], rfl, ⟨by rw [intsL_length]; exact Walks.range S.ok.room.hand _ a 1 n, ?_, fun b hb => ?_, fun b hb => ?_, fun b hb => ?_, fun hs b hb => ?_, fun i h st b hb => ?_, fun b hb => ?_, fun j v d hP hd => ?_, ?_, nofun⟩⟩
  · have e1 : (a + ((0 : Nat) : Int) * 1) = a := by simp
    have e2 : ((n : Int) - ((0 : Nat) : Int)) = n := by simp
    rw [e1, e2]
    exact Heap.get?_push_size _ rfl
  · rw [List.mem_singleton.mp hb]; exact ⟨_, Heap.get?_push_size _ rfl⟩
  · rw [List.mem_singleton.mp hb]; intro hp
    obtain ⟨o2, h2, _⟩ := pv_obj S1 hp
    rw [hIn] at h2; cases h2
  · rw [List.mem_singleton.mp hb]; intro hx
    obtain ⟨ps, q⟩ := S1.wf.tab _ hx
    rw [hIn] at q; cases q
  · rw [List.mem_singleton.mp hb]; intro hm
    obtain ⟨o2, h2, _⟩ := S1.moIn _ hm
    rw [hIn] at h2; cases h2
  · rw [List.mem_singleton.mp hb]; exact ⟨_, _, st, rfl⟩
  · rw [List.mem_singleton.mp hb]; exact x1.up.none hIn
  · obtain ⟨h1, rfl⟩ := intsL_get hd
    obtain ⟨t, rfl⟩ := hP
    exact ⟨[], List.Sublist.refl _, by rw [Int.mul_one]; exact .int _ _⟩
  · exact frOk S .nil nofun nofun

theorem it_range1 {e : Expr} {n : Int} {k : EK} {rp : Pos} (C : CxOk c) (B : Bi c "range" (.type "range")) (hx : f.env.kindOf "range" = some .globalImplicit) (h : Ev c f ρ e (.int n) k) (hn : n < 2 ^ 62) (hn' : -(2 ^ 62) ≤ n)
    (he : ∀ env rest, starEach (e :: rest) env = (false, eval e env) :: starEach rest env := by intros; rfl) :
    It c f ρ (.Call (.Name "range" rp) [e] [] pos) (intsL 0 n.toNat) .fr := fun mo val fp s E S => by
  refine Call_ (builtin_name C B hx S ?_)
  refine PySem.callWith_type (by rw [he]; rfl) ?_
  rw [he]
  refine evalArgs_plain (spliced_cons (h.bind S fun v s1 as x1 S1 r1 ko => spliced_nil ?_))
  cases r1
  refine call_range_1 ?_
  refine wpAny_pyIter_range (IsRange.new ..) (small_one (by decide) (by decide) hn' hn) ?_
  have hsz : Builtin.Range.rangeSize 0 n 1 = (n.toNat : Int) := by rw [rangeSize_one]; split <;> omega
  rw [hsz]
  exact itr_range S x1 S1
end
end Mine

namespace Mine
open PySem PySem.Spec PySem.Calls PyProof.Rows

theorem bindL_notin (kindOf : Str → Option NameKind) {x : Str} : ∀ (binds : List (Str × Value)) (m : Str → Option Value), x ∉ binds.map (·.1) → bindL kindOf binds m x = m x
  | [], m, _ => rfl
  | (n, w) :: r, m, h => by
    have h1 : x ≠ n := fun q => h (by simp [q])
    rw [bindL, bindL_notin kindOf r _ fun q => h (by simp at q ⊢; exact .inr q)]
    split <;> simp [h1]
theorem bindL_get (kindOf : Str → Option NameKind) {x : Str} {v : Value} (hk : kindOf x = some .local) : ∀ (binds : List (Str × Value)) (m : Str → Option Value), (binds.map (·.1)).Nodup → (x, v) ∈ binds → bindL kindOf binds m x = some v
  | [], m, _, h => by cases h
  | (n, w) :: r, m, hn, h => by
    rw [List.map_cons, List.nodup_cons] at hn
    rw [bindL]
    rcases List.mem_cons.mp h with q | q
    · cases q
      rw [bindL_notin kindOf r _ hn.1, if_pos hk]; simp
    · exact bindL_get kindOf hk r _ hn.2 q
theorem bindC_notin (kindOf : Str → Option NameKind) {x : Str} : ∀ (binds : List (Str × Value)) (m : Str → Option Value), x ∉ binds.map (·.1) → bindC kindOf binds m x = m x
  | [], m, _ => rfl
  | (n, w) :: r, m, h => by
    have h1 : x ≠ n := fun q => h (by simp [q])
    rw [bindC, bindC_notin kindOf r _ fun q => h (by simp at q ⊢; exact .inr q)]
    split <;> simp [h1]
theorem bindC_get (kindOf : Str → Option NameKind) {x : Str} {v : Value} (hk : kindOf x ≠ some .local) : ∀ (binds : List (Str × Value)) (m : Str → Option Value), (binds.map (·.1)).Nodup → (x, v) ∈ binds → bindC kindOf binds m x = some v
  | [], m, _, h => by cases h
  | (n, w) :: r, m, hn, h => by
    rw [List.map_cons, List.nodup_cons] at hn
    rw [bindC]
    rcases List.mem_cons.mp h with q | q
    · cases q
      rw [bindC_notin kindOf r _ hn.1, if_neg hk]; simp
    · exact bindC_get kindOf hk r _ hn.2 q
theorem cellsFrom_has {x : Str} : ∀ (names : List (Str × NameKind)) (n : Nat) (acc : List (Str × Addr)), names.lookup x = some .cell ∨ (acc.lookup x).isSome = true → ((cellsFrom n names acc).lookup x).isSome = true
  | [], _, _, h => h.elim (fun e => by cases e) id
  | (y, k) :: r, n, acc, h => by
    unfold cellsFrom
    by_cases hk : (k == .cell) = true
    · rw [if_pos hk]
      refine cellsFrom_has r (n + 1) ((y, n) :: acc) ?_
      by_cases hy : (x == y) = true
      · exact .inr (by rw [List.lookup_cons, hy]; rfl)
      · refine h.imp (fun e => ?_) fun e => ?_
        · rw [List.lookup_cons] at e; simpa only [hy] using e
        · rw [List.lookup_cons]; simpa only [hy] using e
    · rw [if_neg hk]
      refine cellsFrom_has r n acc ?_
      by_cases hy : (x == y) = true
      · refine .inr (h.elim (fun e => ?_) id)
        rw [List.lookup_cons, hy] at e
        exact absurd (by rw [Option.some.inj e]; rfl) hk
      · refine h.imp (fun e => ?_) id
        rw [List.lookup_cons] at e; simpa only [hy] using e

theorem readsAll_fps {h : Heap} : ∀ {vs : List Value} {ds : List PyData} {as : List Addr}, ReadsAll L T h vs ds as → ∃ fp : Nat → List Addr, ∀ (i : Nat) (d : PyData), ds[i]? = some d → ∃ v, vs[i]? = some v ∧ Reads L T h v d (fp i)
  | _, _, _, .nil => ⟨fun _ => [], fun i d e => by simp at e⟩
  | _, _, _, .cons (as := as) r rs => by
    obtain ⟨fp, h⟩ := readsAll_fps rs
    refine ⟨fun i => match i with | 0 => as | i + 1 => fp i, fun i d e => ?_⟩
    cases i with
    | zero => simp at e; subst e; exact ⟨_, rfl, r⟩
    | succ i => simpa using h i d (by simpa using e)

noncomputable def RetQ (res : PyData) (u : Bool) : Fl → Rho → Prop
  | .ret d u', _ => d = res ∧ (u = true → u' = true)
  | .next, _ => res = .none
  | _, _ => False

noncomputable def startRho (args : List PyData) (rest : List Str) : Rho := args.map (fun a => some ⟨.sh, a⟩) ++ rest.map fun _ => none
theorem startRho_get {args : List PyData} {rest : List Str} {i : Nat} {sl : Slot} (e : (startRho args rest)[i]? = some (some sl)) : args[i]? = some sl.d ∧ sl.k = .sh := by
  unfold startRho at e
  rw [List.getElem?_append] at e
  split at e
  · rw [List.getElem?_map] at e
    cases h : args[i]? with
    | none => rw [h] at e; cases e
    | some a => rw [h] at e; cases e; exact ⟨rfl, rfl⟩
  · rw [List.getElem?_map] at e
    cases h : rest[i - (args.map fun a => (some ⟨.sh, a⟩ : Option Slot)).length]? with
    | none => rw [h] at e; cases e
    | some a => rw [h] at e; cases e

theorem call_cellsT {prog : Program} {w : World} {A : Around} {R : Result → Shared → Prop} {s : Shared} {name : Str} {params : Arguments} {body : List Stmt} {scope : Scope}
    {pm cd doc : Value} {a : Addr} {o : Obj} {args : List Value} {binds : List (Str × Value)}
    (hroom : A.depth < recursionLimit) (ho : s.heap.get? a = some o) (hdata : o.data = .func (docDef name params body scope pm cd doc)) (hlim : s.heap.NoLimit) (hcd : s.heap.CodeRec cd name)
    (hbind : bindArgs (docDef name params body scope pm cd doc) ⟨args, []⟩ = pure binds)
    (hkind : ∀ x ∈ binds, scope.names.lookup x.1 = some .local ∨ (scope.names.lookup x.1 = some .cell ∧ ((cellsFrom (s.heap.objs.size + 1) scope.names []).lookup x.1).isSome = true))
    (h : ∀ h₁ tk, s.toks ≤ tk → Fr s.heap s.heap.objs.size h₁ (bindL (envOfC name scope s.heap.objs.size a cd).kindOf binds fun _ => none) →
      Cl s.heap.objs.size (cellsFrom (s.heap.objs.size + 1) scope.names []) h₁ (bindC (envOfC name scope s.heap.objs.size a cd).kindOf binds fun _ => none) →
      wpAny (model prog w) (A.deeper (envOfC name scope s.heap.objs.size a cd)) (execs body (envOfC name scope s.heap.objs.size a cd))
        (fun f s' => R (.ok (.ret (match f with | .ret v => v | _ => .none))) s') (fun _ _ => False) { s with heap := h₁, toks := tk })
    (hco : scope.isCoroutine = false) (hgen : scope.isGenerator = false) (hk : scope.kind = .function) :
    codeAny (model prog w) A (.call (.ref a) ⟨args, []⟩) R s := by
  refine codeAny_call_function (fd := docDef name params body scope pm cd doc) hroom ho hdata hco hgen rfl hcd ?_
  rw [hbind]
  refine wpAny_pure (wpAny_with_toks (Nat.le_refl _) (wpAny_newFunctionEnv_cells hk hkind fun env he s' x hle => ?_))
  subst he
  refine ⟨hlim.keeps x.toInCall.keep, codeAny_func ?_⟩
  obtain ⟨h₁, tk, rfl, _⟩ := x.done
  exact wpAny_mono (h h₁ tk hle ⟨x.toInCall.ns, x.toInCall.keep, x.toInCall.fresh⟩ ⟨x.cell, x.apart, x.above⟩) (fun _ _ x => x) (fun _ _ x => x.elim)
theorem fn_enterC {c : Cx} {d : FnD} {args : List PyData} {res : PyData} {u : Bool} {lv : Nat} (ps rest : List Str) (C : CxOk c)
    (hbind : ∀ pm cd doc (vals : List Value), vals.length = args.length → bindArgs (docDef d.name d.params d.body d.scope pm cd doc) ⟨vals, []⟩ = pure (ps.zip vals))
    (hlen : ps.length = args.length) (nd : (ps ++ rest).Nodup)
    (hk : ((ps ++ rest).all fun x => d.scope.names.lookup x == some .local || d.scope.names.lookup x == some .cell) = true)
    (h1 : d.scope.isCoroutine = false) (h2 : d.scope.isGenerator = false) (h3 : d.scope.kind = .function)
    (h : ∀ f : Fm, f.env.scope = d.scope → f.xs = ps ++ rest → f.lv = lv → (∃ fa o pm doc, Has c d fa o pm f.env.code doc) → FmS c f → Ex c f d.body (startRho args rest) (RetQ res u)) : Fn c (lv + 1) d args res u := by
  intro A s vals ass E fa o pm code doc H R W r
  have hvl := readsAll_length r
  have kinds : ∀ x ∈ ps ++ rest, d.scope.names.lookup x = some .local ∨ d.scope.names.lookup x = some .cell := fun x hx => by
    have := List.all_eq_true.mp hk x hx
    simpa using this
  have hmem : ∀ y ∈ ps.zip vals, y.1 ∈ ps := fun y hy => (List.of_mem_zip hy).1
  refine wpAny_call (call_cellsT (by have := R.depth; omega) (W.base _ _ H.nX H.obj) H.data (NoLimit.base W C) (H.codeRec W) (hbind pm code doc vals hvl) (fun x hx => ?_) (fun h₁ tk htk F X => ?_) h1 h2 h3)
  · rcases kinds x.1 (List.mem_append_left _ (hmem x hx)) with q | q
    · exact .inl q
    · exact .inr ⟨q, cellsFrom_has _ _ _ (.inl q)⟩
  · generalize hL : s.heap.objs.size = L at F X ⊢
    have hLn : s.heap.get? L = none := by rw [← hL]; exact get_size_none _
    obtain ⟨fp, hfp⟩ := readsAll_fps r
    let f : Fm := ⟨envOfC d.name d.scope L fa code, A.deeper (envOfC d.name d.scope L fa code), s.heap, ps ++ rest, lv⟩
    have hUB : Up c.X c.hB s.heap := ⟨W.base, fun b o e => W.old.there b o e⟩
    have x1 : Ext c s { s with heap := h₁, toks := tk } := Ext.of W F.keep rfl rfl htk
    have zipNd : ((ps.zip vals).map (·.1)).Nodup := by
      rw [List.map_fst_zip (by omega)]
      exact (List.nodup_append.mp nd).1
    have FS : FmS c f := by
      refine ⟨fun i x hx => ?_, nd, fun x y a hx hy => name_of_addr X.apart (mem_of_lookup hx) (mem_of_lookup hy), fun a hp => ?_, hUB⟩
      · rcases kinds x (List.mem_of_getElem? hx) with q | q
        · exact .inl q
        · exact .inr ⟨q, Option.isSome_iff_exists.mp (cellsFrom_has _ _ _ (.inl q))⟩
      · rcases hp with rfl | ⟨x, hx⟩
        · exact hLn
        · have := X.above x a (mem_of_lookup hx)
          cases e : s.heap.get? a with
          | none => rfl
          | some o' => exact absurd (Heap.lt_size e) (Nat.not_lt.mpr (by rw [hL]; exact Nat.le_of_lt this))
    have S : St c f (startRho args rest) (fun _ => False) (fun i => vals.getD i .none) fp { s with heap := h₁, toks := tk } := by
      refine ⟨x1.wf, ⟨h3, rfl, rfl, ⟨R.hand, ?_, ?_, ?_⟩, hUB⟩, Up.of F.keep, ⟨_, F.ns⟩, fun x a e => ⟨_, X.cell x a e⟩, fun i sl e => ?_, fun i sl e q => ?_, fun _ _ _ _ _ _ q => q, fun i sl e q => ?_, fun i j sl sl' _ e _ q => ?_, fun _ q => q.elim, fun _ q => q.elim, fun q => q, fun i sl e q => ?_⟩
      · have := R.depth; show A.depth + 1 + 10 * lv + 10 < _; omega
      · have := R.units; show A.units + 3 + 100 * lv + 200 < _; omega
      · exact R.guards
      · obtain ⟨e1, e2⟩ := startRho_get e
        obtain ⟨v, e3, e4⟩ := hfp i sl.d e1
        have hil : i < args.length := (List.getElem?_eq_some_iff.mp e1).1
        obtain ⟨x, hx⟩ : ∃ x, ps[i]? = some x := ⟨_, List.getElem?_eq_getElem (by omega)⟩
        have hvi : vals.getD i .none = v := by rw [List.getD_eq_getElem?_getD, e3]; rfl
        have hmz : (x, v) ∈ ps.zip vals := by
          refine List.mem_of_getElem? (i := i) ?_
          rw [List.getElem?_zip_eq_some]; exact ⟨hx, e3⟩
        have hxm : x ∈ ps ++ rest := List.mem_append_left _ (List.mem_of_getElem? hx)
        refine ⟨x, by show (ps ++ rest)[i]? = some x; rw [List.getElem?_append_left (by omega)]; exact hx, ?_, by show Reads c.lo tk h₁ (vals.getD i .none) sl.d (fp i); rw [hvi]; exact x1.reads W e4⟩
        show Loads f.env h₁ x (vals.getD i .none)
        rw [hvi]
        rcases kinds x hxm with q | q
        · exact .inl ⟨q, _, F.ns, bindL_get _ q _ _ zipNd hmz⟩
        · obtain ⟨a, ha⟩ := Option.isSome_iff_exists.mp (cellsFrom_has (x := x) d.scope.names (L + 1) [] (.inl q))
          refine .inr ⟨.inl q, a, ha, ?_⟩
          have := X.cell x a ha
          rwa [bindC_get _ (by show d.scope.names.lookup x ≠ _; rw [q]; nofun) _ _ zipNd hmz] at this
      · rw [(startRho_get e).2] at q; cases q
      · rw [(startRho_get e).2] at q; cases q
      · rw [(startRho_get e).2] at q; cases q
      · obtain ⟨e1, _⟩ := startRho_get e
        obtain ⟨v, _, e4⟩ := hfp i sl.d e1
        obtain ⟨o', ho', _⟩ := reads_objs e4 _ q
        have : s.heap.get? L = some o' := ho'
        rw [hLn] at this; cases this
    refine wpAny_mono (wpAny_toks_of (n := s.toks) htk (h f rfl rfl rfl ⟨fa, o, pm, doc, H⟩ FS _ _ _ _ S)) (fun fl s' hp => ?_) fun _ _ z => z.2
    obtain ⟨hle, fl', ρ', mo', val', fp', hfl, S', X', hq⟩ := hp
    have x2 : Ext c s s' := ⟨hle, S'.keep, S'.wf⟩
    cases fl <;> cases fl' <;> first | exact hfl.elim | exact hq.elim | skip
    · have : res = .none := hq
      subst this
      exact ⟨x2, [], .none, nofun, fun _ => ⟨.nil, nofun⟩⟩
    · obtain ⟨as, r1, n1, u1⟩ := hfl
      obtain ⟨e1, e2⟩ := hq
      exact ⟨x2, as, e1 ▸ r1, n1, fun q => u1 (e2 q)⟩
theorem fn_enter {c : Cx} {d : FnD} {args : List PyData} {res : PyData} {u : Bool} {lv : Nat} (ps rest : List Str) (C : CxOk c)
    (hbind : ∀ pm cd doc (vals : List Value), vals.length = args.length → bindArgs (docDef d.name d.params d.body d.scope pm cd doc) ⟨vals, []⟩ = pure (ps.zip vals))
    (hlen : ps.length = args.length) (nd : (ps ++ rest).Nodup)
    (hk : ((ps ++ rest).all fun x => d.scope.names.lookup x == some .local || d.scope.names.lookup x == some .cell) = true)
    (h1 : d.scope.isCoroutine = false) (h2 : d.scope.isGenerator = false) (h3 : d.scope.kind = .function)
    (h : ∀ f : Fm, f.env.scope = d.scope → f.xs = ps ++ rest → f.lv = lv → FmS c f → Ex c f d.body (startRho args rest) (RetQ res u)) : Fn c (lv + 1) d args res u :=
  fn_enterC ps rest C hbind hlen nd hk h1 h2 h3 fun f a b e _ => h f a b e
end Mine

namespace Mine
open PySem PySem.Spec PySem.Calls PyProof.Rows

noncomputable def VRes (c : Cx) (s : Shared) (res : PyData) (v : Value) (s' : Shared) : Prop := Ext c s s' ∧ ∃ as, Reads c.lo s'.toks s'.heap v res as ∧ as.Nodup ∧ (∀ a ∈ as, s.heap.get? a = none) ∧ ∀ a ∈ as, Pl s'.heap a
/-- what a call of a value gives: a datum of new objects -/
noncomputable def VC (c : Cx) (n : Nat) (fv : Value) (args : List PyData) (res : PyData) : Prop :=
  ∀ A s vals ass E, Room n A → Wf c s → ReadsAll c.lo s.toks s.heap vals args ass →
    wpAny c.M A (call fv vals) (VRes c s res) E s

section
variable {c : Cx} {f : Fm} {ρ : Rho} {mo : Addr → Prop} {val : Nat → Value} {fp : Nat → List Addr} {s : Shared} {E : Value → Shared → Prop}
  {e e1 e2 : Expr} {d d1 d2 : PyData} {k k1 k2 : EK} {pos np : Pos} {x : Str}

theorem ev_vcall1 {fv : Value} (hv : (∃ id, fv = .builtin id) ∨ ∃ T, fv = .type T) (C : CxOk c) (B : Bi c x fv) (hx : f.env.kindOf x = some .globalImplicit) (h1 : Ev c f ρ e d1 k1) (h : VC c f.lv fv [d1] d)
    (he : ∀ env rest, starEach (e :: rest) env = (false, eval e env) :: starEach rest env := by intros; rfl) (hd : (x == ("__debug__" : Str)) = false := by decide +kernel) :
    Ev c f ρ (.Call (.Name x np) [e] [] pos) d .fr := fun mo val fp s E S => by
  refine Call_ (builtin_name C B hx S ?_ hd)
  have fin : wpAny c.M f.A (evalArgs fv true (backTo pos (starEach [e] f.env)) []) (fun a s₁ => wpAny c.M f.A (call fv ([] ++ a.pos) a.kw) (fun v s' => Ext c s s' ∧ ∃ as, Reads c.lo s'.toks s'.heap v d as ∧ KOk f mo fp s.heap s'.heap .fr as) E s₁) E s := by
    rw [he]
    refine evalArgs_plain (spliced_cons (h1.bind S fun v s1 as x1 S1 r1 ko => spliced_nil ?_))
    refine wpAny_mono (h f.A s1 [v] _ E S.ok.room S1.wf (.cons r1 .nil)) (fun v s' ⟨x2, bs, r2, n2, q2, p2⟩ => ⟨x1.trans x2, bs, r2, frOk S n2 (fun a ha => x1.up.none (q2 a ha)) p2⟩) fun _ _ z => z
  rcases hv with ⟨id, rfl⟩ | ⟨T, rfl⟩
  · exact callWith_builtin (by rw [he]; rfl) fin
  · exact PySem.callWith_type (by rw [he]; rfl) fin
end

section
variable {c : Cx} {n : Nat} {a b : Int} {xs : List PyData} {ns : List Int}

theorem vc_len (hfit : xs.length < 2 ^ 63) : VC c n (.builtin "len") [.list xs] (.int xs.length) := fun A s vals ass E R W r => by
  cases r with | cons r1 r2 => cases r2; cases r1 with
  | list g1 g2 g3 g4 =>
    have hl := readsAll_length g4
    rename_i o vs _ _
    have hsz : vs.size = xs.length := by simpa using hl
    refine call_len_list ⟨_, g1, g2, _, g3⟩ (by rw [hsz]; omega) ⟨Ext.toks W _, [], by rw [hsz]; exact .int _ _, .nil, nofun, nofun⟩
theorem vc_abs : VC c n (.builtin "abs") [.int a] (.int (a.natAbs : Int)) := fun A s vals ass E R W r => by
  cases r with | cons r1 r2 => cases r2; cases r1 with
  | int i t => exact wpAny_with_toks (n := s.toks) (Nat.le_refl _) (call_abs_int fun u tk hle => ⟨Ext.toks W _ hle, [], by rw [show (if a < 0 then -a else a) = (a.natAbs : Int) by split <;> omega]; exact .int _ _, .nil, nofun, nofun⟩)

noncomputable def lmin : List Int → Int
  | [] => 0
  | [x] => x
  | x :: y :: r => min x (lmin (y :: r))
noncomputable def lmax : List Int → Int
  | [] => 0
  | [x] => x
  | x :: y :: r => max x (lmax (y :: r))
theorem lmin_le : ∀ {ns : List Int} {x : Int}, x ∈ ns → lmin ns ≤ x
  | [y], x, h => by simp at h; subst h; exact Int.le_refl _
  | y :: z :: r, x, h => by
    rw [lmin]
    rcases List.mem_cons.mp h with rfl | h
    · exact Int.min_le_left _ _
    · exact Int.le_trans (Int.min_le_right _ _) (lmin_le h)
theorem lmin_mem : ∀ {ns : List Int}, ns ≠ [] → lmin ns ∈ ns
  | [y], _ => by simp [lmin]
  | y :: z :: r, _ => by
    rw [lmin]
    rcases Int.le_total y (lmin (z :: r)) with h | h
    · rw [Int.min_eq_left h]; exact List.mem_cons_self ..
    · rw [Int.min_eq_right h]; exact List.mem_cons_of_mem _ (lmin_mem (by simp))
theorem vc_list (hf : flats xs = true) (hsz : xs.length ≤ sizeLine) : VC c n (.type "list") [.list xs] (.list xs) := fun A s vals ass E R W r => by
  cases r with | cons r1 r2 => cases r2; cases r1 with
  | list g1 g2 g3 g4 =>
    rename_i a o vs m bs
    have hl : vs.size = xs.length := by simpa using readsAll_length g4
    refine call_list_seq (T := "list") a (.inl rfl) g1 g2 g3 (fun h' c' hk hD => ?_) (by omega)
    have x1 : Ext c s { s with heap := h' } := Ext.of W hk
    have g4' := x1.readsAll W g4
    have hb := readsAll_flat g4 hf
    subst hb
    refine ⟨x1, [s.heap.objs.size], .list hD rfl rfl g4', by simp, fun b hb => ?_, fun b hb => ?_⟩
    · rw [List.mem_singleton.mp hb]; exact get_size_none _
    · rw [List.mem_singleton.mp hb]; exact ⟨_, hD, .inl ⟨rfl, _, _, rfl⟩, rfl, rfl⟩

end
end Mine

namespace Mine
open PySem PySem.Spec PySem.Calls PyProof.Rows

theorem Pl.isL {h : Heap} {a : Addr} {o : Obj} {vs : Array Value} {n : Nat} (p : Pl h a) (e : h.get? a = some o) (hc : o.cls = .type "list") (hd : o.data = .seq vs n) : IsL h a vs n := by
  obtain ⟨o', e', _, q1, q2⟩ := p
  rw [e] at e'; cases e'
  obtain ⟨cl, di, da, sl⟩ := o
  simp only at hc hd q1 q2
  subst hc hd q1 q2
  exact e
theorem Pl.of_isL {h : Heap} {a : Addr} {vs : Array Value} {n : Nat} (e : IsL h a vs n) : Pl h a := ⟨_, e, .inl ⟨rfl, _, _, rfl⟩, rfl, rfl⟩

section
variable {c : Cx} {f : Fm} {ρ : Rho} {mo : Addr → Prop} {val : Nat → Value} {fp : Nat → List Addr} {s : Shared} {E : Value → Shared → Prop}

/-- a change at an object that a variable owns -/
theorem St.mut {i : Nat} {d d' : PyData} {b : Addr} {h' : Heap} {tk : Nat} {as' extra : List Addr} (FS : FmS c f) (S : St c f ρ mo val fp s) (e : ρ[i]? = some (some ⟨.ow, d⟩)) (hb : b ∈ fp i)
    (hs : Heap.SameBut b s.heap h') (hpl : Pl h' b) (r : Reads c.lo tk h' (val i) d' as') (nd : as'.Nodup) (hin : ∀ a ∈ as', a ∈ fp i ∨ a ∈ extra)
    (ex1 : ∀ a ∈ extra, ¬ mo a ∧ f.h₀.get? a = none ∧ Pl s.heap a) (ex2 : ∀ j sl, j ≠ i → ρ[j]? = some (some sl) → ∀ a ∈ fp j, a ∉ extra) (ex3 : f.env.locals ∉ extra) (ht : s.toks ≤ tk := by first | exact Nat.le_refl _ | exact Nat.le_succ _ | assumption | omega | (simp only; omega)) :
    St c f (ρ.set i (some ⟨.ow, d'⟩)) (fun a => mo a ∨ a ∈ extra) val (upd fp i as') { s with heap := h', toks := tk } ∧
      (∀ x o, ¬ mo x → s.heap.get? x = some o → h'.get? x = some o) ∧ (∀ x o, s.heap.get? x = some o → ∃ o', h'.get? x = some o') := by
  have hmo : mo b := (S.own i _ e rfl).2 b hb
  have hi : i < ρ.length := (List.getElem?_eq_some_iff.mp e).1
  obtain ⟨ob, hob, hlb, _⟩ := S.moPl b hmo
  have hbL : b ≠ f.env.locals := fun q => S.fpL i _ e (q ▸ hb)
  have hnp : ¬ Pv f b := pv_ld S hob hlb hbL
  have hX : ¬ c.X b := not_tab S.wf hob (by rcases hlb with ⟨q, _⟩ | ⟨q, _⟩ <;> rw [q] <;> nofun)
  have h0b := S.moNew b hmo
  have hBb := FS.base.none h0b
  have keep : ∀ x o, x ≠ b → s.heap.get? x = some o → h'.get? x = some o := fun x o hx q => (hs.2 x hx).trans q
  have hpv : ∀ x, Pv f x → x ≠ b := fun x hx q => hnp (q ▸ hx)
  have notTup : ∀ a o, s.heap.get? a = some o → o.cls = .type "tuple" → a ≠ b := fun a o q hc hab => by
    subst hab; rw [hob] at q; cases q
    rcases hlb with ⟨h, _⟩ | ⟨h, _⟩ <;> rw [hc] at h <;> simp at h
  have slot : ∀ j t, (ρ.set i (some ⟨.ow, d'⟩))[j]? = some (some t) → (j = i ∧ t = ⟨.ow, d'⟩) ∨ (j ≠ i ∧ ρ[j]? = some (some t)) := fun j t e => by
    rw [List.getElem?_set] at e
    by_cases q : i = j
    · rw [if_pos q, if_pos hi] at e; cases e; exact .inl ⟨q.symm, rfl⟩
    · rw [if_neg q] at e; exact .inr ⟨fun h => q h.symm, e⟩
  have other : ∀ j t, j ≠ i → ρ[j]? = some (some t) → b ∉ fp j := fun j t hj ej hm => by
    by_cases ho : t.k = .ow
    · exact S.apart i j _ t (fun q => hj q.symm) e ej rfl ho b hb hm
    · exact S.shr j t ej ho b hm hmo
  have nsK : ∀ {a m}, a ≠ b → s.heap.Ns a m → h'.Ns a m := fun ha ⟨o, es, ep, ho, q⟩ => ⟨o, es, ep, keep _ o ha ho, q⟩
  have cellNe : ∀ {a v}, s.heap.IsCell a v → a ≠ b := fun ⟨o, ho, hd⟩ q => by
    subst q; rw [hob] at ho; cases ho
    rcases hlb with ⟨_, _, _, h⟩ | ⟨_, _, _, h⟩ <;> rw [hd] at h <;> cases h
  have th : ∀ x o, s.heap.get? x = some o → ∃ o', h'.get? x = some o' := fun x o q => by
    by_cases hx : x = b
    · subst hx; obtain ⟨o', q', _⟩ := hpl; exact ⟨o', q'⟩
    · exact ⟨o, keep x o hx q⟩
  have plK : ∀ a, Pl s.heap a → Pl h' a := fun a ⟨o, q, r⟩ => by
    by_cases ha : a = b
    · subst ha; exact hpl
    · exact ⟨o, keep a o ha q, r⟩
  refine ⟨⟨S.wf.sameBut hs hBb hX ht, S.ok, ⟨fun x o hx q => keep x o (fun h => by rw [h, h0b] at q; cases q) (S.keep.kp x o hx q), fun x o q => let ⟨o', q'⟩ := S.keep.th x o q; th x o' q'⟩,
    let ⟨m, n⟩ := S.ns; ⟨m, nsK (fun q => hbL q.symm) n⟩, fun x a q => ?_, fun j t ej => ?_, fun j t ej ho => ?_, fun j t ej ho => ?_, fun j t ej hl => ?_, fun j j' t t' hne ej ej' ho ho' => ?_, fun a h => ?_, fun a h => ?_, ?_, fun j t ej => ?_⟩, fun x o hx q => keep x o (fun h => hx (h ▸ hmo)) q, th⟩
  · obtain ⟨v, n⟩ := S.cells x a q
    have hne := cellNe n
    obtain ⟨o, ho, hd⟩ := n
    exact ⟨v, o, keep a o hne ho, hd⟩
  · have ld : ∀ {y u}, Loads f.env s.heap y u → Loads f.env h' y u := fun l => by
      rcases l with ⟨g1, m, g2, g3⟩ | ⟨g1, a, g2, g3⟩
      · exact .inl ⟨g1, m, nsK (fun q => hbL q.symm) g2, g3⟩
      · have hne := cellNe g3
        obtain ⟨o, ho, hd⟩ := g3
        exact .inr ⟨g1, a, g2, o, keep a o hne ho, hd⟩
    rcases slot j t ej with ⟨rfl, rfl⟩ | ⟨hj, ej⟩
    · obtain ⟨y, h1, h2, _⟩ := S.var j _ e
      exact ⟨y, h1, ld h2, by rw [upd_self]; exact r⟩
    · obtain ⟨y, h1, h2, h3⟩ := S.var j t ej
      refine ⟨y, h1, ld h2, by
        rw [upd_ne _ _ _ hj]
        exact reads_upon h3 (fun a ha o q _ => keep a o (fun h => other j t hj ej (h ▸ ha)) q) (fun a o q hc _ => keep a o (notTup a o q hc) q)⟩
  · rcases slot j t ej with ⟨rfl, rfl⟩ | ⟨hj, ej⟩
    · rw [upd_self]; exact ⟨nd, fun a ha => (hin a ha).imp ((S.own j _ e rfl).2 a) id⟩
    · rw [upd_ne _ _ _ hj]; exact ⟨(S.own j t ej ho).1, fun a ha => .inl ((S.own j t ej ho).2 a ha)⟩
  · rcases slot j t ej with ⟨rfl, rfl⟩ | ⟨hj, ej⟩
    · exact absurd rfl ho
    · rw [upd_ne _ _ _ hj]; exact fun a ha h => h.elim (S.shr j t ej ho a ha) (ex2 j t hj ej a ha)
  · rcases slot j t ej with ⟨rfl, rfl⟩ | ⟨hj, ej⟩
    · cases hl
    · rw [upd_ne _ _ _ hj]; exact S.loc j t ej hl
  · rcases slot j t ej with ⟨rfl, rfl⟩ | ⟨hj, e1⟩ <;> rcases slot j' t' ej' with ⟨rfl, rfl⟩ | ⟨hj', e1'⟩
    · exact absurd rfl hne
    · rw [upd_self, upd_ne _ _ _ hj']
      exact fun a ha h => (hin a ha).elim (fun q => S.apart j j' _ t' hne e e1' rfl ho' a q h) (ex2 j' t' hj' e1' a h)
    · rw [upd_self, upd_ne _ _ _ hj]
      exact fun a ha h => (hin a h).elim (fun q => S.apart j j' t _ hne e1 e ho rfl a ha q) (ex2 j t hj e1 a ha)
    · rw [upd_ne _ _ _ hj, upd_ne _ _ _ hj']; exact S.apart j j' t t' hne e1 e1' ho ho'
  · exact h.elim (S.moNew a) fun q => (ex1 a q).2.1
  · exact plK a (h.elim (S.moPl a) fun q => (ex1 a q).2.2)
  · exact fun h => h.elim S.moL ex3
  · rcases slot j t ej with ⟨rfl, rfl⟩ | ⟨hj, ej⟩
    · rw [upd_self]; exact fun h => (hin _ h).elim (S.fpL j _ e) ex3
    · rw [upd_ne _ _ _ hj]; exact S.fpL j t ej

theorem reads_but {h h' : Heap} {a : Addr} {v : Value} {d : PyData} {as : List Addr} (hs : Heap.SameBut a h h') (ha : ∀ o, h.get? a = some o → o.cls ≠ .type "tuple") (hn : a ∉ as) (r : Reads L T h v d as) (hT : T ≤ T' := by first | exact Nat.le_refl _ | exact Nat.le_succ _ | assumption | omega | (simp only; omega)) : Reads L T' h' v d as :=
  reads_upon r (fun b hb o q _ => (hs.2 b fun h => hn (h ▸ hb)).trans q) (fun b o q hc _ => (hs.2 b fun h => ha o (h ▸ q) hc).trans q)
theorem readsAll_but {h h' : Heap} {a : Addr} {v : List Value} {d : List PyData} {as : List Addr} (hs : Heap.SameBut a h h') (ha : ∀ o, h.get? a = some o → o.cls ≠ .type "tuple") (hn : a ∉ as) (r : ReadsAll L T h v d as) (hT : T ≤ T' := by first | exact Nat.le_refl _ | exact Nat.le_succ _ | assumption | omega | (simp only; omega)) : ReadsAll L T' h' v d as :=
  readsAll_upon r (fun b hb o q _ => (hs.2 b fun h => hn (h ▸ hb)).trans q) (fun b o q hc _ => (hs.2 b fun h => ha o (h ▸ q) hc).trans q)
theorem isL_notTup {h : Heap} {a : Addr} {vs : Array Value} {n : Nat} (l : IsL h a vs n) : ∀ o, h.get? a = some o → o.cls ≠ .type "tuple" := fun o q hc => by
  rw [l] at q; cases q; simp at hc
theorem readsAll_snoc {h : Heap} : ∀ {vs : List Value} {ds : List PyData} {as : List Addr} {v : Value} {d : PyData} {bs : List Addr}, ReadsAll L T h vs ds as → Reads L T h v d bs → ReadsAll L T h (vs ++ [v]) (ds ++ [d]) (as ++ bs)
  | _, _, _, _, _, bs, .nil, r => by simpa using ReadsAll.cons r .nil
  | _, _, _, _, _, bs, .cons (as := as1) (bs := as2) h1 h2, r => by
    have := ReadsAll.cons h1 (readsAll_snoc h2 r)
    simpa using this
theorem readsAll_set {h : Heap} : ∀ {vs : List Value} {ds : List PyData} {as : List Addr} {i : Nat} {v : Value} {d d0 : PyData}, ReadsAll L T h vs ds as → ds[i]? = some d0 → flat d0 = true → Reads L T h v d [] → ReadsAll L T h (vs.set i v) (ds.set i d) as
  | _, _, _, i, v, d, d0, .nil, e, _, _ => by simp at e
  | _, _, _, 0, v, d, d0, .cons h1 h2, e, hf, r => by
    simp at e; subst e
    rw [reads_flat h1 hf]
    exact .cons r h2
  | _, _, _, i + 1, v, d, d0, .cons h1 h2, e, hf, r => by
    exact .cons h1 (readsAll_set h2 (by simpa using e) hf r)
theorem readsAll_mem {h : Heap} : ∀ {vs : List Value} {ds : List PyData} {as : List Addr} {i : Nat} {b : Addr} {cs : List PyData}, ReadsAll L T h vs ds as → vs[i]? = some (.ref b) → ds[i]? = some (.list cs) → b ∈ as
  | _, _, _, i, b, cs, .nil, e, _ => by simp at e
  | _, _, _, 0, b, cs, .cons h1 h2, e, e' => by
    simp at e e'; subst e e'
    cases h1; simp
  | _, _, _, i + 1, b, cs, .cons h1 h2, e, e' => List.mem_append_right _ (readsAll_mem h2 (by simpa using e) (by simpa using e'))
theorem readsAll_row {h h' : Heap} {b : Addr} {cells cells' : List PyData} (hf : flats cells = true) (hs : ∀ x, x ≠ b → h'.get? x = h.get? x) (hb : ∀ o, h.get? b = some o → o.cls ≠ .type "tuple") (new : Reads L T h' (.ref b) (.list cells') [b]) :
    ∀ {vs : List Value} {ds : List PyData} {as : List Addr} {i : Nat}, ReadsAll L T h vs ds as → as.Nodup → vs[i]? = some (.ref b) → ds[i]? = some (.list cells) → ReadsAll L T h' vs (ds.set i (.list cells')) as
  | _, _, _, i, .nil, _, e, _ => by simp at e
  | _, _, _, 0, .cons (as := as1) (bs := as2) h1 h2, nd, e, e' => by
    simp at e e'; subst e e'
    cases h1 with
    | list g1 g2 g3 g4 =>
      rw [readsAll_flat g4 hf] at nd ⊢
      have hb2 : b ∉ as2 := fun q => by simp at nd; exact nd.1 q
      exact .cons new (readsAll_upon h2 (fun a ha o q _ => (hs a (fun h => hb2 (h ▸ ha))).trans q) (fun a o q hc _ => (hs a (fun h => hb o (h ▸ q) hc)).trans q))
  | _, _, _, i + 1, .cons (as := as1) (bs := as2) h1 h2, nd, e, e' => by
    rw [List.nodup_append] at nd
    have hb2 : b ∈ as2 := readsAll_mem h2 (by simpa using e) (by simpa using e')
    have hb1 : b ∉ as1 := fun q => nd.2.2 b q b hb2 rfl
    exact .cons (reads_upon h1 (fun a ha o q _ => (hs a (fun h => hb1 (h ▸ ha))).trans q) (fun a o q hc _ => (hs a (fun h => hb o (h ▸ q) hc)).trans q))
      (readsAll_row hf hs hb new h2 nd.2.1 (by simpa using e) (by simpa using e'))

/-- the list that a variable owns -/
theorem owned_list {i : Nat} {xs : List PyData} (S : St c f ρ mo val fp s) (e : ρ[i]? = some (some ⟨.ow, .list xs⟩)) :
    ∃ a vs n as, val i = .ref a ∧ fp i = a :: as ∧ IsL s.heap a vs n ∧ ReadsAll c.lo s.toks s.heap vs.toList xs as ∧ mo a := by
  obtain ⟨x, _, _, r⟩ := S.var i _ e
  obtain ⟨nd, hm⟩ := S.own i _ e rfl
  generalize val i = v at r
  generalize hfp : fp i = as at r nd hm
  simp only at r
  cases r with
  | list g1 g2 g3 g4 =>
    have hma := hm _ (List.mem_cons_self ..)
    exact ⟨_, _, _, _, rfl, rfl, (S.moPl _ hma).isL g1 g2 g3, g4, hma⟩

variable {Q : Fl → Rho → Prop} {e : Expr} {d : PyData} {k : EK} {pos : Pos} {x : Str} {xp ap cp : Pos} {i : Nat} {xs : List PyData}

theorem sameBut_update (h : Heap) (a : Addr) (g : Obj → Obj) : Heap.SameBut a h (h.update a g) := Heap.SameBut.update ..

/-- x.append(e) -/
theorem ex_append (FS : FmS c f) (hat : At f.xs ρ x ⟨.ow, .list xs⟩ i) (h : Ev c f ρ e d k) (hk : k = .fr ∨ flat d = true) (hsz : xs.length ≤ sizeLine) (hQ : Q .next (ρ.set i (some ⟨.ow, .list (xs ++ [d])⟩)))
    (hd : (x == ("__debug__" : Str)) = false := by decide +kernel) (hn : (x == ("__classdict__" : Str)) = false := by decide +kernel)
    (hbase : ∀ env, attributeBase (.Name x xp) "append" env (eval (.Name x xp) env) = eval (.Name x xp) env := by intro _; rfl) (hline : (ap.endLine == cp.line) = true := by rfl)
    (htrees : ∀ env, backTo cp (starEach [e] env) = [(false, eval e env)] := by intro _; rfl) (hi : ∀ env, interactive env = false → True := by intros; trivial)
    (hsw : ∀ env, swapsWith (.Call (.Attribute (.Name x xp) "append" ap) [e] [] cp) none pos.line env = pure false := by intro _; rfl) :
    Ex1 c f (.Expr (.Call (.Attribute (.Name x xp) "append" ap) [e] [] cp) pos) ρ Q := fun mo val fp s S => by
  have hint : interactive f.env = false := by unfold interactive; rw [S.ok.kind]; rfl
  refine wpAny_Expr_any ?_ hint (hsw _)
  refine wpAny_Call_method1_late (hbase _) hline (htrees _) (name_step S hat (fun _ => ?_) hd hn)
  have e0 := hat.slot
  obtain ⟨a, vs, n, as, hv, hfp, hl, hr, hma⟩ := owned_list S e0
  rw [hv]
  refine ⟨"list", "list.append", F.plainAttrs_list, F.slot_list_append, F.type_list_append, ⟨_, hl, rfl⟩, fun a' q => by cases q; exact ⟨_, hl, rfl⟩, ?_⟩
  refine P.append_list (h.bind S fun v s1 as1 x1 S1 r1 ko => ?_)
  have hl1 : IsL s1.heap a vs n := listOrDict_ext S.wf x1 hl (.inl ⟨rfl, _, _, rfl⟩)
  have hr1 := x1.readsAll S.wf hr
  have hlen : vs.size = xs.length := by simpa using readsAll_length hr
  refine ⟨vs, n, by omega, hl1, ?_⟩
  have hl2 := hl1.update (fun xs => xs.push v)
  have hsb : Heap.SameBut a s1.heap (s1.heap.update a (Obj.mapSeq fun xs => xs.push v)) := sameBut_update ..
  obtain ⟨nd, hm⟩ := S1.own i _ e0 rfl
  rw [hfp] at nd
  have haas : a ∉ as := (List.nodup_cons.mp nd).1
  have haas1 : a ∉ as1 := fun q => by
    rcases hk with rfl | hf
    · have := ko.2.2.1 a q; rw [hl] at this; cases this
    · rw [reads_flat r1 hf] at q; cases q
  have hr2 := readsAll_but hsb (isL_notTup hl1) haas hr1
  have r2 := reads_but hsb (isL_notTup hl1) haas1 r1
  have key : Reads c.lo s1.toks (s1.heap.update a (Obj.mapSeq fun xs => xs.push v)) (val i) (.list (xs ++ [d])) (a :: (as ++ as1)) := by
    rw [hv]
    exact .list hl2 rfl rfl (by rw [Array.toList_push]; exact readsAll_snoc hr2 r2)
  have frs : ∀ b ∈ as1, s.heap.get? b = none := fun b hb => by
    rcases hk with rfl | hf
    · exact ko.2.2.1 b hb
    · rw [reads_flat r1 hf] at hb; cases hb
  have fpIn : ∀ j sl, ρ[j]? = some (some sl) → ∀ b ∈ fp j, ∃ o, s.heap.get? b = some o := fun j sl ej b hb => by
    obtain ⟨_, _, _, rj⟩ := S.var j sl ej
    obtain ⟨o, ho, _⟩ := reads_objs rj b hb; exact ⟨o, ho⟩
  have as1nd : as1.Nodup := by
    rcases hk with rfl | hf
    · exact ko.2.1
    · rw [reads_flat r1 hf]; exact .nil
  have as1pl : ∀ b ∈ as1, Pl s1.heap b := fun b hb => by
    rcases hk with rfl | hf
    · exact ko.2.2.2 b hb
    · rw [reads_flat r1 hf] at hb; cases hb
  have asfp : ∀ b ∈ as, b ∈ fp i := fun b hb => by rw [hfp]; exact List.mem_cons_of_mem _ hb
  have := S1.mut (tk := s1.toks) (as' := a :: (as ++ as1)) (extra := as1) FS e0 (by rw [hfp]; exact List.mem_cons_self ..) hsb (Pl.of_isL hl2) key
    (List.nodup_cons.mpr ⟨fun q => (List.mem_append.mp q).elim haas haas1, List.nodup_append.mpr ⟨(List.nodup_cons.mp nd).2, as1nd, fun p hp q hq h => by
      subst h; obtain ⟨o, ho⟩ := fpIn i _ e0 p (asfp p hp); rw [frs p hq] at ho; cases ho⟩⟩)
    (fun b hb => by
      rw [hfp]
      rcases List.mem_cons.mp hb with q | q
      · exact .inl (q ▸ List.mem_cons_self ..)
      · exact (List.mem_append.mp q).imp (List.mem_cons_of_mem _) id)
    (fun b hb => ⟨fun q => (by obtain ⟨o, ho, _⟩ := S.moIn b q; rw [frs b hb] at ho; cases ho), S.keep.none (frs b hb), as1pl b hb⟩)
    (fun j sl _ ej b hb q => by obtain ⟨o, ho⟩ := fpIn j sl ej b hb; rw [frs b q] at ho; cases ho)
    (fun q => ko.1 q)
  refine ⟨.next, _, _, _, _, trivial, this.1, ⟨fun b o h1 h2 h3 q => this.2.1 b o h3 (x1.up.kp b o h1 q), fun b o q => let ⟨o', q'⟩ := x1.up.th b o q; this.2.2 b o' q', fun b h => h.imp id (frs b)⟩, hQ⟩
end
end Mine

namespace Mine
open PySem PySem.Spec PySem.Calls PyProof.Rows

section
variable {prog : Program} {w : World} {A : Around} {E : Value → Shared → Prop} {s : Shared}
/-- a store into a plain list leaves a plain list -/
theorem setItem_isL {l : Addr} {items : Array Value} {n : Nat} {k : Int} {t : Tok} {v : Value} {Q : Unit → Shared → Prop} (hl : IsL s.heap l items n) (h0 : 0 ≤ k) (hfit : k < 2 ^ 63) (hn : k < items.size)
    (hQ : IsL (s.heap.update l (Obj.mapSeq (·.setIfInBounds k.toNat v))) l (items.setIfInBounds k.toNat v) n → Q () { s with heap := s.heap.update l (Obj.mapSeq (·.setIfInBounds k.toNat v)) }) :
    wpAny (model prog w) A (setItem (.ref l) (.int k t) v) Q E s := by
  have hT : s.TypeIs (.ref l) "list" := ⟨_, hl, rfl⟩
  have hq := hQ (by
    have := hl.update (fun xs => xs.setIfInBounds k.toNat v)
    have e : ((items.setIfInBounds k.toNat v).size == items.size) = true := by simp
    simpa [e] using this)
  clear hQ
  unfold setItem
  try with_reducible refine wpAny_holding ?_
  first | refine wpAny_bind (wpAny_pure ?_) | skip
  refine wpAny_bind (wpAny_sequenceKey hT (by decide) ?_)
  refine wpAny_bind (wpAny_callSpecial?_slot (name := Str.ofString "__setitem__") hT slot_list_setitem
    (wpAny_call_entry slot_list_setitem hT entry_list_setitem ?_ (args_list_setitem _ _ _)))
  show wpAny _ _ (Builtin.List.listSubscript? (.int k t) >>= _) _ _ s
  refine wpAny_bind (wpAny_listSubscript_int (fitsIndex_of h0 hfit) ?_)
  clear hfit
  obtain ⟨j, rfl⟩ := Int.eq_ofNat_of_zero_le h0
  have hj : j < items.size := by omega
  show wpAny _ _ ((seqItemAt l j >>= fun r => pure (r.map (j, ·))) >>= _) _ _ s
  refine wpAny_bind (wpAny_bind (wpAny_seqItemAt hl rfl (wpAny_pure ?_)))
  rw [Array.getElem?_eq_getElem hj]
  show wpAny _ _ (setSeqItemAt l j v >>= _) _ _ s
  refine wpAny_bind (wpAny_setSeqItemAt hl rfl ?_)
  first
    | exact wpAny_bind (wpAny_pure (wpAny_pure ⟨.none, rfl, wpAny_pure hq⟩))
    | exact wpAny_pure ⟨.none, rfl, wpAny_pure hq⟩
end

section
variable {c : Cx} {f : Fm} {ρ : Rho} {mo : Addr → Prop} {val : Nat → Value} {fp : Nat → List Addr} {s : Shared} {E : Value → Shared → Prop}
variable {Q : Fl → Rho → Prop} {e ei er : Expr} {d d0 : PyData} {k k2 k3 : EK} {pos : Pos} {x : Str} {xp ap cp sp sp2 : Pos} {i : Nat} {xs : List PyData}

theorem mut0 {d d' : PyData} {b : Addr} {h' : Heap} {tk : Nat} {s1 : Shared} (FS : FmS c f) (S : St c f ρ mo val fp s) (x1 : Ext c s s1) (e : ρ[i]? = some (some ⟨.ow, d⟩)) (hb : b ∈ fp i)
    (hs : Heap.SameBut b s1.heap h') (hpl : Pl h' b) (r : Reads c.lo tk h' (val i) d' (fp i)) (hQ : Q .next (ρ.set i (some ⟨.ow, d'⟩))) (ht : s1.toks ≤ tk := by first | exact Nat.le_refl _ | exact Nat.le_succ _ | assumption | omega | (simp only; omega)) : Post c f mo s Q .next { s1 with heap := h', toks := tk } := by
  have S1 := S.ext x1
  have := S1.mut (tk := tk) (as' := fp i) (extra := []) FS e hb hs hpl r (S.own i _ e rfl).1 (fun a ha => .inl ha) nofun (fun _ _ _ _ _ _ h => by cases h) nofun ht
  exact ⟨.next, _, _, _, _, trivial, this.1, ⟨fun b o h1 h2 h3 q => this.2.1 b o h3 (x1.up.kp b o h1 q), fun b o q => let ⟨o', q'⟩ := x1.up.th b o q; this.2.2 b o' q', fun b h => h.elim .inl (fun q => by cases q)⟩, hQ⟩

/-- x[i] = e, a flat item in the place of a flat item -/
theorem ex_setitem {j : Int} (FS : FmS c f) (hat : At f.xs ρ x ⟨.ow, .list xs⟩ i) (hv : Ev c f ρ e d k) (hi : Ev c f ρ ei (.int j) k2) (hd : flat d = true) (h0 : 0 ≤ j) (hfit : j < 2 ^ 63) (hx : xs[j.toNat]? = some d0) (hd0 : flat d0 = true)
    (hQ : Q .next (ρ.set i (some ⟨.ow, .list (xs.set j.toNat d)⟩)))
    (hdb : (x == ("__debug__" : Str)) = false := by decide +kernel) (hn : (x == ("__classdict__" : Str)) = false := by decide +kernel)
    (hs : ∀ env, swapsWith e (some (.Subscript (.Name x xp) ei sp)) pos.line env = pure false := by intro _; rfl) : Ex1 c f (.Assign [.Subscript (.Name x xp) ei sp] e pos) ρ Q := fun mo val fp s S => by
  refine wpAny_Assign_Subscript (hv.bind S fun v s1 as1 x1 S1 r1 _ => name_step S1 hat (fun _ => hi.bind S1 fun iv s3 as3 x3 S3 r3 _ => ?_) hdb hn) (hs _)
  have e0 := hat.slot
  obtain ⟨a, vs, n, as, hva, hfp, hl, hr, hma⟩ := owned_list S3 e0
  cases r3
  rw [hva]
  have hlen : vs.size = xs.length := by simpa using readsAll_length hr
  have hjl : j.toNat < xs.length := (List.getElem?_eq_some_iff.mp hx).1
  refine setItem_isL hl h0 hfit (by omega) fun hl2 => ?_
  have hsb : Heap.SameBut a s3.heap (s3.heap.update a (Obj.mapSeq (·.setIfInBounds j.toNat v))) := sameBut_update ..
  have nd := (S3.own i _ e0 rfl).1
  rw [hfp] at nd
  have r1' := reads_but hsb (isL_notTup hl) (by rw [reads_flat r1 hd]; nofun) (x3.reads S1.wf r1)
  rw [reads_flat r1 hd] at r1'
  have hr2 := readsAll_but hsb (isL_notTup hl) (List.nodup_cons.mp nd).1 hr
  refine mut0 (d' := .list (xs.set j.toNat d)) FS S (x1.trans x3) e0 (by rw [hfp]; exact List.mem_cons_self ..) hsb (Pl.of_isL hl2) ?_ hQ
  rw [hva, hfp]
  exact .list hl2 rfl rfl (by rw [Array.toList_setIfInBounds]; exact readsAll_set hr2 hx hd0 r1')

/-- the row of a table that a variable owns -/
theorem owned_row {j : Nat} {rows cells : List PyData} (S : St c f ρ mo val fp s) (e : ρ[i]? = some (some ⟨.ow, .list rows⟩)) (hj : rows[j]? = some (.list cells)) :
    ∃ a vs n as b ws m cs, val i = .ref a ∧ fp i = a :: as ∧ IsL s.heap a vs n ∧ ReadsAll c.lo s.toks s.heap vs.toList rows as ∧ vs.toList[j]? = some (.ref b) ∧ IsL s.heap b ws m ∧ ReadsAll c.lo s.toks s.heap ws.toList cells cs ∧ b ∈ as := by
  obtain ⟨a, vs, n, as, hva, hfp, hl, hr, hma⟩ := owned_list S e
  obtain ⟨v, bs, h1, h2, h3⟩ := readsAll_item hr hj
  cases h2 with
  | list g1 g2 g3 g4 =>
    have hb : _ ∈ as := h3.subset (List.mem_cons_self ..)
    have hmb := (S.own i _ e rfl).2 _ (by rw [hfp]; exact List.mem_cons_of_mem _ hb)
    exact ⟨a, vs, n, as, _, _, _, _, hva, hfp, hl, hr, h1, (S.moPl _ hmb).isL g1 g2 g3, g4, hb⟩

/-- the value of a row: x[i] of a table owned by x -/
theorem row_step {j : Int} {rows cells : List PyData} {K : Value → Shared → Prop} (S : St c f ρ mo val fp s) (hat : At f.xs ρ x ⟨.ow, .list rows⟩ i) (hi : Ev c f ρ ei (.int j) k2) (h0 : 0 ≤ j) (hfit : j < 2 ^ 63) (hj : rows[j.toNat]? = some (.list cells))
    (hdb : (x == ("__debug__" : Str)) = false) (hn : (x == ("__classdict__" : Str)) = false) (hs : ∀ o i, subscripted ei false o i = operate [o, i] (getItem o i))
    (hK : ∀ b s', Ext c s s' → St c f ρ mo val fp s' → (∃ a vs n as, val i = .ref a ∧ fp i = a :: as ∧ IsL s'.heap a vs n ∧ ReadsAll c.lo s'.toks s'.heap vs.toList rows as ∧ vs.toList[j.toNat]? = some (.ref b) ∧ b ∈ as) → K (.ref b) s') :
    wpAny c.M f.A (eval (.Subscript (.Name x xp) ei sp) f.env) K E s := by
  refine Subscript_ (name_step S hat (fun r0 => hi.bind S fun iv s2 as2 x2 S2 r2 _ => ?_) hdb hn)
  cases r2
  obtain ⟨a, vs, n, as, b, ws, m, cs, hva, hfp, hl, hr, hv, hlb, hrb, hb⟩ := owned_row S2 hat.slot hj
  rw [hva]
  refine tail_any (T := "list") ⟨_, hl, rfl⟩ slot_list_getitem.lookup ?_ (hs _ _)
  exact wpAny_getItem_list ⟨_, hl, rfl, _, rfl⟩ h0 hfit (by simpa using hv) (hK b s2 x2 S2 ⟨a, vs, n, as, hva, hfp, hl, hr, hv, hb⟩)

/-- x[i][j] = e, flat -/
theorem ex_setitem2 {j1 j2 : Int} {rows cells : List PyData} (FS : FmS c f) (hat : At f.xs ρ x ⟨.ow, .list rows⟩ i) (hv : Ev c f ρ e d k) (hi1 : Ev c f ρ er (.int j1) k2) (hi2 : Ev c f ρ ei (.int j2) k3) (hd : flat d = true)
    (h01 : 0 ≤ j1) (hfit1 : j1 < 2 ^ 63) (hrow : rows[j1.toNat]? = some (.list cells)) (hcf : flats cells = true) (h02 : 0 ≤ j2) (hfit2 : j2 < 2 ^ 63) (hx : xs = cells) (hlt : j2.toNat < cells.length)
    (hQ : Q .next (ρ.set i (some ⟨.ow, .list (rows.set j1.toNat (.list (cells.set j2.toNat d)))⟩)))
    (hdb : (x == ("__debug__" : Str)) = false := by decide +kernel) (hn : (x == ("__classdict__" : Str)) = false := by decide +kernel) (hs2 : ∀ o i, subscripted er false o i = operate [o, i] (getItem o i) := by intros; rfl)
    (hs : ∀ env, swapsWith e (some (.Subscript (.Subscript (.Name x xp) er sp) ei sp2)) pos.line env = pure false := by intro _; rfl) : Ex1 c f (.Assign [.Subscript (.Subscript (.Name x xp) er sp) ei sp2] e pos) ρ Q := fun mo val fp s S => by
  refine wpAny_Assign_Subscript (hv.bind S fun v s1 as1 x1 S1 r1 _ => row_step S1 hat hi1 h01 hfit1 hrow hdb hn hs2 fun b s2 x2 S2 hrb => hi2.bind S2 fun iv s3 as3 x3 S3 r3 _ => ?_) (hs _)
  have e0 := hat.slot
  obtain ⟨a2, vs2, n2, as2, hva2, hfp2, hl2, hr2, hvb2, hb2⟩ := hrb
  obtain ⟨a, vs, n, as, b', ws, m, cs, hva, hfp, hl, hr, hvb, hlb, hrb, hb⟩ := owned_row S3 e0 hrow
  have hbb : b' = b := by
    rw [hva2] at hva; cases hva
    have q := listOrDict_ext S2.wf x3 hl2 (.inl ⟨rfl, _, _, rfl⟩)
    have q' := Option.some.inj (q.symm.trans hl)
    cases q'
    rw [hvb2] at hvb; cases hvb; rfl
  subst hbb
  cases r3
  have hlen : ws.size = cells.length := by simpa using readsAll_length hrb
  refine setItem_isL hlb h02 hfit2 (by omega) fun hl3 => ?_
  have hsb : Heap.SameBut b' s3.heap (s3.heap.update b' (Obj.mapSeq (·.setIfInBounds j2.toNat v))) := sameBut_update ..
  have nd := (S3.own i _ e0 rfl).1
  rw [hfp] at nd
  have hab : b' ≠ a := fun q => (List.nodup_cons.mp nd).1 (q ▸ hb)
  have r1' := reads_but hsb (isL_notTup hlb) (by rw [reads_flat r1 hd]; nofun) ((x2.trans x3).reads S1.wf r1)
  rw [reads_flat r1 hd] at r1'
  have hcs := readsAll_flat hrb hcf
  subst hcs
  have hrb2 := readsAll_but hsb (isL_notTup hlb) (by simp) hrb
  obtain ⟨c0, hc0⟩ : ∃ c0, cells[j2.toNat]? = some c0 := ⟨_, List.getElem?_eq_getElem hlt⟩
  have hc0f : flat c0 = true := by
    have : ∀ {l : List PyData}, flats l = true → ∀ y ∈ l, flat y = true := fun {l} => by
      induction l with
      | nil => intro _ y hy; cases hy
      | cons z l ih =>
        intro h y hy
        simp only [flats, Bool.and_eq_true] at h
        rcases List.mem_cons.mp hy with rfl | hy
        · exact h.1
        · exact ih h.2 y hy
    exact this hcf c0 (List.mem_of_getElem? hc0)
  have new : Reads c.lo s3.toks (s3.heap.update b' (Obj.mapSeq (·.setIfInBounds j2.toNat v))) (.ref b') (.list (cells.set j2.toNat d)) [b'] :=
    .list hl3 rfl rfl (by rw [Array.toList_setIfInBounds]; exact readsAll_set hrb2 hc0 hc0f r1')
  refine mut0 (d' := .list (rows.set j1.toNat (.list (cells.set j2.toNat d)))) FS S ((x1.trans x2).trans x3) e0 (by rw [hfp]; exact List.mem_cons_of_mem _ hb) hsb (Pl.of_isL hl3) ?_ hQ
  rw [hva, hfp]
  have hla : IsL (s3.heap.update b' (Obj.mapSeq (·.setIfInBounds j2.toNat v))) a vs n := (hsb.2 a (fun q => hab q.symm)).trans hl
  exact .list hla rfl rfl (readsAll_row hcf hsb.2 (isL_notTup hlb) new hr (List.nodup_cons.mp nd).2 hvb hrow)

/-- x[i].append(e), flat rows -/
theorem ex_append2 {j1 : Int} {rows cells : List PyData} (FS : FmS c f) (hat : At f.xs ρ x ⟨.ow, .list rows⟩ i) (hi1 : Ev c f ρ er (.int j1) k2) (h : Ev c f ρ e d k) (hd : flat d = true)
    (h01 : 0 ≤ j1) (hfit1 : j1 < 2 ^ 63) (hrow : rows[j1.toNat]? = some (.list cells)) (hcf : flats cells = true) (hsz : cells.length ≤ sizeLine)
    (hQ : Q .next (ρ.set i (some ⟨.ow, .list (rows.set j1.toNat (.list (cells ++ [d])))⟩)))
    (hdb : (x == ("__debug__" : Str)) = false := by decide +kernel) (hn : (x == ("__classdict__" : Str)) = false := by decide +kernel) (hs2 : ∀ o i, subscripted er false o i = operate [o, i] (getItem o i) := by intros; rfl)
    (hbase : ∀ env, attributeBase (.Subscript (.Name x xp) er sp) "append" env (eval (.Subscript (.Name x xp) er sp) env) = eval (.Subscript (.Name x xp) er sp) env := by intro _; rfl) (hline : (ap.endLine == cp.line) = true := by rfl)
    (htrees : ∀ env, backTo cp (starEach [e] env) = [(false, eval e env)] := by intro _; rfl)
    (hsw : ∀ env, swapsWith (.Call (.Attribute (.Subscript (.Name x xp) er sp) "append" ap) [e] [] cp) none pos.line env = pure false := by intro _; rfl) :
    Ex1 c f (.Expr (.Call (.Attribute (.Subscript (.Name x xp) er sp) "append" ap) [e] [] cp) pos) ρ Q := fun mo val fp s S => by
  have hint : interactive f.env = false := by unfold interactive; rw [S.ok.kind]; rfl
  refine wpAny_Expr_any ?_ hint (hsw _)
  refine wpAny_Call_method1_late (hbase _) hline (htrees _) (row_step S hat hi1 h01 hfit1 hrow hdb hn hs2 fun b s2 x2 S2 hrb => ?_)
  have e0 := hat.slot
  obtain ⟨a2, vs2, n2, as2, hva2, hfp2, hl2, hr2, hvb2, hb2⟩ := hrb
  have hbfp : b ∈ fp i := by rw [hfp2]; exact List.mem_cons_of_mem _ hb2
  obtain ⟨ob, hob, hlob, hdn, _⟩ := S2.moPl b ((S2.own i _ e0 rfl).2 b hbfp)
  obtain ⟨a, vs, n, as, b', ws, m, cs, hva, hfp, hl, hr, hvb, hlb, hrb, hb⟩ := owned_row S2 e0 hrow
  have hbb : b' = b := by
    rw [hva2] at hva; cases hva
    have q' := Option.some.inj (hl2.symm.trans hl)
    cases q'
    rw [hvb2] at hvb; cases hvb; rfl
  subst hbb
  refine ⟨"list", "list.append", F.plainAttrs_list, F.slot_list_append, F.type_list_append, ⟨_, hlb, rfl⟩, fun a' q => by cases q; exact ⟨_, hlb, rfl⟩, ?_⟩
  refine P.append_list (h.bind S2 fun v s3 as1 x3 S3 r1 ko => ?_)
  have hlb3 : IsL s3.heap b' ws m := listOrDict_ext S2.wf x3 hlb (.inl ⟨rfl, _, _, rfl⟩)
  have hla3 : IsL s3.heap a vs n := listOrDict_ext S2.wf x3 hl (.inl ⟨rfl, _, _, rfl⟩)
  have hlen : ws.size = cells.length := by simpa using readsAll_length hrb
  refine ⟨ws, m, by omega, hlb3, ?_⟩
  have hl4 := hlb3.update (fun xs => xs.push v)
  have hsb : Heap.SameBut b' s3.heap (s3.heap.update b' (Obj.mapSeq fun xs => xs.push v)) := sameBut_update ..
  have nd := (S3.own i _ e0 rfl).1
  rw [hfp] at nd
  have hab : b' ≠ a := fun q => (List.nodup_cons.mp nd).1 (q ▸ hb)
  have r1' := reads_but hsb (isL_notTup hlb3) (by rw [reads_flat r1 hd]; nofun) r1
  rw [reads_flat r1 hd] at r1'
  have hcs := readsAll_flat hrb hcf
  subst hcs
  have hrb2 := readsAll_but hsb (isL_notTup hlb3) (by simp) (x3.readsAll S2.wf hrb)
  have new : Reads c.lo s3.toks (s3.heap.update b' (Obj.mapSeq fun xs => xs.push v)) (.ref b') (.list (cells ++ [d])) [b'] :=
    .list hl4 rfl rfl (by rw [Array.toList_push]; exact readsAll_snoc hrb2 r1')
  refine mut0 (d' := .list (rows.set j1.toNat (.list (cells ++ [d])))) (tk := s3.toks) FS S (x2.trans x3) e0 (by rw [hfp]; exact List.mem_cons_of_mem _ hb) hsb (Pl.of_isL hl4) ?_ hQ
  rw [hva, hfp]
  have hla : IsL (s3.heap.update b' (Obj.mapSeq fun xs => xs.push v)) a vs n := (hsb.2 a (fun q => hab q.symm)).trans hla3
  exact .list hla rfl rfl (readsAll_row hcf hsb.2 (isL_notTup hlb3) new (x3.readsAll S2.wf hr) (List.nodup_cons.mp nd).2 hvb hrow)
end
end Mine

namespace Mine
open PySem PySem.Spec PySem.Calls PyProof.Rows

noncomputable def clOf (env : Env) : List (Str × NameKind) → List (Str × Addr) → List (Str × Addr)
  | [], acc => acc
  | (n, k) :: r, acc => if k == .free then clOf env r ((n, (env.cells.lookup n).getD 0) :: acc) else clOf env r acc

theorem closureFor_eq {scope : Scope} {env : Env} (h : ∀ x ∈ scope.names, x.2 = .free → ∃ a, env.cells.lookup x.1 = some a) : closureFor scope env = pure (clOf env scope.names []) := by
  simp only [closureFor]
  have key : ∀ (l : List (Str × NameKind)) (acc : List (Str × Addr)), (∀ x ∈ l, x.2 = .free → ∃ a, env.cells.lookup x.1 = some a) →
      (forIn l acc fun x (r : List (Str × Addr)) => if (x.2 == NameKind.free) = true then do let a ← cellOf env x.1; pure (ForInStep.yield ((x.1, a) :: r)) else pure (ForInStep.yield r) : Sem (List (Str × Addr))) = pure (clOf env l acc) := by
    intro l
    induction l with
    | nil => intro acc _; rfl
    | cons y l ih =>
      intro acc hy
      obtain ⟨n, kd⟩ := y
      rw [List.forIn_cons, clOf]
      by_cases hk : (kd == NameKind.free) = true
      · obtain ⟨a, ha⟩ := hy (n, kd) (List.mem_cons_self ..) (by simpa using hk)
        simp only at ha
        simp only [hk, if_true, cellOf, ha, pure_bind, Option.getD_some]
        exact ih _ fun x hx => hy x (List.mem_cons_of_mem _ hx)
      · simp only [hk, if_false, pure_bind, Bool.false_eq_true]
        exact ih _ fun x hx => hy x (List.mem_cons_of_mem _ hx)
  have := key scope.names [] h
  first
    | (rw [show (forIn scope.names ([] : List (Str × Addr)) _ : Sem _) = _ from this]; rfl)
    | (simp only [bind_pure]; exact this)
    | (simpa using this)

theorem clOf_lookup {env : Env} {x : Str} {a : Addr} (hx : env.cells.lookup x = some a) : ∀ (names : List (Str × NameKind)) (acc : List (Str × Addr)), ((x, NameKind.free) ∈ names ∨ acc.lookup x = some a) → (∀ b, acc.lookup x = some b → b = a) → (clOf env names acc).lookup x = some a
  | [], acc, h, _ => h.elim (fun q => by cases q) id
  | (n, k) :: r, acc, h, hc => by
    rw [clOf]
    by_cases hk : (k == NameKind.free) = true
    · rw [if_pos hk]
      by_cases hn : x = n
      · subst hn
        refine clOf_lookup hx r _ (.inr ?_) fun b q => ?_
        · rw [List.lookup_cons_self, hx]; rfl
        · rw [List.lookup_cons_self, hx] at q; cases q; rfl
      · have hb : (x == n) = false := beq_eq_false_iff_ne.mpr hn
        refine clOf_lookup hx r _ (h.imp (fun q => ?_) fun q => ?_) fun b q => ?_
        · rcases List.mem_cons.mp q with q | q
          · cases q; exact absurd rfl hn
          · exact q
        · rw [List.lookup_cons, hb]; exact q
        · rw [List.lookup_cons, hb] at q; exact hc b q
    · rw [if_neg hk]
      refine clOf_lookup hx r _ (h.imp (fun q => ?_) id) hc
      rcases List.mem_cons.mp q with q | q
      · cases q; exact absurd rfl hk
      · exact q
theorem clOf_sound {env : Env} {x : Str} {a : Addr} : ∀ (names : List (Str × NameKind)) (acc : List (Str × Addr)), (∀ y ∈ names, y.2 = .free → ∃ a, env.cells.lookup y.1 = some a) → (∀ b, acc.lookup x = some b → env.cells.lookup x = some b) → (clOf env names acc).lookup x = some a → env.cells.lookup x = some a
  | [], acc, _, h, e => h a e
  | (n, k) :: r, acc, hy, h, e => by
    rw [clOf] at e
    have hy' : ∀ y ∈ r, y.2 = .free → ∃ a, env.cells.lookup y.1 = some a := fun y q => hy y (List.mem_cons_of_mem _ q)
    by_cases hk : (k == NameKind.free) = true
    · rw [if_pos hk] at e
      refine clOf_sound r _ hy' (fun b q => ?_) e
      by_cases hn : x = n
      · subst hn
        rw [List.lookup_cons_self] at q
        obtain ⟨a', ha'⟩ := hy (x, k) (List.mem_cons_self ..) (by simpa using hk)
        simp only at ha'
        rw [ha'] at q ⊢; simpa using q
      · have hb : (x == n) = false := beq_eq_false_iff_ne.mpr hn
        rw [List.lookup_cons, hb] at q; exact h b q
    · rw [if_neg hk] at e
      exact clOf_sound r _ hy' h e
theorem cellsFrom_not {x : Str} : ∀ (names : List (Str × NameKind)) (n : Nat) (acc : List (Str × Addr)), (x, NameKind.cell) ∉ names → (cellsFrom n names acc).lookup x = acc.lookup x
  | [], _, _, _ => rfl
  | (y, k) :: r, n, acc, h => by
    rw [cellsFrom]
    have h' : (x, NameKind.cell) ∉ r := fun q => h (List.mem_cons_of_mem _ q)
    by_cases hk : (k == NameKind.cell) = true
    · rw [if_pos hk, cellsFrom_not r _ _ h']
      have hb : (x == y) = false := beq_eq_false_iff_ne.mpr fun q => h (by
        have : k = .cell := by simpa using hk
        rw [q, this]; exact List.mem_cons_self ..)
      rw [List.lookup_cons, hb]
    · rw [if_neg hk, cellsFrom_not r _ _ h']
theorem cellsFrom_own {x : Str} : ∀ (names : List (Str × NameKind)) (h : Heap) (acc : List (Str × Addr)), (x, NameKind.cell) ∈ names →
    ∃ a, (cellsFrom h.objs.size names acc).lookup x = some a ∧ (pushCells h names).IsCell a none ∧ h.get? a = none
  | [], _, _, h => by cases h
  | (y, k) :: r, h, acc, hm => by
    rw [cellsFrom, pushCells]
    by_cases hr : (x, NameKind.cell) ∈ r
    · by_cases hk : (k == NameKind.cell) = true
      · rw [if_pos hk, if_pos hk]
        obtain ⟨a, h1, h2, h3⟩ := cellsFrom_own r (h.push { cls := .type "cell", data := .cell none }) ((y, h.objs.size) :: acc) hr
        rw [Heap.size_push] at h1
        refine ⟨a, h1, h2, ?_⟩
        cases e : h.get? a with
        | none => rfl
        | some o => rw [Heap.get?_push_of_some _ e] at h3; cases h3
      · rw [if_neg hk, if_neg hk]; exact cellsFrom_own r h acc hr
    · rcases List.mem_cons.mp hm with q | q
      · cases q
        have hcc : (NameKind.cell == NameKind.cell) = true := by decide
        rw [if_pos hcc, if_pos hcc]
        refine ⟨h.objs.size, ?_, ?_, get_size_none h⟩
        · rw [cellsFrom_not r _ _ hr, List.lookup_cons_self]
        · exact ⟨_, pushCells_keeps r _ _ _ (Heap.get?_push_size _ rfl), rfl⟩
      · exact absurd q hr

theorem relabel_lookup {env : Env} {x : Str} {k : NameKind} : ∀ {names : List (Str × NameKind)}, names.lookup x = some k →
    ((names.map fun (n, k) => if (k == NameKind.free && env.scope.kind == .function && env.kindOf n == some .cell) then (n, NameKind.cell) else (n, k)).lookup x = some k) ∨
      (k = .free ∧ (names.map fun (n, k) => if (k == NameKind.free && env.scope.kind == .function && env.kindOf n == some .cell) then (n, NameKind.cell) else (n, k)).lookup x = some .cell)
  | [], h => by simp at h
  | (n, k') :: r, h => by
    have ih := @relabel_lookup env x k r
    simp only [List.map_cons]
    cases hx : x == n with
    | true =>
      simp only [List.lookup_cons, hx] at h
      cases h
      by_cases hc : (k == NameKind.free && env.scope.kind == .function && env.kindOf n == some .cell) = true
      · rw [if_pos hc]
        have hkf : k = .free := by
          have := (Bool.and_eq_true_iff.mp (Bool.and_eq_true_iff.mp hc).1).1
          simpa using this
        exact .inr ⟨hkf, by simp [List.lookup_cons, hx]⟩
      · rw [if_neg hc]
        exact .inl (by simp [List.lookup_cons, hx])
    | false =>
      simp only [List.lookup_cons, hx] at h
      have := ih h
      by_cases hc : (k' == NameKind.free && env.scope.kind == .function && env.kindOf n == some .cell) = true
      · rw [if_pos hc]; simp only [List.lookup_cons, hx]; exact this
      · rw [if_neg hc]; simp only [List.lookup_cons, hx]; exact this

noncomputable def chEnv (scope : Scope) (C : Addr) (env : Env) : Env :=
  { scope := relabel scope env, locals := C, globals := env.globals, cells := cellsFrom (C + 1) scope.names (clOf env scope.names []), qual := env.qual, func := none, code := env.code, frame := env.frame, builtins := env.builtins }

theorem newEnv_comp {M : Model} {A : Around} {E : Value → Shared → Prop} {s : Shared} {scope : Scope} {env : Env} {cl : List (Str × Addr)} {Q : Env → Shared → Prop}
    (h : Q { scope := scope, locals := s.heap.objs.size, globals := env.globals, cells := cellsFrom (s.heap.objs.size + 1) scope.names cl, qual := env.qual, func := none, code := env.code, frame := env.frame, builtins := env.builtins }
      { s with heap := pushCells (s.heap.push { cls := .type "dict", data := .dict #[] }) scope.names }) :
    wpAny M A (newFunctionEnv scope env.globals cl [] env.qual none .none (some env)) Q E s := by
  simp only [newFunctionEnv, Option.isSome_some, if_true]
  refine wpAny_bind (wpAny_alloc ?_)
  refine wpAny_bind (wpAny_layCells _ (fun name kind cells => by cases hkc : kind == NameKind.cell <;> simp [hkc]) _ _ _ _ ?_)
  rw [show ({ s with heap := s.heap.push { cls := .type "dict", data := .dict #[] } } : Shared).heap.objs.size = s.heap.objs.size + 1 from Heap.size_push ..]
  simp only [List.forIn_nil]
  first
    | exact wpAny_bind (wpAny_pure (wpAny_pure h))
    | exact wpAny_pure (wpAny_pure h)
    | exact wpAny_pure h

/-- the frame of a comprehension: its own name, and those that it takes from around -/
noncomputable def chFm (f : Fm) (scope : Scope) (C : Addr) (x : Str) (cp : List Nat) : Fm := ⟨chEnv scope C f.env, f.A, f.h₀, x :: cp.map (fun j => f.xs.getD j default), f.lv⟩
noncomputable def chRho (ρ : Rho) (cp : List Nat) (sl : Slot) : Rho := some sl :: cp.map fun j => (ρ[j]?).join

structure CompOk (c : Cx) (f : Fm) (ρ : Rho) (scope : Scope) (x : Str) (cp : List Nat) : Prop where
  kind : scope.kind = .function
  names : ∀ y ∈ scope.names, y.2 = .local → scope.names.lookup y.1 = some .local
  loopv : scope.names.lookup x = some .local ∨ (scope.names.lookup x = some .cell ∧ (x, NameKind.cell) ∈ scope.names)
  free : ∀ y ∈ scope.names, y.2 = .free → ∃ a, f.env.cells.lookup y.1 = some a
  nd : cp.Nodup
  cap : ∀ j ∈ cp, ∃ y, f.xs[j]? = some y ∧ scope.names.lookup y = some .free ∧ (y, NameKind.free) ∈ scope.names ∧ (y, NameKind.cell) ∉ scope.names ∧ (f.env.kindOf y = some .cell ∨ f.env.kindOf y = some .free)

noncomputable def Ifs (c : Cx) (f : Fm) (ρ : Rho) (ifs : List Expr) (b : Bool) : Prop :=
  ∀ mo val fp s E, St c f ρ mo val fp s → wpAny c.M f.A (forIn ifs true fun c r => if r = true then do let ok ← isTrue c f.env (eval c f.env); pure (ForInStep.yield ok) else pure (ForInStep.yield r))
    (fun ok s' => ok = b ∧ Ext c s s') E s
theorem ifs_nil {c : Cx} {f : Fm} {ρ : Rho} : Ifs c f ρ [] true := fun mo val fp s E S => by
  rw [List.forIn_nil]; exact wpAny_pure ⟨rfl, Ext.refl S.wf⟩
/-- the value that a comprehension's own name may have: how its slot is filled -/
inductive Fills3 : EK → List PyData → K → Prop
  | sh {ds : List PyData} : Fills3 .sh ds .sh
  | lo {ds : List PyData} : Fills3 .lo ds .lo
  | fr {ds : List PyData} : Fills3 .fr ds .lo
  | flat {k : EK} {ds : List PyData} {sk : K} : (∀ d ∈ ds, flat d = true) → sk ≠ .ow → Fills3 k ds sk
theorem Fills3.ne {k : EK} {ds : List PyData} {sk : K} (h : Fills3 k ds sk) : sk ≠ .ow := by cases h <;> first | assumption | (intro q; cases q)

theorem Wf.but {c : Cx} {s : Shared} {h' : Heap} {tk : Nat} {wr : List Addr} (W : Wf c s) (hk : ∀ b o, b ∉ wr → s.heap.get? b = some o → h'.get? b = some o) (hB : ∀ b ∈ wr, c.hB.get? b = none) (hX : ∀ b ∈ wr, ¬ c.X b) (ht : s.toks ≤ tk) : Wf c { s with heap := h', toks := tk } where
  base := fun b o n e => hk b o (fun q => by rw [hB b q] at e; cases e) (W.base b o n e)
  tab := fun b x => let ⟨ps, e⟩ := W.tab b x; ⟨ps, hk b _ (fun q => hX b q x) e⟩
  old := oldK_but W.old hB hk
  gens := W.gens
  os := W.os
  lot := Nat.le_trans W.lot ht

section
variable {c : Cx} {f : Fm} {ρ : Rho} {mo : Addr → Prop} {val : Nat → Value} {fp : Nat → List Addr} {s : Shared} {E : Value → Shared → Prop}

/-- the state of a comprehension's frame -/
theorem child_St {scope : Scope} {x : Str} {cp : List Nat} {C : Addr} {sk : K} {d : PyData} {v : Value} {bs : List Addr} {s' : Shared} (CO : CompOk c f ρ scope x cp) (S : St c f ρ mo val fp s) (x1 : Ext c s s')
    (hC : s.heap.get? C = none) (hns : ∃ m, s'.heap.Ns C m) (hown : ∀ y, (y, NameKind.cell) ∈ scope.names → ∀ a, (chEnv scope C f.env).cells.lookup y = some a → ∃ v, s'.heap.IsCell a v)
    (hld : Loads (chEnv scope C f.env) s'.heap x v) (r : Reads c.lo s'.toks s'.heap v d bs) (hsk : sk ≠ .ow) (hbs : ∀ a ∈ bs, ¬ mo a) (hlo : sk = .lo → ∀ a ∈ bs, f.h₀.get? a = none) (hCb : C ∉ bs) :
    St c (chFm f scope C x cp) (chRho ρ cp ⟨sk, d⟩) mo (fun i => match i with | 0 => v | i + 1 => val (cp.getD i 0)) (fun i => match i with | 0 => bs | i + 1 => fp (cp.getD i 0)) s' := by
  have S' := S.ext x1
  have slot : ∀ i sl, (chRho ρ cp ⟨sk, d⟩)[i]? = some (some sl) → (i = 0 ∧ sl = ⟨sk, d⟩) ∨ ∃ i', i = i' + 1 ∧ ∃ j, cp[i']? = some j ∧ cp.getD i' 0 = j ∧ ρ[j]? = some (some sl) := fun i sl e => by
    cases i with
    | zero => simp [chRho] at e; exact .inl ⟨rfl, e.symm⟩
    | succ i =>
      refine .inr ⟨i, rfl, ?_⟩
      simp only [chRho, List.getElem?_cons_succ, List.getElem?_map] at e
      cases hj : cp[i]? with
      | none => rw [hj] at e; simp at e
      | some j =>
        rw [hj] at e
        simp only [Option.map_some, Option.some.injEq] at e
        refine ⟨j, rfl, by rw [List.getD_eq_getElem?_getD, hj]; rfl, ?_⟩
        cases hr : ρ[j]? with
        | none => rw [hr] at e; simp at e
        | some o => rw [hr] at e; simp at e; rw [e]
  refine ⟨x1.wf, ⟨?_, S.ok.glob, S.ok.bi, S.ok.room, S.ok.base⟩, S'.keep, hns, fun y a e => ?_, fun i sl e => ?_, fun i sl e ho => ?_, fun i sl e ho => ?_, fun i sl e hl => ?_, fun i j sl sl' hne e e' ho ho' => ?_, S'.moNew, S'.moPl, fun h => ?_, fun i sl e => ?_⟩
  · show (relabel scope f.env).kind = .function
    exact CO.kind
  · by_cases hy : (y, NameKind.cell) ∈ scope.names
    · exact hown y hy a e
    · have e' : (cellsFrom (C + 1) scope.names (clOf f.env scope.names [])).lookup y = some a := e
      rw [cellsFrom_not _ _ _ hy] at e'
      have := clOf_sound scope.names [] CO.free (fun b q => by simp at q) e'
      exact S'.cells y a this
  · rcases slot i sl e with ⟨rfl, rfl⟩ | ⟨i', rfl, j, h1, h2, h3⟩
    · exact ⟨x, rfl, hld, r⟩
    · obtain ⟨y, g1, g2, g3⟩ := S'.var j sl h3
      obtain ⟨y', q1, q2, q3, q4, q5⟩ := CO.cap j (List.mem_of_getElem? h1)
      obtain rfl : y' = y := by rw [q1] at g1; exact Option.some.inj g1
      refine ⟨y', ?_, ?_, by simp only [h2]; exact g3⟩
      · simp only [chFm, List.getElem?_cons_succ, List.getElem?_map, h1, Option.map_some, List.getD_eq_getElem?_getD, q1, Option.getD_some]
      · simp only [h2]
        rcases g2 with ⟨k1, _⟩ | ⟨k1, a, k2, k3⟩
        · rcases q5 with q5 | q5 <;> rw [k1] at q5 <;> cases q5
        · refine .inr ⟨?_, a, ?_, k3⟩
          · rcases relabel_lookup (env := f.env) q2 with h | ⟨_, h⟩
            · exact .inr h
            · exact .inl h
          · show (cellsFrom (C + 1) scope.names (clOf f.env scope.names [])).lookup y' = some a
            rw [cellsFrom_not _ _ _ q4]
            exact clOf_lookup k2 scope.names [] (.inl q3) (fun b q => by simp at q)
  · rcases slot i sl e with ⟨rfl, rfl⟩ | ⟨i', rfl, j, h1, h2, h3⟩
    · exact absurd ho hsk
    · simp only [h2]; exact S.own j sl h3 ho
  · rcases slot i sl e with ⟨rfl, rfl⟩ | ⟨i', rfl, j, h1, h2, h3⟩
    · exact hbs
    · simp only [h2]; exact S.shr j sl h3 ho
  · rcases slot i sl e with ⟨rfl, rfl⟩ | ⟨i', rfl, j, h1, h2, h3⟩
    · exact hlo hl
    · simp only [h2]; exact S.loc j sl h3 hl
  · rcases slot i sl e with ⟨rfl, rfl⟩ | ⟨i', rfl, ji, h1, h2, h3⟩ <;> rcases slot j sl' e' with ⟨rfl, rfl⟩ | ⟨j', rfl, jj, h1', h2', h3'⟩
    · exact absurd rfl hne
    · exact absurd ho hsk
    · exact absurd ho' hsk
    · simp only [h2, h2']
      refine S.apart ji jj sl sl' (fun q => hne ?_) h3 h3' ho ho'
      subst q
      have hl1 : i' < cp.length := (List.getElem?_eq_some_iff.mp h1).1
      rw [(List.getElem?_inj hl1 CO.nd).mp (h1.trans h1'.symm)]
  · obtain ⟨o, q, _⟩ := S.moIn C h; rw [hC] at q; cases q
  · rcases slot i sl e with ⟨rfl, rfl⟩ | ⟨i', rfl, j, h1, h2, h3⟩
    · exact hCb
    · simp only [h2]
      intro q
      obtain ⟨_, _, _, rj⟩ := S.var j sl h3
      obtain ⟨o, ho, _⟩ := reads_objs rj _ q
      have : s.heap.get? C = some o := ho
      rw [hC] at this; cases this

theorem comp_core {elt iter : Expr} {x : Str} {xp : Pos} {ifs : List Expr} {scope : Scope} {pos : Pos} {cp : List Nat} {α : Type} {enc : α → PyData} {xs : List α} {k0 : EK} {sk : K} {p : α → Bool} {g : α → PyData}
    (CO : CompOk c f ρ scope x cp) (h : It c f ρ iter (xs.map enc) k0) (hk : Fills3 k0 (xs.map enc) sk) (hsz : xs.length ≤ sizeLine)
    (ht : ∀ C, ∀ el ∈ xs, Ifs c (chFm f scope C x cp) (chRho ρ cp ⟨sk, enc el⟩) ifs (p el))
    (he : ∀ C, ∀ el ∈ xs, p el = true → Ev c (chFm f scope C x cp) (chRho ρ cp ⟨sk, enc el⟩) elt (g el) .fr)
    {RR : Value → Addr → Result → Shared → Prop} (S : St c f ρ mo val fp s)
    (hRR : ∀ D C s' as, Ext c s s' → s.heap.get? D = none → s.heap.get? C = none → D ≠ C → (∃ m, s'.heap.Ns C m) → Reads c.lo s'.toks s'.heap (.ref D) (.list ((xs.filter p).map g)) (D :: as) → (D :: as).Nodup → (∀ a ∈ D :: as, s.heap.get? a = none) → (∀ a ∈ D :: as, Pl s'.heap a) → C ∉ as →
      RR (.ref D) C (.ok .next) s') :
    wpAny c.M f.A (eval iter f.env) (fun xv s₁ => wpAny c.M f.A (pyIter xv) (fun it s₂ => wpAny c.M f.A (newList []) (fun acc s₃ =>
      wpAny c.M f.A (newFunctionEnv scope f.env.globals (clOf f.env scope.names []) [] f.env.qual none .none (some f.env)) (fun cenv s₄ =>
        codeAny c.M f.A (.compStart (.ListComp elt [⟨.Name x xp, iter, ifs, 0⟩] scope pos) 0 it acc { cenv with scope := relabel scope f.env }) (RR acc cenv.locals) s₄) E s₃) E s₂) E s₁) E s := by
  have base := S.ok.base
  refine wpAny_mono (h mo val fp s E S) (fun xv s1 h1 => wpAny_mono h1 (fun it s2 ⟨x2, I, Fp, wr, P, Sx, as0, e, T⟩ => ?_) fun _ _ z => z) fun _ _ z => z
  subst e
  have hW := T.walks
  rw [List.length_map] at hW
  have S2 := S.ext x2
  have wrH0 : ∀ b ∈ wr, f.h₀.get? b = none := fun b hb => S.keep.none (T.new b hb)
  have wrHB : ∀ b ∈ wr, c.hB.get? b = none := fun b hb => base.none (wrH0 b hb)
  have wrX : ∀ b ∈ wr, ¬ c.X b := fun b hb => T.nX b (hW.sub b hb)
  refine wpAny_newList ?_ (by simp)
  refine newEnv_comp ?_
  -- the places
  generalize hD : s2.heap.objs.size = D
  have hDs2 : s2.heap.get? D = none := by rw [← hD]; exact get_size_none _
  have hDs : s.heap.get? D = none := x2.up.none hDs2
  generalize hH3 : s2.heap.push { cls := .type "list", data := .seq ([] : List Value).toArray } = H3
  have hC' : H3.objs.size = D + 1 := by rw [← hH3, Heap.size_push, hD]
  generalize hC : H3.objs.size = C
  have hk3 : ∀ b o, s2.heap.get? b = some o → H3.get? b = some o := fun b o e => by rw [← hH3]; exact Heap.get?_push_of_some _ e
  have hCs3 : H3.get? C = none := by rw [← hC]; exact get_size_none _
  have hCs2 : s2.heap.get? C = none := by
    cases q : s2.heap.get? C with
    | none => rfl
    | some o => rw [hk3 C o q] at hCs3; cases hCs3
  have hCs : s.heap.get? C = none := x2.up.none hCs2
  have hDC : D ≠ C := by rw [← hC, hC']; exact Nat.ne_of_lt (Nat.lt_succ_self _)
  have hDin : H3.get? D = some { cls := .type "list", data := .seq ([] : List Value).toArray } := by rw [← hH3, ← hD]; exact Heap.get?_push_size _ rfl
  show codeAny c.M f.A (.compStart (.ListComp elt [⟨.Name x xp, iter, ifs, 0⟩] scope pos) 0 (.ref I) (.ref D)
    { scope := relabel scope f.env, locals := C, globals := f.env.globals, cells := cellsFrom (C + 1) scope.names (clOf f.env scope.names []), qual := f.env.qual, func := none, code := f.env.code, frame := f.env.frame, builtins := f.env.builtins }) (RR (.ref D) C) _
  change codeAny c.M f.A (.compStart (.ListComp elt [⟨.Name x xp, iter, ifs, 0⟩] scope pos) 0 (.ref I) (.ref D) (chEnv scope C f.env)) (RR (.ref D) C) { s2 with heap := pushCells (H3.push { cls := .type "dict", data := .dict #[] }) scope.names }
  generalize hH4 : pushCells (H3.push { cls := .type "dict", data := .dict #[] }) scope.names = H4
  have hk4 : ∀ b o, H3.get? b = some o → H4.get? b = some o := fun b o e => by rw [← hH4]; exact pushCells_keeps _ _ _ _ (Heap.get?_push_of_some _ e)
  have hk24 : ∀ b o, s2.heap.get? b = some o → H4.get? b = some o := fun b o e => hk4 b o (hk3 b o e)
  have ns4 : H4.Ns C fun _ => none := by rw [← hH4, ← hC]; exact (Heap.Ns.new H3 (.type "dict")).keeps (pushCells_keeps _ _)
  have own4 : ∀ y, (y, NameKind.cell) ∈ scope.names → ∃ a, (chEnv scope C f.env).cells.lookup y = some a ∧ H4.IsCell a none ∧ s2.heap.get? a = none ∧ a ≠ D ∧ a ≠ C := fun y hy => by
    obtain ⟨a, q1, q2, q3⟩ := cellsFrom_own scope.names (H3.push { cls := .type "dict", data := .dict #[] }) (clOf f.env scope.names []) hy
    rw [Heap.size_push, hC] at q1
    rw [hH4] at q2
    have n3 : H3.get? a = none := by
      cases q : H3.get? a with
      | none => rfl
      | some o => rw [Heap.get?_push_of_some _ q] at q3; cases q3
    refine ⟨a, q1, q2, ?_, ?_, ?_⟩
    · cases q : s2.heap.get? a with
      | none => rfl
      | some o => rw [hk3 a o q] at n3; cases n3
    · rintro rfl; rw [hDin] at n3; cases n3
    · rintro rfl
      obtain ⟨o, ho, hd⟩ := q2
      obtain ⟨o2, es, ep, ho2, hd2, _⟩ := ns4
      rw [ho] at ho2; cases ho2; rw [hd] at hd2; cases hd2
  have asIn2 : ∀ a ∈ as0, ∃ o, s2.heap.get? a = some o := fun a ha => let ⟨o, q, _⟩ := T.asIn a ha; ⟨o, q⟩
  -- the loop
  have loop : codeAny c.M f.A (.compLoop (.ListComp elt [⟨.Name x xp, iter, ifs, 0⟩] scope pos) 0 (.ref I) (.ref D) (chEnv scope C f.env)) (RR (.ref D) C) { s2 with heap := H4 } := by
    refine codeAny_compLoop_tests (fun n s' => ∃ j ys m as, j ≤ xs.length ∧ n = xs.length + 1 - j ∧ (Wf c s' ∧ s2.toks ≤ s'.toks) ∧ (∀ b o, b ∉ wr → ¬ c.X b → s2.heap.get? b = some o → s'.heap.get? b = some o) ∧ (∀ b o, b ∉ wr → s2.heap.get? b = some o → ∃ o', s'.heap.get? b = some o') ∧ Sx j s'.heap ∧ (∃ m, s'.heap.Ns C m) ∧
        (∀ y, (y, NameKind.cell) ∈ scope.names → ∀ a, (chEnv scope C f.env).cells.lookup y = some a → ∃ v, s'.heap.IsCell a v) ∧ IsL s'.heap D ys m ∧ ReadsAll c.lo s'.toks s'.heap ys.toList (((xs.take j).filter p).map g) as ∧ as.Nodup ∧
        (∀ a ∈ as, s2.heap.get? a = none ∧ a ≠ D ∧ a ≠ C) ∧ (∀ a ∈ as, Pl s'.heap a)) ?_ (xs.length + 1)
      ⟨0, #[], 0, [], Nat.zero_le _, rfl, ⟨(Ext.of S2.wf (s' := { s2 with heap := H4 }) hk24).wf, Nat.le_refl _⟩, fun b o _ _ q => hk24 b o q, fun b o _ q => ⟨o, hk24 b o q⟩, hW.frame _ _ _ T.start (fun b _ o q => hk24 b o q), ⟨_, ns4⟩,
        fun y hy a q => by obtain ⟨a', q1, q2, _⟩ := own4 y hy; rw [q] at q1; cases q1; exact ⟨_, q2⟩, hk4 _ _ hDin, .nil, .nil, nofun, nofun⟩
    rintro n s' ⟨j, ys, m, as, hj, rfl, ⟨W', hts⟩, hk', th', hSx, hnsC, hcells, hlD, hrD, hnd, hfr, hpl⟩
    have wrF := T.fld j s'.heap hSx
    have notWr : ∀ b o, s'.heap.get? b = some o → (∀ vs, o.data ≠ .fields vs) → b ∉ wr := fun b o q hd hb => by
      obtain ⟨o2, vs, g1, g2⟩ := wrF b hb
      rw [q] at g1; cases g1; exact hd vs g2
    have hDw : D ∉ wr := notWr D _ hlD (by nofun)
    have xs' : Ext c s s' := ⟨Nat.le_trans x2.tk hts, ⟨fun b o hX q => hk' b o (fun hb => by rw [T.new b hb] at q; cases q) hX (x2.up.kp b o hX q), fun b o q => by
        obtain ⟨o', q'⟩ := x2.up.th b o q
        exact th' b o' (fun hb => by rw [T.new b hb] at q; cases q) q'⟩, W'⟩
    by_cases hlt : j < xs.length
    · refine itemT hW j s' _ _ hlt hSx fun v h3 tk htk hP hSx3 hk3' => ?_
      obtain ⟨el, hel⟩ : ∃ el, xs[j]? = some el := ⟨_, List.getElem?_eq_getElem hlt⟩
      have hd : (xs.map enc)[j]? = some (enc el) := by rw [List.getElem?_map, hel]; rfl
      have hdm := List.mem_of_getElem? hel
      obtain ⟨bs, hbs, r2⟩ := T.val j v (enc el) hP hd
      have W3 : Wf c { s' with heap := h3, toks := tk } := W'.but hk3' wrHB wrX htk
      have r3 : Reads c.lo tk h3 v (enc el) bs := by
        refine reads_upon r2 (fun a ha o q hpp => ?_) (fun a o q hc hdd => ?_) (Nat.le_trans hts htk)
        · have hX := not_tab S2.wf q (plainish_cls hpp)
          obtain ⟨o1, g1, g2⟩ := reads_objs r2 a ha
          rw [q] at g1; cases g1
          have hne : ∀ vs, o.data ≠ .fields vs := fun vs h => by rcases g2 with ⟨_, _, _, q⟩ | ⟨_, _, _, q⟩ <;> rw [h] at q <;> cases q
          have hw : a ∉ wr := fun hb => by
            obtain ⟨o2, vs, g3, g4⟩ := T.fld 0 s2.heap T.start a hb
            rw [q] at g3; cases g3; exact hne vs g4
          exact hk3' a o hw (hk' a o hw hX q)
        · have hX := not_tab S2.wf q (by rw [hc]; nofun)
          obtain ⟨vs', n', hdd⟩ := hdd
          have hw : a ∉ wr := fun hb => by
            obtain ⟨o2, vs, g3, g4⟩ := T.fld 0 s2.heap T.start a hb
            rw [q] at g3; cases g3; rw [hdd] at g4; cases g4
          exact hk3' a o hw (hk' a o hw hX q)
      obtain ⟨mC, hmC⟩ := hnsC
      have ns3 : h3.Ns C mC := by
        obtain ⟨o, es, ep, ho, hd', q⟩ := hmC
        exact ⟨o, es, ep, hk3' C o (notWr C o ho (by rw [hd']; nofun)) ho, hd', q⟩
      have cell3 : ∀ {a v}, s'.heap.IsCell a v → h3.IsCell a v := fun ⟨o, ho, hd'⟩ => ⟨o, hk3' _ o (notWr _ o ho (by rw [hd']; nofun)) ho, hd'⟩
      have hlD3 : IsL h3 D ys m := hk3' D _ hDw hlD
      -- the store of the loop's own name
      have hCbs : C ∉ bs := fun q => by obtain ⟨o, ho⟩ := asIn2 C (hbs.subset q); rw [hCs2] at ho; cases ho
      have hDbs : D ∉ bs := fun q => by obtain ⟨o, ho⟩ := asIn2 D (hbs.subset q); rw [hDs2] at ho; cases ho
      -- a state behind the store: one place pc has been changed, C or the cell of x
      have after : ∀ h4 tk4 pc, tk ≤ tk4 → (pc = C ∨ ((x, NameKind.cell) ∈ scope.names ∧ (chEnv scope C f.env).cells.lookup x = some pc)) → Heap.SameBut pc h3 h4 → (∃ m, h4.Ns C m) → (∀ y, (y, NameKind.cell) ∈ scope.names → ∀ a, (chEnv scope C f.env).cells.lookup y = some a → ∃ v, h4.IsCell a v) →
          Loads (chEnv scope C f.env) h4 x v →
          wpAny c.M f.A (forIn ifs true fun c r => if r = true then do let ok ← isTrue c (chEnv scope C f.env) (eval c (chEnv scope C f.env)); pure (ForInStep.yield ok) else pure (ForInStep.yield r)) (fun ok s₃ =>
            if ok = true then wpAny c.M f.A (eval elt (chEnv scope C f.env)) (fun x s₄ =>
              wpAny c.M f.A (call (.builtin "list.append") [.ref D, x]) (fun _ s₅ => ∃ m, m < xs.length + 1 - j ∧ ∃ j ys m_1 as, j ≤ xs.length ∧ m = xs.length + 1 - j ∧ (Wf c s₅ ∧ s2.toks ≤ s₅.toks) ∧ (∀ b o, b ∉ wr → ¬ c.X b → s2.heap.get? b = some o → s₅.heap.get? b = some o) ∧ (∀ b o, b ∉ wr → s2.heap.get? b = some o → ∃ o', s₅.heap.get? b = some o') ∧ Sx j s₅.heap ∧ (∃ m, s₅.heap.Ns C m) ∧
        (∀ y, (y, NameKind.cell) ∈ scope.names → ∀ a, (chEnv scope C f.env).cells.lookup y = some a → ∃ v, s₅.heap.IsCell a v) ∧ IsL s₅.heap D ys m_1 ∧ ReadsAll c.lo s₅.toks s₅.heap ys.toList (((xs.take j).filter p).map g) as ∧ as.Nodup ∧
        (∀ a ∈ as, s2.heap.get? a = none ∧ a ≠ D ∧ a ≠ C) ∧ (∀ a ∈ as, Pl s₅.heap a)) (notedBy c.M f.A (chEnv scope C f.env) fun e s' => RR (.ref D) C (.error e) s') s₄) (notedBy c.M f.A (chEnv scope C f.env) fun e s' => RR (.ref D) C (.error e) s') s₃
            else ∃ m, m < xs.length + 1 - j ∧ ∃ j ys m_1 as, j ≤ xs.length ∧ m = xs.length + 1 - j ∧ (Wf c s₃ ∧ s2.toks ≤ s₃.toks) ∧ (∀ b o, b ∉ wr → ¬ c.X b → s2.heap.get? b = some o → s₃.heap.get? b = some o) ∧ (∀ b o, b ∉ wr → s2.heap.get? b = some o → ∃ o', s₃.heap.get? b = some o') ∧ Sx j s₃.heap ∧ (∃ m, s₃.heap.Ns C m) ∧
        (∀ y, (y, NameKind.cell) ∈ scope.names → ∀ a, (chEnv scope C f.env).cells.lookup y = some a → ∃ v, s₃.heap.IsCell a v) ∧ IsL s₃.heap D ys m_1 ∧ ReadsAll c.lo s₃.toks s₃.heap ys.toList (((xs.take j).filter p).map g) as ∧ as.Nodup ∧
        (∀ a ∈ as, s2.heap.get? a = none ∧ a ≠ D ∧ a ≠ C) ∧ (∀ a ∈ as, Pl s₃.heap a)) (notedBy c.M f.A (chEnv scope C f.env) fun e s' => RR (.ref D) C (.error e) s') { s' with heap := h4, toks := tk4 } := by
        intro h4 tk4 pc htk4 hpc hsb ns4' cells4 ld4
        have pcObj : ∃ o, h3.get? pc = some o ∧ ((∃ es n, o.data = .dict es n) ∨ ∃ v, o.data = .cell v) := by
          rcases hpc with rfl | ⟨hx, hl⟩
          · obtain ⟨o, es, ep, ho, hd', _⟩ := ns3; exact ⟨o, ho, .inl ⟨es, ep, hd'⟩⟩
          · obtain ⟨v0, q⟩ := hcells x hx pc hl
            obtain ⟨o, ho, hd'⟩ := cell3 q; exact ⟨o, ho, .inr ⟨v0, hd'⟩⟩
        have pcNew : s2.heap.get? pc = none := by
          rcases hpc with rfl | ⟨hx, hl⟩
          · exact hCs2
          · obtain ⟨a, q1, _, q3, _⟩ := own4 x hx; rw [hl] at q1; cases q1; exact q3
        have pcD : pc ≠ D := by
          rcases hpc with rfl | ⟨hx, hl⟩
          · exact hDC.symm
          · obtain ⟨a, q1, _, _, q4, _⟩ := own4 x hx; rw [hl] at q1; cases q1; exact q4
        have pcX : ¬ c.X pc := fun hx => by
          obtain ⟨o, ho, hd'⟩ := pcObj
          obtain ⟨ps, q⟩ := W3.tab pc hx
          rw [show ({ s' with heap := h3, toks := tk } : Shared).heap.get? pc = some o from ho] at q; cases q
          rcases hd' with ⟨_, _, h⟩ | ⟨_, h⟩ <;> cases h
        have pcB : c.hB.get? pc = none := base.none (S.keep.none (x2.up.none pcNew))
        have W4 : Wf c { s' with heap := h4, toks := tk4 } := W3.sameBut hsb pcB pcX htk4
        have k34 : ∀ b o, b ≠ pc → h3.get? b = some o → h4.get? b = some o := fun b o hb q => (hsb.2 b hb).trans q
        have k24 : ∀ b o, b ∉ wr → ¬ c.X b → s2.heap.get? b = some o → h4.get? b = some o := fun b o hb hX q => k34 b o (fun h => by rw [h, pcNew] at q; cases q) (hk3' b o hb (hk' b o hb hX q))
        have th24 : ∀ b o, b ∉ wr → s2.heap.get? b = some o → ∃ o', h4.get? b = some o' := fun b o hb q => by
          obtain ⟨o', q'⟩ := th' b o hb q
          exact ⟨o', k34 b o' (fun h => by rw [h, pcNew] at q; cases q) (hk3' b o' hb q')⟩
        have x4 : Ext c s { s' with heap := h4, toks := tk4 } := ⟨Nat.le_trans x2.tk (Nat.le_trans hts (Nat.le_trans htk htk4)), ⟨fun b o hX q => k24 b o (fun hb => by rw [T.new b hb] at q; cases q) hX (x2.up.kp b o hX q), fun b o q => by
            obtain ⟨o', q'⟩ := x2.up.th b o q
            exact th24 b o' (fun hb => by rw [T.new b hb] at q; cases q) q'⟩, W4⟩
        have pcbs : pc ∉ bs := fun q => by obtain ⟨o, ho⟩ := asIn2 pc (hbs.subset q); rw [pcNew] at ho; cases ho
        have pcT : ∀ o, h3.get? pc = some o → ¬ (∃ vs n, o.data = .seq vs n) := fun o q ⟨vs, n, hd2⟩ => by
          obtain ⟨o2, ho2, hd3⟩ := pcObj
          rw [q] at ho2; cases ho2
          rcases hd3 with ⟨_, _, h⟩ | ⟨_, h⟩ <;> rw [hd2] at h <;> cases h
        have rd4 : ∀ {v d bs}, pc ∉ bs → Reads c.lo tk h3 v d bs → Reads c.lo tk4 h4 v d bs := fun hn r =>
          reads_upon r (fun b hb o q _ => k34 b o (fun h => hn (h ▸ hb)) q) (fun b o q _ hdd => k34 b o (fun h => pcT o (h ▸ q) hdd) q)
        have r4 := rd4 pcbs r3
        have hsk := hk.ne
        have okBs : (∀ a ∈ bs, ¬ mo a) ∧ (sk = .lo → ∀ a ∈ bs, f.h₀.get? a = none) := by
          have ko := T.ok
          cases hk with
          | sh => exact ⟨fun a ha => ko.2 a (hbs.subset ha), by nofun⟩
          | lo => exact ⟨fun a ha => (ko.2 a (hbs.subset ha)).1, fun _ a ha => (ko.2 a (hbs.subset ha)).2⟩
          | fr => exact ⟨fun a ha => ((KOk.fr_lo S ko).2 a (hbs.subset ha)).1, fun _ a ha => ((KOk.fr_lo S ko).2 a (hbs.subset ha)).2⟩
          | flat hf _ => rw [reads_flat r2 (hf (enc el) (List.mem_map_of_mem hdm))]; exact ⟨nofun, fun _ => nofun⟩
        have CS := child_St (sk := sk) CO S x4 hCs ns4' cells4 ld4 r4 hsk okBs.1 okBs.2 hCbs
        have hSx4 : Sx (j + 1) h4 := hW.frame _ _ _ hSx3 fun b hb o q => k34 b o (fun h => by obtain ⟨o', q'⟩ := T.inH b hb; rw [h, pcNew] at q'; cases q') q
        have hlD4 : IsL h4 D ys m := k34 D _ (Ne.symm pcD) hlD3
        have wrF3 := T.fld (j + 1) h3 hSx3
        have rD4 : ReadsAll c.lo tk4 h4 ys.toList (((xs.take j).filter p).map g) as := by
          have hrD3 : ReadsAll c.lo tk h3 ys.toList (((xs.take j).filter p).map g) as := readsAll_upon hrD (fun a ha o q hpl' => hk3' a o (notWr a o q (by
              obtain ⟨o1, g1, g2⟩ := readsAll_objs hrD a ha
              rw [q] at g1; cases g1
              rcases g2 with ⟨_, _, _, h⟩ | ⟨_, _, _, h⟩ <;> rw [h] <;> nofun)) q) (fun a o q _ hdd => hk3' a o (notWr a o q (by obtain ⟨_, _, h⟩ := hdd; rw [h]; nofun)) q)
          refine readsAll_upon hrD3 (fun a ha o q _ => k34 a o (fun h => ?_) q) (fun b o q _ hdd => k34 b o (fun h => pcT o (h ▸ q) hdd) q)
          subst h
          obtain ⟨o1, g1, g2⟩ := readsAll_objs hrD3 a ha
          obtain ⟨o2, ho2, hd3⟩ := pcObj
          rw [g1] at ho2; cases ho2
          rcases hpc with rfl | ⟨hx, hl⟩
          · exact (hfr _ ha).2.2 rfl
          · obtain ⟨v0, q0⟩ := hcells x hx a hl
            obtain ⟨o3, g3, g4⟩ := cell3 q0
            rw [g1] at g3; cases g3
            rcases g2 with ⟨_, _, _, h⟩ | ⟨_, _, _, h⟩ <;> rw [g4] at h <;> cases h
        have pl4 : ∀ a ∈ as, Pl h4 a := fun a ha => by
          obtain ⟨o, q, ql, qd⟩ := hpl a ha
          have hne : ∀ vs, o.data ≠ .fields vs := fun vs h => by rcases ql with ⟨_, _, _, q⟩ | ⟨_, _, _, q⟩ <;> rw [h] at q <;> cases q
          have q3 := hk3' a o (notWr a o q hne) q
          refine ⟨o, k34 a o (fun h => ?_) q3, ql, qd⟩
          subst h
          rcases hpc with rfl | ⟨hx, hl⟩
          · exact (hfr _ ha).2.2 rfl
          · obtain ⟨v0, q0⟩ := hcells x hx a hl
            obtain ⟨o3, g3, g4⟩ := cell3 q0
            rw [q3] at g3; cases g3
            rcases ql with ⟨_, _, _, h⟩ | ⟨_, _, _, h⟩ <;> rw [g4] at h <;> cases h
        have tk1 : xs.take (j + 1) = xs.take j ++ [el] := by rw [List.take_add_one, hel]; rfl
        refine wpAny_mono (ht C el hdm _ _ _ _ _ CS) (fun ok s5 ⟨e5, x5⟩ => ?_) fun _ _ z => z
        subst e5
        have inv5 : ∀ s6 : Shared, Ext c { s' with heap := h4, toks := tk4 } s6 → (∀ b o, b ∉ wr → ¬ c.X b → s2.heap.get? b = some o → s6.heap.get? b = some o) ∧ (∀ b o, b ∉ wr → s2.heap.get? b = some o → ∃ o', s6.heap.get? b = some o') ∧ Sx (j + 1) s6.heap ∧ (∃ m, s6.heap.Ns C m) ∧
            (∀ y, (y, NameKind.cell) ∈ scope.names → ∀ a, (chEnv scope C f.env).cells.lookup y = some a → ∃ v, s6.heap.IsCell a v) ∧ IsL s6.heap D ys m ∧ ReadsAll c.lo s6.toks s6.heap ys.toList (((xs.take j).filter p).map g) as ∧ (∀ a ∈ as, Pl s6.heap a) := fun s6 x6 =>
          ⟨fun b o hb hX q => x6.up.kp b o hX (k24 b o hb hX q), fun b o hb q => let ⟨o', q'⟩ := th24 b o hb q; x6.up.th b o' q', hW.frame _ _ _ hSx4 fun b hb o q => x6.up.kp b o (T.nX b hb) q, let ⟨m, n⟩ := ns4'; ⟨m, Ns.ext W4 x6 n⟩, fun y hy a q => let ⟨v, n⟩ := cells4 y hy a q; ⟨v, IsCell.ext W4 x6 n⟩, listOrDict_ext W4 x6 hlD4 (.inl ⟨rfl, _, _, rfl⟩), x6.readsAll W4 rD4, fun a ha => (pl4 a ha).ext W4 x6⟩
        cases hpd : p el with
        | false =>
          rw [if_neg (by simp)]
          obtain ⟨i1, i2, i3, i4, i5, i6, i7, i8⟩ := inv5 s5 x5
          refine ⟨xs.length + 1 - (j + 1), by omega, j + 1, ys, m, as, by omega, rfl, ⟨x5.wf, Nat.le_trans hts (Nat.le_trans htk (Nat.le_trans htk4 x5.tk))⟩, i1, i2, i3, i4, i5, i6, ?_, hnd, hfr, i8⟩
          rw [tk1, List.filter_append, List.filter_cons_of_neg (by simp [hpd])]
          simpa using i7
        | true =>
          rw [if_pos rfl]
          have CS5 := CS.ext x5
          refine (he C el hdm hpd).bind CS5 fun w s6 cs x6 _ r6 ko6 => ?_
          have x46 := x5.trans x6
          obtain ⟨i1, i2, i3, i4, i5, i6, i7, i8⟩ := inv5 s6 x46
          have hysz : ys.size ≤ sizeLine := by
            have e1 := readsAll_length i7
            have e2 : ((xs.take j).filter p).length ≤ (xs.take j).length := List.length_filter_le _ _
            have e3 : (xs.take j).length ≤ xs.length := by rw [List.length_take]; omega
            simp at e1
            omega
          refine wpAny_list_append_plain (hsz := hysz) ⟨m, i6⟩ fun h7 hl7 hs7 => ?_
          obtain ⟨m7, hl7⟩ := hl7
          have cs6 : ∀ a ∈ cs, h4.get? a = none := fun a ha => x5.up.none (ko6.2.2.1 a ha)
          have csD : D ∉ cs := fun q => by have := cs6 D q; rw [hlD4] at this; cases this
          have hDas : D ∉ as := fun q => (hfr D q).2.1 rfl
          have nd6 : (as ++ cs).Nodup := List.nodup_append.mpr ⟨hnd, ko6.2.1, fun a ha b hb q => by
            subst q; obtain ⟨o, q, _⟩ := pl4 a ha; rw [cs6 a hb] at q; cases q⟩
          have keep7 : ∀ b o, b ≠ D → s6.heap.get? b = some o → h7.get? b = some o := fun b o hb q => (hs7.2 b hb).trans q
          have wrD : ∀ b ∈ Fp, b ≠ D := fun b hb q => by obtain ⟨o, q'⟩ := T.inH b hb; rw [q, hDs2] at q'; cases q'
          have hX6 : ¬ c.X D := not_tab x46.wf i6 (by nofun)
          refine ⟨xs.length + 1 - (j + 1), by omega, j + 1, ys.push w, m7, as ++ cs, by omega, rfl, ?_, fun b o hb hX q => keep7 b o (fun h => by rw [h, hDs2] at q; cases q) (i1 b o hb hX q),
            fun b o hb q => let ⟨o', q'⟩ := i2 b o hb q; ⟨o', keep7 b o' (fun h => by rw [h, hDs2] at q; cases q) q'⟩, hW.frame _ _ _ i3 fun b hb o q => keep7 b o (wrD b hb) q, ?_, ?_, hl7, ?_, nd6, fun a ha => ?_, fun a ha => ?_⟩
          · exact ⟨x46.wf.sameBut (tk := s6.toks) hs7 (base.none (S.keep.none hDs)) hX6, Nat.le_trans hts (Nat.le_trans htk (Nat.le_trans htk4 x46.tk))⟩
          · obtain ⟨m', n'⟩ := i4; exact ⟨m', n'.sameBut hs7 hDC.symm⟩
          · intro y hy a q
            obtain ⟨v', n'⟩ := i5 y hy a q
            obtain ⟨a', q1, _, _, q4, _⟩ := own4 y hy
            rw [q] at q1; cases q1
            exact ⟨v', n'.sameBut hs7 q4⟩
          · have e1 : (((xs.take (j + 1)).filter p).map g) = ((xs.take j).filter p).map g ++ [g el] := by
              rw [tk1, List.filter_append, List.filter_cons_of_pos hpd, List.map_append]; rfl
            rw [e1, Array.toList_push]
            exact readsAll_snoc (readsAll_but hs7 (isL_notTup i6) hDas i7) (reads_but hs7 (isL_notTup i6) csD r6)
          · rcases List.mem_append.mp ha with q | q
            · exact hfr a q
            · refine ⟨?_, fun h => csD (h ▸ q), fun h => ?_⟩
              · cases e2 : s2.heap.get? a with
                | none => rfl
                | some o =>
                  by_cases hw : a ∈ wr
                  · obtain ⟨o2, vs, g1, _⟩ := T.fld (j + 1) h4 hSx4 a hw
                    have := cs6 a q; rw [g1] at this; cases this
                  · obtain ⟨o', g1⟩ := th24 a o hw e2
                    have := cs6 a q; rw [g1] at this; cases this
              · obtain ⟨m', o, _, _, ho, _⟩ := ns4'
                have := cs6 a q; rw [h, ho] at this; cases this
          · have q : Pl s6.heap a := (List.mem_append.mp ha).elim (i8 a) (ko6.2.2.2 a)
            obtain ⟨o, q1, q2⟩ := q
            exact ⟨o, keep7 a o (fun h => (List.mem_append.mp ha).elim (fun q => hDas (h ▸ q)) fun q => csD (h ▸ q)) q1, q2⟩
      rcases CO.loopv with hxl | ⟨hxl, hxm⟩
      · have hkl : (chEnv scope C f.env).kindOf x = some .local := lookup_relabel_local hxl
        refine wpAny_assign_Name (wpAny_storeName_local hkl ns3 (fun h4 hn4 hs4 => ?_) (by show ((relabel scope f.env).kind == .class || ((relabel scope f.env).kind == .module && _)) = false; rw [show (relabel scope f.env).kind = .function from CO.kind]; rfl))
        refine after h4 _ C (by first | exact Nat.le_refl _ | exact Nat.le_succ _ | assumption | omega | (simp only; omega)) (.inl rfl) hs4 ⟨_, hn4⟩ (fun y hy a q => ?_) (.inl ⟨hkl, _, hn4, by simp⟩)
        obtain ⟨v0, n0⟩ := hcells y hy a q
        obtain ⟨a', q1, _, _, _, q5⟩ := own4 y hy
        rw [q] at q1; cases q1
        exact ⟨v0, (cell3 n0).sameBut hs4 q5⟩
      · have hkl : (chEnv scope C f.env).kindOf x = some .cell := by
          rcases relabel_lookup (env := f.env) hxl with h | ⟨_, h⟩ <;> exact h
        obtain ⟨a, q1, _, _, q4, q5⟩ := own4 x hxm
        obtain ⟨v0, n0⟩ := hcells x hxm a q1
        refine wpAny_assign_Name (wpAny_storeName_cell (show (relabel scope f.env).kind = .function from CO.kind) hkl q1 (cell3 n0) fun h4 hv4 hs4 => ?_)
        refine after h4 _ a (by first | exact Nat.le_refl _ | exact Nat.le_succ _ | assumption | omega | (simp only; omega)) (.inr ⟨hxm, q1⟩) hs4 ⟨_, ns3.sameBut hs4 q5.symm⟩ (fun y hy b q => ?_) (.inr ⟨.inl hkl, a, q1, hv4⟩)
        by_cases hb : b = a
        · subst hb; exact ⟨_, hv4⟩
        · obtain ⟨v1, n1⟩ := hcells y hy b q
          exact ⟨v1, (cell3 n1).sameBut hs4 hb⟩
    · have hj' : j = xs.length := by omega
      subst hj'
      refine doneT hW s' _ _ hSx fun h3 tk htk hk3' => ?_
      rw [List.take_length] at hrD
      have W3 : Wf c { s' with heap := h3, toks := tk } := W'.but hk3' wrHB wrX htk
      have x3 : Ext c s { s' with heap := h3, toks := tk } := ⟨Nat.le_trans xs'.tk htk, ⟨fun b o hX q => hk3' b o (fun hb => by rw [T.new b hb] at q; cases q) (xs'.up.kp b o hX q), fun b o q => by
          obtain ⟨o', q'⟩ := xs'.up.th b o q
          exact ⟨o', hk3' b o' (fun hb => by rw [T.new b hb] at q; cases q) q'⟩⟩, W3⟩
      have nsE : ∃ m, h3.Ns C m := by
        obtain ⟨mC, o, es, ep, ho, hd', q⟩ := hnsC
        exact ⟨mC, o, es, ep, hk3' C o (notWr C o ho (by rw [hd']; nofun)) ho, hd', q⟩
      have hlD3 : IsL h3 D ys m := hk3' D _ hDw hlD
      have hrD3 : ReadsAll c.lo tk h3 ys.toList ((xs.filter p).map g) as := readsAll_upon hrD (fun a ha o q hpl' => hk3' a o (notWr a o q (by
          obtain ⟨o1, g1, g2⟩ := readsAll_objs hrD a ha
          rw [q] at g1; cases g1
          rcases g2 with ⟨_, _, _, h⟩ | ⟨_, _, _, h⟩ <;> rw [h] <;> nofun)) q) (fun a o q _ hdd => hk3' a o (notWr a o q (by obtain ⟨_, _, h⟩ := hdd; rw [h]; nofun)) q)
      refine hRR D C _ as x3 hDs hCs hDC nsE (.list hlD3 rfl rfl hrD3) (List.nodup_cons.mpr ⟨fun q => (hfr D q).2.1 rfl, hnd⟩) (fun a ha => ?_) (fun a ha => ?_) (fun q => (hfr C q).2.2 rfl)
      · rcases List.mem_cons.mp ha with rfl | ha
        · exact hDs
        · exact x2.up.none (hfr a ha).1
      · rcases List.mem_cons.mp ha with rfl | ha
        · exact Pl.of_isL hlD3
        · obtain ⟨o, q, ql, qd⟩ := hpl a ha
          exact ⟨o, hk3' a o (notWr a o q (fun vs h => by rcases ql with ⟨_, _, _, q⟩ | ⟨_, _, _, q⟩ <;> rw [h] at q <;> cases q)) q, ql, qd⟩
  exact codeAny_compStart_list loop (hW.self 0 _ _ _ (hW.frame _ _ _ T.start fun b _ o q => hk24 b o q) loop)

theorem ns_notSeq {h : Heap} {C : Addr} {m : Str → Option Value} (n : h.Ns C m) {o : Obj} (q : h.get? C = some o) : ¬ ∃ vs n, o.data = .seq vs n := by
  obtain ⟨o2, es, ep, ho, hd, _⟩ := n
  rw [q] at ho; cases ho
  rintro ⟨vs, n, h⟩; rw [hd] at h; cases h

theorem ev_comp {elt iter : Expr} {x : Str} {xp : Pos} {ifs : List Expr} {scope : Scope} {pos : Pos} {cp : List Nat} {α : Type} {enc : α → PyData} {xs : List α} {k0 : EK} {sk : K} {p : α → Bool} {g : α → PyData}
    (CO : CompOk c f ρ scope x cp) (h : It c f ρ iter (xs.map enc) k0) (hk : Fills3 k0 (xs.map enc) sk) (hsz : xs.length ≤ sizeLine)
    (ht : ∀ C, ∀ el ∈ xs, Ifs c (chFm f scope C x cp) (chRho ρ cp ⟨sk, enc el⟩) ifs (p el))
    (he : ∀ C, ∀ el ∈ xs, p el = true → Ev c (chFm f scope C x cp) (chRho ρ cp ⟨sk, enc el⟩) elt (g el) .fr)
    (hs : ∀ env x, foldedSetIterable iter env x = pure x := by intro _ _; rfl) :
    Ev c f ρ (.ListComp elt [⟨.Name x xp, iter, ifs, 0⟩] scope pos) (.list ((xs.filter p).map g)) .fr := fun mo val fp s E S => by
  rw [eval_ListComp]
  refine wpAny_comprehension_free (use := none) rfl (hs _) (closureFor_eq CO.free) CO.kind CO.names (comp_core (RR := fun acc C => compPost c.M f.A E none _ acc C) CO h hk hsz ht he S ?_)
  intro D C s' as x1 hD hC hDC hns r nd fr pl hCas
  obtain ⟨m, hm⟩ := hns
  refine ⟨m, hm, fun h' hs' => ?_⟩
  have hCD : C ∉ D :: as := fun q => (List.mem_cons.mp q).elim (fun h => hDC h.symm) hCas
  have hX : ¬ c.X C := fun hx => by
    obtain ⟨ps, q⟩ := x1.wf.tab C hx
    obtain ⟨o, es, ep, ho, hd, _⟩ := hm
    rw [q] at ho; cases ho; cases hd
  refine ⟨⟨x1.tk, ⟨fun b o hXb q => (hs'.2 b fun h => by rw [h, hC] at q; cases q).trans (x1.up.kp b o hXb q), fun b o q => by
      obtain ⟨o', q'⟩ := x1.up.th b o q
      exact ⟨o', (hs'.2 b fun h => by rw [h, hC] at q; cases q).trans q'⟩⟩, x1.wf.sameBut hs' (S.ok.base.none (S.keep.none hC)) hX⟩, D :: as, ?_, frOk S nd fr fun a ha => ?_⟩
  · exact reads_upon r (fun b hb o q _ => (hs'.2 b fun h => hCD (h ▸ hb)).trans q) (fun b o q _ hdd => (hs'.2 b fun h => ns_notSeq hm (h ▸ q) hdd).trans q)
  · obtain ⟨o, q, r⟩ := pl a ha
    exact ⟨o, (hs'.2 a fun h => hCD (h ▸ ha)).trans q, r⟩

/-- x = [..]: the store comes ahead of the comprehension's end -/
theorem ex_assign_comp {elt iter : Expr} {x y : Str} {xp yp : Pos} {ifs : List Expr} {scope : Scope} {pos spos : Pos} {cp : List Nat} {α : Type} {enc : α → PyData} {xs : List α} {k0 : EK} {sk : K} {p : α → Bool} {g : α → PyData} {i : Nat} {Q : Fl → Rho → Prop}
    (FS : FmS c f) (hy : f.xs[i]? = some y) (hi : i < ρ.length) (CO : CompOk c f ρ scope x cp) (h : It c f ρ iter (xs.map enc) k0) (hk : Fills3 k0 (xs.map enc) sk) (hsz : xs.length ≤ sizeLine)
    (ht : ∀ C, ∀ el ∈ xs, Ifs c (chFm f scope C x cp) (chRho ρ cp ⟨sk, enc el⟩) ifs (p el))
    (he : ∀ C, ∀ el ∈ xs, p el = true → Ev c (chFm f scope C x cp) (chRho ρ cp ⟨sk, enc el⟩) elt (g el) .fr)
    (hsw : swapsWith (.ListComp elt [⟨.Name x xp, iter, ifs, 0⟩] scope pos) (some (.Name y yp)) spos.line f.env = pure true)
    (hQ : Q .next (ρ.set i (some ⟨.ow, .list ((xs.filter p).map g)⟩)))
    (hs : ∀ env x, foldedSetIterable iter env x = pure x := by intro _ _; rfl) :
    Ex1 c f (.Assign [.Name y yp] (.ListComp elt [⟨.Name x xp, iter, ifs, 0⟩] scope pos) spos) ρ Q := fun mo val fp s S => by
  rw [exec_Assign_Name_used _ _ _ _ hsw]
  refine wpAny_bind (wpAny_standAt (wpAny_bind ?_))
  show wpAny _ f.A (do let _ ← comprehension (.ListComp elt [⟨.Name x xp, iter, ifs, 0⟩] scope pos) scope f.env _ (newList []) false (eval iter f.env) (some (assign (.Name y yp) f.env))) _ _ s
  refine wpAny_bind (wpAny_mono (wpAny_comprehension_free (use := some (assign (.Name y yp) f.env)) (Q := fun _ s' => Post c f mo s Q .next s') rfl (hs _) (closureFor_eq CO.free) CO.kind CO.names
    (comp_core (RR := fun acc C => compPost c.M f.A _ (some (assign (.Name y yp) f.env)) _ acc C) CO h hk hsz ht he S ?_)) (fun _ s' hq => wpAny_pure (wpAny_pure hq)) fun _ _ z => z)
  intro D C s' as x1 hD hC hDC hns r nd fr pl hCas
  obtain ⟨m, hm⟩ := hns
  have S1 := S.ext x1
  have hCD : C ∉ D :: as := fun q => (List.mem_cons.mp q).elim (fun h => hDC h.symm) hCas
  have fpIn : ∀ j sl, ρ[j]? = some (some sl) → ∀ a ∈ fp j, ∃ o, s.heap.get? a = some o := fun j sl e a ha => by
    obtain ⟨_, _, _, r⟩ := S.var j sl e
    obtain ⟨o, ho, _⟩ := reads_objs r a ha; exact ⟨o, ho⟩
  have hCL : C ≠ f.env.locals := fun q => by obtain ⟨_, o, _, _, ho, _⟩ := S.ns; rw [← q, hC] at ho; cases ho
  have hCP : ¬ Pv f C := fun hp => by obtain ⟨o, q, _⟩ := pv_obj S hp; rw [hC] at q; cases q
  have hL : f.env.locals ∉ D :: as := fun q => by obtain ⟨_, o, _, _, ho, _⟩ := S.ns; rw [fr _ q] at ho; cases ho
  have hX : ¬ c.X C := fun hx => by
    obtain ⟨ps, q⟩ := x1.wf.tab C hx
    obtain ⟨o, es, ep, ho, hd, _⟩ := hm
    rw [q] at ho; cases ho; cases hd
  show wpAny c.M f.A (assign (.Name y yp) f.env (.ref D)) _ _ _
  refine wpAny_assign_Name (store_step (sl := ⟨.ow, .list ((xs.filter p).map g)⟩) FS S1 hy hi r hL ?_ fun s2 S2 hk2 th2 => ?_)
  · refine ⟨nd, fun a ha => ⟨fun hm => ?_, S.keep.none (fr a ha)⟩, fun j sl _ e a ha q => ?_, pl⟩
    · obtain ⟨o, q, _⟩ := S.moIn a hm; rw [fr a ha] at q; cases q
    · obtain ⟨o, q'⟩ := fpIn j sl e a ha; rw [fr a q] at q'; cases q'
  · obtain ⟨oC, esC, epC, hoC, hdC, rC⟩ := hm
    have hoC2 := hk2 C oC hCP hoC
    refine ⟨m, ⟨oC, esC, epC, hoC2, hdC, rC⟩, fun h' hs' => ?_⟩
    have nm : (C : Addr) ∉ D :: as := hCD
    have notSeq : ∀ {b o}, s2.heap.get? b = some o → (∃ vs n, o.data = .seq vs n) → b ≠ C := fun {b o} q hd h => by
      rw [h, hoC2] at q; cases q; obtain ⟨_, _, hd⟩ := hd; rw [hdC] at hd; cases hd
    have mo2 : ∀ a, moWith mo .ow (D :: as) a → a ≠ C := fun a ha h => by
      rcases ha with ha | ⟨_, ha⟩
      · obtain ⟨o, q, _⟩ := S.moIn a ha; rw [h, hC] at q; cases q
      · exact hCD (h ▸ ha)
    have fp2 : ∀ j sl, (ρ.set i (some ⟨.ow, .list ((xs.filter p).map g)⟩))[j]? = some (some sl) → C ∉ upd fp i (D :: as) j := fun j sl e => by
      by_cases hj : j = i
      · subst hj; rw [upd_self]; exact hCD
      · rw [upd_ne _ _ _ hj]
        rw [List.getElem?_set, if_neg (fun q => hj q.symm)] at e
        intro q; obtain ⟨o, q'⟩ := fpIn j sl e C q; rw [hC] at q'; cases q'
    have keep' : ∀ b o, b ≠ C → s2.heap.get? b = some o → h'.get? b = some o := fun b o hb q => (hs'.2 b hb).trans q
    have cellNe : ∀ {a v}, s2.heap.IsCell a v → a ≠ C := fun ⟨o, ho, hd⟩ q => by
      rw [q, hoC2] at ho; cases ho; rw [hdC] at hd; cases hd
    refine ⟨.next, _, _, _, _, trivial, (?_ : St c f (ρ.set i (some ⟨.ow, .list ((xs.filter p).map g)⟩)) (moWith mo .ow (D :: as)) (upd val i (.ref D)) (upd fp i (D :: as)) { s2 with heap := h' }), ⟨fun b o h1 h2 h3 q => ?_, fun b o q => ?_, fun b h => ?_⟩, hQ⟩
    · refine ⟨S2.wf.sameBut (tk := s2.toks) hs' (S.ok.base.none (S.keep.none hC)) hX, S2.ok, ⟨fun b o hXb q => ?_, fun b o q => ?_⟩, ?_, fun z a q => ?_, fun j sl e => ?_, S2.own, S2.shr, S2.loc, S2.apart, S2.moNew, fun a ha => ?_, S2.moL, S2.fpL⟩
      · exact keep' b o (fun h => by have := S.keep.none hC; rw [← h, q] at this; cases this) (S2.keep.kp b o hXb q)
      · obtain ⟨o', q'⟩ := S2.keep.th b o q
        exact ⟨o', keep' b o' (fun h => by have := S.keep.none hC; rw [← h, q] at this; cases this) q'⟩
      · obtain ⟨m2, o, es, ep, ho, q⟩ := S2.ns
        exact ⟨m2, o, es, ep, keep' _ o hCL.symm ho, q⟩
      · obtain ⟨v0, n0⟩ := S2.cells z a q
        have hne := cellNe n0
        obtain ⟨o, ho, hd⟩ := n0
        exact ⟨v0, o, keep' a o hne ho, hd⟩
      · obtain ⟨z, g1, g2, g3⟩ := S2.var j sl e
        refine ⟨z, g1, ?_, reads_upon g3 (fun b hb o q _ => keep' b o (fun h => fp2 j sl e (h ▸ hb)) q) (fun b o q _ hdd => keep' b o (notSeq q hdd) q)⟩
        rcases g2 with ⟨k1, m2, ⟨o, es, ep, ho, q⟩, k3⟩ | ⟨k1, a, k2, k3⟩
        · exact .inl ⟨k1, m2, ⟨o, es, ep, keep' _ o hCL.symm ho, q⟩, k3⟩
        · have hne := cellNe k3
          obtain ⟨o, ho, hd⟩ := k3
          exact .inr ⟨k1, a, k2, o, keep' a o hne ho, hd⟩
      · obtain ⟨o, q, r⟩ := S2.moPl a ha
        exact ⟨o, keep' a o (mo2 a ha) q, r⟩
    · exact keep' b o (fun h => by rw [h, hC] at q; cases q) (hk2 b o h2 (x1.up.kp b o h1 q))
    · obtain ⟨o1, q1⟩ := x1.up.th b o q
      obtain ⟨o2, q2⟩ := th2 b o1 q1
      exact ⟨o2, keep' b o2 (fun h => by rw [h, hC] at q; cases q) q2⟩
    · exact h.imp id fun q => fr b q.2
end
end Mine

namespace Mine
open PySem PySem.Spec PySem.Calls PyProof.Rows

noncomputable def typeNm : PyData → String
  | .none => "NoneType"
  | .bool _ => "bool"
  | .int _ => "int"
  | .str _ => "str"
  | .list _ => "list"
  | .tuple _ => "tuple"
  | .dict kvs => if isFlt kvs = true then "float" else "dict"

section
variable {c : Cx} {f : Fm} {ρ : Rho} {mo : Addr → Prop} {val : Nat → Value} {fp : Nat → List Addr} {s : Shared} {E : Value → Shared → Prop}
  {e l r : Expr} {d : PyData} {k k1 k2 : EK} {pos np np2 p2 : Pos} {a b : Int} {xs ys : List PyData}

/-! a loop over a typed list -/
theorem ex_forT {α : Type} {enc : α → PyData} {ls : List α} {Q : Fl → Rho → Prop} {body : List Stmt} {x : Str} {xp : Pos} {iter : Expr} {i : Nat} {sk : K} (FS : FmS c f) (hx : f.xs[i]? = some x) (h : It c f ρ iter (ls.map enc) k) (hk : Fills2 k (ls.map enc) sk)
    (J : Nat → Rho → Prop) (h0 : J 0 ρ)
    (hb : ∀ j el ρ', ls[j]? = some el → J j ρ' → i < ρ'.length ∧ Ex c f body (ρ'.set i (some ⟨sk, enc el⟩)) (loopQ (J (j + 1)) Q))
    (hend : ∀ ρ', J ls.length ρ' → Q .next ρ') (hs : ∀ env x, foldedSetIterable iter env x = pure x := by intro _ _; rfl) : Ex1 c f (.For (.Name x xp) iter body [] pos) ρ Q := by
  refine ex_for FS hx h hk J h0 (fun j d ρ' hd hJ => ?_) (fun ρ' hJ => hend ρ' (by simpa [intsL_length] using hJ)) hs
  rw [List.getElem?_map] at hd
  cases hel : ls[j]? with
  | none => rw [hel] at hd; cases hd
  | some el => rw [hel] at hd; cases hd; exact hb j el ρ' hel hJ
/-- a loop over range(..) -/
theorem ex_forR {Q : Fl → Rho → Prop} {body : List Stmt} {x : Str} {xp : Pos} {iter : Expr} {i n : Nat} {a : Int} (FS : FmS c f) (hx : f.xs[i]? = some x) (h : It c f ρ iter (intsL a n) .fr)
    (J : Nat → Rho → Prop) (h0 : J 0 ρ)
    (hb : ∀ j ρ', j < n → J j ρ' → i < ρ'.length ∧ Ex c f body (ρ'.set i (some ⟨.lo, .int (a + j)⟩)) (loopQ (J (j + 1)) Q))
    (hend : ∀ ρ', J n ρ' → Q .next ρ') (hs : ∀ env x, foldedSetIterable iter env x = pure x := by intro _ _; rfl) : Ex1 c f (.For (.Name x xp) iter body [] pos) ρ Q := by
  refine ex_for (sk := .lo) FS hx h (.flat rfl intsL_flat) J h0 (fun j d ρ' hd hJ => ?_) (fun ρ' hJ => hend ρ' (by simpa [intsL_length] using hJ)) hs
  obtain ⟨h1, rfl⟩ := intsL_get hd
  exact hb j ρ' h1 hJ

/-! list + list -/
end
end Mine
namespace Mine
open PySem PySem.Spec PySem.Calls PyProof.Rows
theorem fn_go {c : Cx} {d : FnD} {args : List PyData} {res : PyData} {u : Bool} {lv : Nat} (ps rest xs : List Str) (C : CxOk c)
    (hbind : ∀ pm cd doc (vals : List Value), vals.length = args.length → bindArgs (docDef d.name d.params d.body d.scope pm cd doc) ⟨vals, []⟩ = pure (ps.zip vals))
    (hlen : ps.length = args.length) (nd : (ps ++ rest).Nodup)
    (hk : ((ps ++ rest).all fun x => d.scope.names.lookup x == some .local || d.scope.names.lookup x == some .cell) = true)
    (h1 : d.scope.isCoroutine = false) (h2 : d.scope.isGenerator = false) (h3 : d.scope.kind = .function) (ρ0 : Rho)
    (h : ∀ f : Fm, f.env.scope = d.scope → f.xs = xs → f.lv = lv → FmS c f → Ex c f d.body ρ0 (RetQ res u)) (hxs : ps ++ rest = xs := by rfl) (hρ : startRho args rest = ρ0 := by rfl) : Fn c (lv + 1) d args res u := by
  subst hxs hρ
  exact fn_enter ps rest C hbind hlen nd hk h1 h2 h3 h
end Mine

namespace Mine
open PySem PySem.Spec PySem.Calls PyProof.Rows

/-- names that stand in cells -/
noncomputable def HasCells (f : Fm) (ys : List Str) : Prop := ∀ y ∈ ys, (f.env.kindOf y = some .cell ∨ f.env.kindOf y = some .free) ∧ ∃ a, f.env.cells.lookup y = some a
theorem HasCells.nil {f : Fm} : HasCells f [] := nofun
theorem HasCells.of {c : Cx} {f : Fm} (FS : FmS c f) {ys : List Str} (h : ∀ y ∈ ys, y ∈ f.xs ∧ f.env.kindOf y = some .cell) : HasCells f ys := fun y hy => by
  obtain ⟨h1, h2⟩ := h y hy
  obtain ⟨i, hi, rfl⟩ := List.mem_iff_getElem.mp h1
  rcases FS.kinds i _ (List.getElem?_eq_getElem hi) with q | ⟨q, a, ha⟩
  · rw [h2] at q; cases q
  · exact ⟨.inl q, a, ha⟩
theorem HasCells.ofs {c : Cx} {f : Fm} (FS : FmS c f) {ys : List Str} (sc : Scope) (hsc : f.env.scope = sc) (xs : List Str) (hxs : f.xs = xs) (h : (ys.all fun y => xs.contains y && sc.names.lookup y == some .cell) = true) : HasCells f ys :=
  HasCells.of FS fun y hy => by
    have := List.all_eq_true.mp h y hy
    simp only [Bool.and_eq_true, beq_iff_eq, List.contains_iff_mem] at this
    exact ⟨hxs ▸ this.1, by show f.env.scope.names.lookup y = _; rw [hsc]; exact this.2⟩

noncomputable def compChk (scope : Scope) (x : Str) (cp : List Nat) (capn cells : List Str) : Bool :=
  scope.kind == .function && (scope.names.all fun y => y.2 != .local || scope.names.lookup y.1 == some .local) &&
  (scope.names.lookup x == some .local || (scope.names.lookup x == some .cell && scope.names.contains (x, NameKind.cell))) &&
  (scope.names.all fun y => y.2 != .free || cells.contains y.1) && decide cp.Nodup &&
  (capn.all fun y => scope.names.lookup y == some .free && scope.names.contains (y, NameKind.free) && !scope.names.contains (y, NameKind.cell) && cells.contains y)

theorem compOk_mk {c : Cx} {f : Fm} {ρ : Rho} {scope : Scope} {x : Str} {cp : List Nat} {capn cells : List Str} (H : HasCells f cells) (hn : cp.map (fun j => f.xs[j]?) = capn.map some) (h : compChk scope x cp capn cells = true) : CompOk c f ρ scope x cp := by
  unfold compChk at h
  simp only [Bool.and_eq_true, decide_eq_true_eq, List.all_eq_true, beq_iff_eq, Bool.or_eq_true, bne_iff_ne, ne_eq, List.contains_iff_mem, Bool.not_eq_true'] at h
  obtain ⟨⟨⟨⟨⟨h1, h2⟩, h3⟩, h4⟩, h5⟩, h6⟩ := h
  refine ⟨h1, fun y hy hl => ?_, ?_, fun y hy hf => ?_, h5, fun j hj => ?_⟩
  · exact (h2 y hy).resolve_left fun q => q hl
  · exact h3.imp id fun q => ⟨q.1, q.2⟩
  · exact (H y.1 ((h4 y hy).resolve_left fun q => q hf)).2
  · have hm : f.xs[j]? ∈ capn.map some := hn ▸ List.mem_map_of_mem hj
    obtain ⟨y, hy, e⟩ := List.mem_map.mp hm
    obtain ⟨⟨⟨q1, q2⟩, q3⟩, q4⟩ := h6 y hy
    refine ⟨y, e.symm, q1, q2, fun q => ?_, (H y q4).1⟩
    have q' := List.contains_iff_mem.mpr q
    rw [q3] at q'; cases q'

noncomputable def chChk (scope : Scope) (cells names : List Str) : Bool :=
  names.all fun y => (scope.names.contains (y, NameKind.cell) && scope.names.lookup y == some .cell) ||
    (scope.names.contains (y, NameKind.free) && scope.names.lookup y == some .free && !scope.names.contains (y, NameKind.cell) && cells.contains y)
theorem child_cells {f : Fm} {scope : Scope} {C : Addr} {x : Str} {cp : List Nat} {cells names : List Str} (H : HasCells f cells) (h : chChk scope cells names = true) : HasCells (chFm f scope C x cp) names := fun y hy => by
  have := List.all_eq_true.mp h y hy
  simp only [Bool.and_eq_true, beq_iff_eq, Bool.or_eq_true, List.contains_iff_mem, Bool.not_eq_true'] at this
  rcases this with ⟨h1, h2⟩ | ⟨⟨⟨h1, h2⟩, h3⟩, h4⟩
  · refine ⟨.inl ?_, Option.isSome_iff_exists.mp (cellsFrom_has _ _ _ (.inl h2))⟩
    rcases relabel_lookup (env := f.env) h2 with q | ⟨q, _⟩
    · exact q
    · cases q
  · refine ⟨?_, ?_⟩
    · rcases relabel_lookup (env := f.env) h2 with q | ⟨_, q⟩
      · exact .inr q
      · exact .inl q
    · obtain ⟨a, ha⟩ := (H y h4).2
      refine ⟨a, ?_⟩
      show (cellsFrom (C + 1) scope.names (clOf f.env scope.names [])).lookup y = some a
      rw [cellsFrom_not _ _ _ (fun q => by have := List.contains_iff_mem.mpr q; rw [h3] at this; cases this)]
      exact clOf_lookup ha scope.names [] (.inl h1) (fun b q => by simp at q)

section
variable {c : Cx} {f : Fm} {ρ : Rho}
/-- the frame within a comprehension, its names written out -/
noncomputable abbrev cf (f : Fm) (scope : Scope) (C : Addr) (x : Str) (names : List Str) : Fm := ⟨chEnv scope C f.env, f.A, f.h₀, x :: names, f.lv⟩

/-- a comprehension; capn: the names taken from around, slots: what they hold; cells: the names that stand in cells -/
theorem ev_compX {elt iter : Expr} {x : Str} {xp : Pos} {ifs : List Expr} {scope : Scope} {pos : Pos} {α : Type} {enc : α → PyData} {xs : List α} {k0 : EK} (sk : K) {p : α → Bool} {g : α → PyData}
    {cells : List Str} (H : HasCells f cells) (cp : List Nat) (capn : List Str) (slots : Rho) (cells' : List Str) (h : It c f ρ iter (xs.map enc) k0) (hk : Fills3 k0 (xs.map enc) sk) (hsz : xs.length ≤ sizeLine)
    (ht : ∀ C, HasCells (cf f scope C x capn) cells' → ∀ el ∈ xs, Ifs c (cf f scope C x capn) (some ⟨sk, enc el⟩ :: slots) ifs (p el))
    (he : ∀ C, HasCells (cf f scope C x capn) cells' → ∀ el ∈ xs, p el = true → Ev c (cf f scope C x capn) (some ⟨sk, enc el⟩ :: slots) elt (g el) .fr)
    (hchk : (compChk scope x cp capn cells && chChk scope cells cells') = true := by decide +kernel)
    (hn : cp.map (fun j => f.xs[j]?) = capn.map some := by rfl) (hn2 : cp.map (fun j => f.xs.getD j default) = capn := by rfl) (hsl : cp.map (fun j => (ρ[j]?).join) = slots := by rfl)
    (hs : ∀ env x, foldedSetIterable iter env x = pure x := by intro _ _; rfl) :
    Ev c f ρ (.ListComp elt [⟨.Name x xp, iter, ifs, 0⟩] scope pos) (.list ((xs.filter p).map g)) .fr := by
  obtain ⟨h1, h2⟩ := Bool.and_eq_true_iff.mp hchk
  have CO : CompOk c f ρ scope x cp := compOk_mk H hn h1
  have e1 : ∀ C, chFm f scope C x cp = cf f scope C x capn := fun C => by unfold chFm; rw [hn2]
  have e2 : ∀ d, chRho ρ cp ⟨sk, d⟩ = some ⟨sk, d⟩ :: slots := fun d => by unfold chRho; rw [hsl]
  have HC : ∀ C, HasCells (cf f scope C x capn) cells' := fun C => e1 C ▸ child_cells H h2
  exact ev_comp CO h hk hsz (fun C el hel => by rw [e1, e2]; exact ht C (HC C) el hel) (fun C el hel hp => by rw [e1, e2]; exact he C (HC C) el hel hp) hs

theorem ex_assign_compX {elt iter : Expr} {x y : Str} {xp yp : Pos} {ifs : List Expr} {scope : Scope} {pos spos : Pos} {α : Type} {enc : α → PyData} {xs : List α} {k0 : EK} (sk : K) {p : α → Bool} {g : α → PyData} {i : Nat} {Q : Fl → Rho → Prop}
    {cells : List Str} (FS : FmS c f) (hy : f.xs[i]? = some y) (hi : i < ρ.length) (H : HasCells f cells) (cp : List Nat) (capn : List Str) (slots : Rho) (cells' : List Str) (h : It c f ρ iter (xs.map enc) k0) (hk : Fills3 k0 (xs.map enc) sk) (hsz : xs.length ≤ sizeLine)
    (ht : ∀ C, HasCells (cf f scope C x capn) cells' → ∀ el ∈ xs, Ifs c (cf f scope C x capn) (some ⟨sk, enc el⟩ :: slots) ifs (p el))
    (he : ∀ C, HasCells (cf f scope C x capn) cells' → ∀ el ∈ xs, p el = true → Ev c (cf f scope C x capn) (some ⟨sk, enc el⟩ :: slots) elt (g el) .fr)
    (hQ : Q .next (ρ.set i (some ⟨.ow, .list ((xs.filter p).map g)⟩)))
    (hsw : swapsWith (.ListComp elt [⟨.Name x xp, iter, ifs, 0⟩] scope pos) (some (.Name y yp)) spos.line f.env = pure true := by with_unfolding_all rfl)
    (hchk : (compChk scope x cp capn cells && chChk scope cells cells') = true := by decide +kernel)
    (hn : cp.map (fun j => f.xs[j]?) = capn.map some := by rfl) (hn2 : cp.map (fun j => f.xs.getD j default) = capn := by rfl) (hsl : cp.map (fun j => (ρ[j]?).join) = slots := by rfl)
    (hs : ∀ env x, foldedSetIterable iter env x = pure x := by intro _ _; rfl) :
    Ex1 c f (.Assign [.Name y yp] (.ListComp elt [⟨.Name x xp, iter, ifs, 0⟩] scope pos) spos) ρ Q := by
  obtain ⟨h1, h2⟩ := Bool.and_eq_true_iff.mp hchk
  have CO : CompOk c f ρ scope x cp := compOk_mk H hn h1
  have e1 : ∀ C, chFm f scope C x cp = cf f scope C x capn := fun C => by unfold chFm; rw [hn2]
  have e2 : ∀ d, chRho ρ cp ⟨sk, d⟩ = some ⟨sk, d⟩ :: slots := fun d => by unfold chRho; rw [hsl]
  have HC : ∀ C, HasCells (cf f scope C x capn) cells' := fun C => e1 C ▸ child_cells H h2
  exact ex_assign_comp FS hy hi CO h hk hsz (fun C el hel => by rw [e1, e2]; exact ht C (HC C) el hel) (fun C el hel hp => by rw [e1, e2]; exact he C (HC C) el hel hp) hsw hQ hs

/-- a range as a typed list -/
noncomputable abbrev encR (a : Int) (i : Nat) : PyData := .int (a + i)
theorem it_r {e : Expr} {a : Int} {n : Nat} {k : EK} (h : It c f ρ e (intsL a n) k) : It c f ρ e ((List.range n).map (encR a)) k := h
theorem filter_tt {α : Type} (l : List α) : l.filter (fun _ => true) = l := List.filter_eq_self.mpr (fun _ _ => rfl)
theorem encR_flat {a : Int} {n : Nat} : ∀ d ∈ (List.range n).map (encR a), flat d = true := intsL_flat
end
end Mine

namespace Mine
open PySem PySem.Spec PySem.Calls PyProof.Rows

/-! plain data: lists of ints, tables of ints -/
noncomputable abbrev il (r : List Int) : PyData := .list (r.map .int)
noncomputable abbrev tb (rows : List (List Int)) : PyData := .list (rows.map il)

theorem canAll {xs : List PyData} (h : ∀ d ∈ xs, d.canLay0 = true) : PyData.canLayAll0 xs = true := by
  induction xs with
  | nil => rfl
  | cons x xs ih => rw [PyData.canLayAll0, h x (List.mem_cons_self ..), ih fun d hd => h d (List.mem_cons_of_mem _ hd)]; rfl
theorem depthAll_le {xs : List PyData} {n : Nat} (h : ∀ d ∈ xs, d.depth ≤ n) : PyData.depthAll xs ≤ n := by
  induction xs with
  | nil => exact Nat.zero_le _
  | cons x xs ih => rw [PyData.depthAll]; exact Nat.max_le.mpr ⟨h x (List.mem_cons_self ..), ih fun d hd => h d (List.mem_cons_of_mem _ hd)⟩
/-- small data: may be laid, at most n deep -/
noncomputable def Sm (n : Nat) (d : PyData) : Prop := d.canLay0 = true ∧ d.depth ≤ n
theorem Sm.int {n : Nat} {i : Int} : Sm n (.int i) := ⟨rfl, Nat.zero_le _⟩
theorem Sm.none {n : Nat} : Sm n .none := ⟨rfl, Nat.zero_le _⟩
theorem Sm.list {n : Nat} {xs : List PyData} (h : ∀ d ∈ xs, Sm n d) : Sm (n + 1) (.list xs) :=
  ⟨by rw [PyData.canLay0]; exact canAll fun d hd => (h d hd).1, by rw [PyData.depth]; exact Nat.succ_le_succ (depthAll_le fun d hd => (h d hd).2)⟩
theorem Sm.map {α : Type} {n : Nat} {xs : List α} {g : α → PyData} (h : ∀ a, Sm n (g a)) : Sm (n + 1) (.list (xs.map g)) :=
  Sm.list fun d hd => by obtain ⟨a, _, rfl⟩ := List.mem_map.mp hd; exact h a
theorem Sm.shaped {n : Nat} {d : PyData} (h : Sm n d) (hn : n ≤ 64 := by decide) : SeqAt.shaped d = true := by
  unfold SeqAt.shaped; rw [h.1, decide_eq_true (Nat.le_trans h.2 hn)]; rfl
theorem Sm.eqv {n : Nat} {d : PyData} (h : Sm n d) : PyData.eqv d d = true := PySem.SeqAt.eqv_refl d h.1

theorem il_get {r : List Int} {i : Nat} (h : i < r.length) : (r.map PyData.int)[i]? = some (.int (r.getD i 0)) := by
  rw [List.getElem?_map, List.getElem?_eq_getElem h, List.getD_eq_getElem?_getD, List.getElem?_eq_getElem h]; rfl
theorem mulOkL {a b : Int} (h1 : -1000000 ≤ a) (h2 : a ≤ 1000000) : IntMulOk a b := IntMulOk.of_left (intBits_le_64 (by omega) (by omega))
end Mine

namespace Mine
open PySem PySem.Spec PySem.Calls PyProof.Rows

/-- a name's slot is filled anew -/
inductive Upd : List Str → Rho → Str → Option Slot → Rho → Nat → Prop
  | here {x : Str} {xs : List Str} {o sl : Option Slot} {ρ : Rho} : Upd (x :: xs) (o :: ρ) x sl (sl :: ρ) 0
  | there {x y : Str} {xs : List Str} {o sl : Option Slot} {ρ ρ' : Rho} {i : Nat} : Upd xs ρ x sl ρ' i → Upd (y :: xs) (o :: ρ) x sl (o :: ρ') (i + 1)
theorem Upd.get {xs : List Str} {ρ ρ' : Rho} {x : Str} {sl : Option Slot} {i : Nat} (h : Upd xs ρ x sl ρ' i) : xs[i]? = some x ∧ i < ρ.length ∧ ρ' = ρ.set i sl := by
  induction h with
  | here => exact ⟨rfl, by simp, rfl⟩
  | there _ ih => obtain ⟨h1, h2, h3⟩ := ih; exact ⟨by simpa using h1, by simpa using h2, by rw [h3]; rfl⟩
/-- where a name stands -/
inductive Nm : List Str → Str → Nat → Prop
  | here {x : Str} {xs : List Str} : Nm (x :: xs) x 0
  | there {x y : Str} {xs : List Str} {i : Nat} : Nm xs x i → Nm (y :: xs) x (i + 1)
theorem Nm.get {xs : List Str} {x : Str} {i : Nat} (h : Nm xs x i) : xs[i]? = some x := by
  induction h with
  | here => rfl
  | there _ ih => simpa using ih

section
variable {c : Cx} {f : Fm} {ρ ρ' : Rho} {st : Stmt} {rest body orelse : List Stmt} {Q : Fl → Rho → Prop} {e ei er : Expr} {d d0 : PyData} {k k2 k3 : EK} {pos xp ap cp sp sp2 : Pos} {x y : Str} {i : Nat} {sk : K} {xs : List PyData}

theorem s_asg (FS : FmS c f) (h : Ev c f ρ e d k) (hk : Fills k d sk) (hU : Upd f.xs ρ x (some ⟨sk, d⟩) ρ' i) (hQ : Ex c f rest ρ' Q) (hs : ∀ env, swapsWith e (some (.Name x xp)) pos.line env = pure false := by intro _; rfl) :
    Ex c f (.Assign [.Name x xp] e pos :: rest) ρ Q := by
  obtain ⟨h1, h2, rfl⟩ := hU.get
  exact ex_cons (ex_assign FS h1 h2 h hk hQ hs)
theorem s_if {t : Expr} {q : Bool} (ht : Tst c f ρ t q) (h1 : q = true → Ex c f body ρ (seqQ c f rest Q)) (h2 : q = false → Ex c f orelse ρ (seqQ c f rest Q)) : Ex c f (.If t body orelse pos :: rest) ρ Q := ex_cons (ex_if ht h1 h2)
/-- an if with no else -/
theorem s_when {t : Expr} {q : Bool} (ht : Tst c f ρ t q) (h1 : q = true → Ex c f body ρ (seqQ c f rest Q)) (h2 : q = false → Ex c f rest ρ Q) : Ex c f (.If t body [] pos :: rest) ρ Q := ex_cons (ex_if ht h1 fun h => ex_nil (h2 h))
theorem s_end (h : Q .next ρ) : Ex c f [] ρ Q := ex_nil h
theorem s_ret {u : Bool} (h : Ev c f ρ e d k) (hQ : Q (.ret d u) ρ) (hk : (k = .fr) ∨ (k = .lo ∧ u = false) ∨ (flat d = true) ∨ (∃ is : List Nat, k = .us is ∧ is.Nodup ∧ ∀ i ∈ is, ∃ sl : Slot, ρ[i]? = some (some sl) ∧ sl.k = .ow)) : Ex c f (.Return (some e) pos :: rest) ρ Q :=
  ex_cons (ex_return h hk hQ)
theorem s_append (FS : FmS c f) (hat : At f.xs ρ x ⟨.ow, .list xs⟩ i) (h : Ev c f ρ e d k) (hk : k = .fr ∨ flat d = true) (hsz : xs.length ≤ sizeLine) (hU : Upd f.xs ρ x (some ⟨.ow, .list (xs ++ [d])⟩) ρ' i) (hQ : Ex c f rest ρ' Q)
    (hd : (x == ("__debug__" : Str)) = false := by decide +kernel) (hn : (x == ("__classdict__" : Str)) = false := by decide +kernel)
    (hbase : ∀ env, attributeBase (.Name x xp) "append" env (eval (.Name x xp) env) = eval (.Name x xp) env := by intro _; rfl) (hline : (ap.endLine == cp.line) = true := by rfl)
    (htrees : ∀ env, backTo cp (starEach [e] env) = [(false, eval e env)] := by intro _; rfl)
    (hsw : ∀ env, swapsWith (.Call (.Attribute (.Name x xp) "append" ap) [e] [] cp) none pos.line env = pure false := by intro _; rfl) :
    Ex c f (.Expr (.Call (.Attribute (.Name x xp) "append" ap) [e] [] cp) pos :: rest) ρ Q := by
  obtain ⟨h1, h2, rfl⟩ := hU.get
  exact ex_cons (ex_append FS hat h hk hsz hQ hd hn hbase hline htrees (by intros; trivial) hsw)
theorem s_set {j : Int} (FS : FmS c f) (hat : At f.xs ρ x ⟨.ow, .list xs⟩ i) (hv : Ev c f ρ e d k) (hi : Ev c f ρ ei (.int j) k2) (hd : flat d = true) (h0 : 0 ≤ j) (hfit : j < 2 ^ 63) (hx : xs[j.toNat]? = some d0) (hd0 : flat d0 = true)
    (hU : Upd f.xs ρ x (some ⟨.ow, .list (xs.set j.toNat d)⟩) ρ' i) (hQ : Ex c f rest ρ' Q)
    (hdb : (x == ("__debug__" : Str)) = false := by decide +kernel) (hn : (x == ("__classdict__" : Str)) = false := by decide +kernel)
    (hs : ∀ env, swapsWith e (some (.Subscript (.Name x xp) ei sp)) pos.line env = pure false := by intro _; rfl) : Ex c f (.Assign [.Subscript (.Name x xp) ei sp] e pos :: rest) ρ Q := by
  obtain ⟨h1, h2, rfl⟩ := hU.get
  exact ex_cons (ex_setitem FS hat hv hi hd h0 hfit hx hd0 hQ hdb hn hs)
theorem s_set2 {j1 j2 : Int} {rows cells : List PyData} (FS : FmS c f) (hat : At f.xs ρ x ⟨.ow, .list rows⟩ i) (hv : Ev c f ρ e d k) (hi1 : Ev c f ρ er (.int j1) k2) (hi2 : Ev c f ρ ei (.int j2) k3) (hd : flat d = true)
    (h01 : 0 ≤ j1) (hfit1 : j1 < 2 ^ 63) (hrow : rows[j1.toNat]? = some (.list cells)) (hcf : flats cells = true) (h02 : 0 ≤ j2) (hfit2 : j2 < 2 ^ 63) (hlt : j2.toNat < cells.length)
    (hU : Upd f.xs ρ x (some ⟨.ow, .list (rows.set j1.toNat (.list (cells.set j2.toNat d)))⟩) ρ' i) (hQ : Ex c f rest ρ' Q)
    (hdb : (x == ("__debug__" : Str)) = false := by decide +kernel) (hn : (x == ("__classdict__" : Str)) = false := by decide +kernel) (hs2 : ∀ o i, subscripted er false o i = operate [o, i] (getItem o i) := by intros; rfl)
    (hs : ∀ env, swapsWith e (some (.Subscript (.Subscript (.Name x xp) er sp) ei sp2)) pos.line env = pure false := by intro _; rfl) : Ex c f (.Assign [.Subscript (.Subscript (.Name x xp) er sp) ei sp2] e pos :: rest) ρ Q := by
  obtain ⟨h1, h2, rfl⟩ := hU.get
  exact ex_cons (ex_setitem2 (xs := cells) FS hat hv hi1 hi2 hd h01 hfit1 hrow hcf h02 hfit2 rfl hlt hQ hdb hn hs2 hs)
theorem s_append2 {j1 : Int} {rows cells : List PyData} (FS : FmS c f) (hat : At f.xs ρ x ⟨.ow, .list rows⟩ i) (hi1 : Ev c f ρ er (.int j1) k2) (h : Ev c f ρ e d k) (hd : flat d = true)
    (h01 : 0 ≤ j1) (hfit1 : j1 < 2 ^ 63) (hrow : rows[j1.toNat]? = some (.list cells)) (hcf : flats cells = true) (hsz : cells.length ≤ sizeLine)
    (hU : Upd f.xs ρ x (some ⟨.ow, .list (rows.set j1.toNat (.list (cells ++ [d])))⟩) ρ' i) (hQ : Ex c f rest ρ' Q)
    (hdb : (x == ("__debug__" : Str)) = false := by decide +kernel) (hn : (x == ("__classdict__" : Str)) = false := by decide +kernel) (hs2 : ∀ o i, subscripted er false o i = operate [o, i] (getItem o i) := by intros; rfl)
    (hbase : ∀ env, attributeBase (.Subscript (.Name x xp) er sp) "append" env (eval (.Subscript (.Name x xp) er sp) env) = eval (.Subscript (.Name x xp) er sp) env := by intro _; rfl) (hline : (ap.endLine == cp.line) = true := by rfl)
    (htrees : ∀ env, backTo cp (starEach [e] env) = [(false, eval e env)] := by intro _; rfl)
    (hsw : ∀ env, swapsWith (.Call (.Attribute (.Subscript (.Name x xp) er sp) "append" ap) [e] [] cp) none pos.line env = pure false := by intro _; rfl) :
    Ex c f (.Expr (.Call (.Attribute (.Subscript (.Name x xp) er sp) "append" ap) [e] [] cp) pos :: rest) ρ Q := by
  obtain ⟨h1, h2, rfl⟩ := hU.get
  exact ex_cons (ex_append2 FS hat hi1 h hd h01 hfit1 hrow hcf hsz hQ hdb hn hs2 hbase hline htrees hsw)
theorem s_forT {α : Type} {enc : α → PyData} {ls : List α} {iter : Expr} (FS : FmS c f) (hx : Nm f.xs x i) (h : It c f ρ iter (ls.map enc) k) (hk : Fills2 k (ls.map enc) sk)
    (J : Nat → Rho → Prop) (h0 : J 0 ρ)
    (hb : ∀ j el ρ', ls[j]? = some el → J j ρ' → ∃ ρ1, Upd f.xs ρ' x (some ⟨sk, enc el⟩) ρ1 i ∧ Ex c f body ρ1 (loopQ (J (j + 1)) (seqQ c f rest Q)))
    (hend : ∀ ρ', J ls.length ρ' → Ex c f rest ρ' Q) (hs : ∀ env x, foldedSetIterable iter env x = pure x := by intro _ _; rfl) : Ex c f (.For (.Name x xp) iter body [] pos :: rest) ρ Q :=
  ex_cons (ex_forT FS hx.get h hk J h0 (fun j d ρ' hd hJ => by obtain ⟨ρ1, hU, h⟩ := hb j d ρ' hd hJ; obtain ⟨h1, h2, rfl⟩ := hU.get; exact ⟨h2, h⟩) hend hs)
theorem s_forR {iter : Expr} {n : Nat} {a : Int} (FS : FmS c f) (hx : Nm f.xs x i) (h : It c f ρ iter (intsL a n) .fr)
    (J : Nat → Rho → Prop) (h0 : J 0 ρ)
    (hb : ∀ j ρ', j < n → J j ρ' → ∃ ρ1, Upd f.xs ρ' x (some ⟨.lo, .int (a + j)⟩) ρ1 i ∧ Ex c f body ρ1 (loopQ (J (j + 1)) (seqQ c f rest Q)))
    (hend : ∀ ρ', J n ρ' → Ex c f rest ρ' Q) (hs : ∀ env x, foldedSetIterable iter env x = pure x := by intro _ _; rfl) : Ex c f (.For (.Name x xp) iter body [] pos :: rest) ρ Q :=
  ex_cons (ex_forR FS hx.get h J h0 (fun j ρ' hd hJ => by obtain ⟨ρ1, hU, h⟩ := hb j ρ' hd hJ; obtain ⟨h1, h2, rfl⟩ := hU.get; exact ⟨h2, h⟩) hend hs)
theorem s_while {t : Expr} (J : Nat → Rho → Prop) {n : Nat} (h0 : J n ρ)
    (hb : ∀ n ρ', J n ρ' → ∃ q, Tst c f ρ' t q ∧ (q = true → Ex c f body ρ' (loopQ (fun ρ'' => ∃ m, m < n ∧ J m ρ'') (seqQ c f rest Q))) ∧ (q = false → Ex c f rest ρ' Q)) : Ex c f (.While t body [] pos :: rest) ρ Q :=
  ex_cons (ex_while J h0 hb)
theorem s_comp {elt iter : Expr} {yp : Pos} {ifs : List Expr} {scope : Scope} {spos : Pos} {α : Type} {enc : α → PyData} {ls : List α} {k0 : EK} (sk : K) {p : α → Bool} {g : α → PyData}
    {cells : List Str} (FS : FmS c f) (H : HasCells f cells) (cp : List Nat) (capn : List Str) (slots : Rho) (cells' : List Str) (h : It c f ρ iter (ls.map enc) k0) (hk : Fills3 k0 (ls.map enc) sk) (hsz : ls.length ≤ sizeLine)
    (ht : ∀ C, HasCells (cf f scope C x capn) cells' → ∀ el ∈ ls, Ifs c (cf f scope C x capn) (some ⟨sk, enc el⟩ :: slots) ifs (p el))
    (he : ∀ C, HasCells (cf f scope C x capn) cells' → ∀ el ∈ ls, p el = true → Ev c (cf f scope C x capn) (some ⟨sk, enc el⟩ :: slots) elt (g el) .fr)
    (hU : Upd f.xs ρ y (some ⟨.ow, .list ((ls.filter p).map g)⟩) ρ' i) (hQ : Ex c f rest ρ' Q)
    (hsw : swapsWith (.ListComp elt [⟨.Name x xp, iter, ifs, 0⟩] scope pos) (some (.Name y yp)) spos.line f.env = pure true := by with_unfolding_all rfl)
    (hchk : (compChk scope x cp capn cells && chChk scope cells cells') = true := by decide +kernel)
    (hn : cp.map (fun j => f.xs[j]?) = capn.map some := by rfl) (hn2 : cp.map (fun j => f.xs.getD j default) = capn := by rfl) (hsl : cp.map (fun j => (ρ[j]?).join) = slots := by rfl)
    (hs : ∀ env x, foldedSetIterable iter env x = pure x := by intro _ _; rfl) :
    Ex c f (.Assign [.Name y yp] (.ListComp elt [⟨.Name x xp, iter, ifs, 0⟩] scope pos) spos :: rest) ρ Q := by
  obtain ⟨h1, h2, rfl⟩ := hU.get
  exact ex_cons (ex_assign_compX sk FS h1 h2 H cp capn slots cells' h hk hsz ht he hQ hsw hchk hn hn2 hsl hs)
end
end Mine

namespace Mine
open PySem PySem.Spec PySem.Calls PyProof.Rows

theorem ra_drop {h : Heap} {vs : List Value} {ds : List PyData} {as : List Addr} (r : ReadsAll L T h vs ds as) (hf : flats ds = true) : ∀ n, ReadsAll L T h (vs.drop n) (ds.drop n) []
  | 0 => by have := readsAll_flat r hf; subst this; exact r
  | n + 1 => by
    cases r with
    | nil => exact .nil
    | cons r1 r2 => exact ra_drop r2 (Bool.and_eq_true_iff.mp hf).2 n
theorem ra_take {h : Heap} {vs : List Value} {ds : List PyData} {as : List Addr} (r : ReadsAll L T h vs ds as) (hf : flats ds = true) : ∀ n, ReadsAll L T h (vs.take n) (ds.take n) []
  | 0 => .nil
  | n + 1 => by
    cases r with
    | nil => exact .nil
    | cons r1 r2 =>
      have h1 := reads_flat r1 (Bool.and_eq_true_iff.mp hf).1
      subst h1
      exact .cons r1 (ra_take r2 (Bool.and_eq_true_iff.mp hf).2 n)
theorem flats_drop {ds : List PyData} (hf : flats ds = true) : ∀ n, flats (ds.drop n) = true
  | 0 => hf
  | n + 1 => by cases ds with | nil => rfl | cons d ds => exact flats_drop (Bool.and_eq_true_iff.mp hf).2 n
/-- what a plain slice picks -/
noncomputable def pick {α : Type} (xs : List α) (lo hi : Option Int) : List α := (xs.drop (lo.elim 0 (clipAt xs.length))).take (hi.elim xs.length (clipAt xs.length) - lo.elim 0 (clipAt xs.length))
theorem pick_upto {α : Type} (xs : List α) (b : Nat) : pick xs none (some (b : Int)) = xs.take b := by
  unfold pick; simp only [Option.elim, clipAt_nat, List.drop_zero, Nat.sub_zero]
  rcases Nat.le_total b xs.length with h | h
  · rw [Nat.min_eq_left h]
  · rw [Nat.min_eq_right h, List.take_of_length_le (by simp), List.take_of_length_le h]
section
variable {c : Cx} {f : Fm} {ρ : Rho} {mo : Addr → Prop} {val : Nat → Value} {fp : Nat → List Addr} {s : Shared} {E : Value → Shared → Prop}
  {e l r : Expr} {d d1 d2 d3 : PyData} {k k1 k2 k3 : EK} {pos sp : Pos} {a b : Int} {xs ys : List PyData}

/-- a bound of a slice -/
inductive Part (c : Cx) (f : Fm) (ρ : Rho) : Option Expr → Option Int → Prop
  | none : Part c f ρ none none
  | some {e : Expr} {i : Int} {k : EK} : Ev c f ρ e (.int i) k → Part c f ρ (some e) (some i)
theorem Part.bind {o : Option Expr} {i : Option Int} {Q : Value → Shared → Prop} (h : Part c f ρ o i) (S : St c f ρ mo val fp s) (hn : ∀ v s', Ext c s s' → St c f ρ mo val fp s' → IsPart v i → Q v s') :
    wpAny c.M f.A (evalPart o f.env) Q E s := by
  cases h with
  | none => exact wpAny_evalPart_none (hn _ s (Ext.refl S.wf) S .none)
  | some h => exact wpAny_evalPart_some (h.bind S fun v s' as x S' r _ => by cases r; exact hn _ s' x S' (.int _ _))

theorem ev_slice {lo up : Option Expr} {li ui : Option Int} (h : Ev c f ρ l (.list xs) k) (hl : Part c f ρ lo li) (hu : Part c f ρ up ui) (hf : flats xs = true) (hsz : xs.length ≤ sizeLine) (hp : pick xs li ui = ys) : Ev c f ρ (.Subscript l (.Slice lo up none sp) pos) (.list ys) .fr := by
  intro mo val fp s E S
  refine Subscript_ (h.bind S fun v s1 as x1 S1 r1 _ => wpAny_Slice (hl.bind S1 fun vl s2 x2 S2 p1 => hu.bind S2 fun vu s3 x3 S3 p2 => wpAny_evalPart_none ?_))
  have r3 := (x2.trans x3).reads S1.wf r1
  cases r3 with | list g1 g2 g3 g4 =>
  rename_i a o vs m bs _
  have hl : vs.size = xs.length := by simpa using readsAll_length g4
  have hL : s3.heap.IsList a vs := ⟨_, g1, g2, _, g3⟩
  refine tail_any (T := "list") (ops := [_, _]) (hL.push _).typeIs list_getitem_lookup (wpAny_getItem_list_slice (hL.push _) (Heap.IsSliceOf.new ..) p1 p2 .none (by simp) ?_ (by omega)) rfl
  rw [Heap.size_push]
  have y1 : Ext c s3 { s3 with heap := s3.heap.push { cls := .type "slice", data := .fields #[vl, vu, .none] } } := Ext.push S3.wf _ _
  have y2 := y1.trans (Ext.push (y1.wf) { cls := .type "list", data := .seq (slicePick vs li ui none) } s3.toks)
  refine ⟨((x1.trans x2).trans x3).trans y2, [s3.heap.objs.size + 1], ?_, frOk S (by simp) (fun b hb => ?_) fun b hb => ?_⟩
  · have : s3.heap.objs.size + 1 = (s3.heap.push { cls := .type "slice", data := .fields #[vl, vu, .none] }).objs.size := (Heap.size_push ..).symm
    rw [this]
    refine .list (Heap.get?_push_size _ rfl) rfl rfl ?_
    refine y2.readsAll S3.wf ?_
    rw [slicePick_plain, List.toList_toArray, ← hp, pick, hl]
    exact ra_take (ra_drop g4 hf _) (flats_drop hf _) _
  · rw [List.mem_singleton.mp hb]; exact ((x1.trans x2).trans x3).up.none (y1.up.none (by rw [← Heap.size_push]; exact get_size_none _))
  · rw [List.mem_singleton.mp hb]; exact ⟨_, by rw [← Heap.size_push]; exact Heap.get?_push_size _ rfl, .inl ⟨rfl, _, _, rfl⟩, rfl, rfl⟩

/-! edges: tuples of three ints -/
noncomputable abbrev encI (e : Int × Int × Int) : PyData := .tuple [.int e.1, .int e.2.1, .int e.2.2]
noncomputable abbrev encE (e : Nat × Nat × Int) : PyData := .tuple [.int e.1, .int e.2.1, .int e.2.2]
theorem flats_of {xs : List PyData} (h : ∀ d ∈ xs, flat d = true) : flats xs = true := by
  induction xs with
  | nil => rfl
  | cons x xs ih => exact Bool.and_eq_true_iff.mpr ⟨h x (List.mem_cons_self ..), ih fun d hd => h d (List.mem_cons_of_mem _ hd)⟩
theorem flats_map {α : Type} {g : α → PyData} (h : ∀ a, flat (g a) = true) (ls : List α) : flats (ls.map g) = true := flats_of fun d hd => by obtain ⟨a, _, rfl⟩ := List.mem_map.mp hd; exact h a
theorem flat_map {α : Type} {g : α → PyData} (h : ∀ a, flat (g a) = true) (ls : List α) : ∀ d ∈ ls.map g, flat d = true := fun d hd => by obtain ⟨a, _, rfl⟩ := List.mem_map.mp hd; exact h a
theorem ev_t0 {ds : List PyData} (h : Ev c f ρ l (.tuple (d :: ds)) k1) (h2 : Ev c f ρ r (.int 0) k2) (hd : flat d = true) (hs : ∀ o i, subscripted r false o i = operate [o, i] (getItem o i) := by intros; rfl) : Ev c f ρ (.Subscript l r pos) d .fr :=
  Ev.ofFlat (ev_tupitem h h2 (by decide) (by decide) rfl hs) hd
theorem ev_t1 {ds : List PyData} (h : Ev c f ρ l (.tuple (d1 :: d :: ds)) k1) (h2 : Ev c f ρ r (.int 1) k2) (hd : flat d = true) (hs : ∀ o i, subscripted r false o i = operate [o, i] (getItem o i) := by intros; rfl) : Ev c f ρ (.Subscript l r pos) d .fr :=
  Ev.ofFlat (ev_tupitem h h2 (by decide) (by decide) rfl hs) hd
theorem ev_t2 {ds : List PyData} (h : Ev c f ρ l (.tuple (d1 :: d2 :: d :: ds)) k1) (h2 : Ev c f ρ r (.int 2) k2) (hd : flat d = true) (hs : ∀ o i, subscripted r false o i = operate [o, i] (getItem o i) := by intros; rfl) : Ev c f ρ (.Subscript l r pos) d .fr :=
  Ev.ofFlat (ev_tupitem h h2 (by decide) (by decide) rfl hs) hd
/-- an item of a list, the item given with its index as a Nat -/
theorem ev_at {i : Nat} (h1 : Ev c f ρ l (.list xs) k1) (h2 : Ev c f ρ r (.int i) k2) (hx : xs[i]? = some d) (hl : xs.length ≤ sizeLine) 
    (hs : ∀ o i, subscripted r false o i = operate [o, i] (getItem o i) := by intros; rfl) : Ev c f ρ (.Subscript l r pos) d k1.sub :=
  ev_item h1 h2 (by omega) (by have : i < xs.length := (List.getElem?_eq_some_iff.mp hx).1; have : sizeLine < 2 ^ 62 := by decide +kernel
                               omega) hx hs
end

/-! square tables, written by a function -/
noncomputable def mkT (n : Nat) (g : Nat → Nat → PyData) : List PyData := (List.range n).map fun u => .list ((List.range n).map (g u))
theorem mkT_len {n : Nat} {g : Nat → Nat → PyData} : (mkT n g).length = n := by simp [mkT]
theorem mkT_row {n u : Nat} {g : Nat → Nat → PyData} (h : u < n) : (mkT n g)[u]? = some (.list ((List.range n).map (g u))) := by
  rw [mkT, List.getElem?_map, List.getElem?_range h]; rfl
theorem rangeMap_at {α : Type} {n v : Nat} {g : Nat → α} (h : v < n) : ((List.range n).map g)[v]? = some (g v) := by
  rw [List.getElem?_map, List.getElem?_range h]; rfl
theorem rangeMap_set {α : Type} {n v : Nat} {g : Nat → α} {x : α} : ((List.range n).map g).set v x = (List.range n).map fun i => if i = v then x else g i := by
  apply List.ext_getElem?
  intro i
  by_cases hi : i < n
  · rw [rangeMap_at hi, List.getElem?_set]
    by_cases h : v = i
    · subst h; simp [hi]
    · rw [if_neg h, rangeMap_at hi, if_neg (fun q => h q.symm)]
  · rw [List.getElem?_eq_none (by simp; omega), List.getElem?_eq_none (by simp; omega)]
theorem mkT_set {n a b : Nat} {g : Nat → Nat → PyData} {x : PyData} (ha : a < n) : (mkT n g).set a (.list (((List.range n).map (g a)).set b x)) = mkT n fun u v => if u = a ∧ v = b then x else g u v := by
  rw [mkT, rangeMap_set, rangeMap_set, mkT]
  refine List.map_congr_left fun u _ => ?_
  by_cases h : u = a
  · subst h; simp
  · simp [h]
theorem mkT_congr {n : Nat} {g g' : Nat → Nat → PyData} (h : ∀ u v, u < n → v < n → g u v = g' u v) : mkT n g = mkT n g' := by
  unfold mkT
  refine List.map_congr_left fun u hu => ?_
  rw [List.map_congr_left fun v hv => h u v (by simpa using hu) (by simpa using hv)]
end Mine

namespace Mine
open PySem PySem.Spec PySem.Calls PyProof.Rows

noncomputable def cutQ (P : Rho → Prop) (Q : Fl → Rho → Prop) : Fl → Rho → Prop
  | .next, ρ => P ρ
  | fl, ρ => Q fl ρ
section
variable {c : Cx} {f : Fm} {ρ ρ' : Rho} {st : Stmt} {rest body orelse : List Stmt} {Q : Fl → Rho → Prop} {e t : Expr} {pos : Pos} {q : Bool}
theorem s_cut (P : Rho → Prop) (h1 : Ex1 c f st ρ (cutQ P Q)) (h2 : ∀ ρ', P ρ' → Ex c f rest ρ' Q) : Ex c f (st :: rest) ρ Q :=
  ex_cons (h1.mono fun fl ρ' h => by cases fl <;> first | exact h2 _ h | exact h)
/-- an if after which the ways meet again at P -/
theorem s_ifc (P : Rho → Prop) (ht : Tst c f ρ t q) (h1 : q = true → Ex c f body ρ (cutQ P Q)) (h2 : q = false → Ex c f orelse ρ (cutQ P Q)) (h3 : ∀ ρ', P ρ' → Ex c f rest ρ' Q) : Ex c f (.If t body orelse pos :: rest) ρ Q :=
  s_cut P (ex_if ht h1 h2) h3
theorem s_whenc (P : Rho → Prop) (ht : Tst c f ρ t q) (h1 : q = true → Ex c f body ρ (cutQ P Q)) (h2 : q = false → P ρ) (h3 : ∀ ρ', P ρ' → Ex c f rest ρ' Q) : Ex c f (.If t body [] pos :: rest) ρ Q :=
  s_cut P (ex_if ht h1 fun h => ex_nil (h2 h)) h3
theorem s_retO {x : Str} {xp : Pos} {d : PyData} {i : Nat} (hat : At f.xs ρ x ⟨.ow, d⟩ i) (hQ : Q (.ret d true) ρ) (hd : (x == ("__debug__" : Str)) = false := by decide +kernel) (hn : (x == ("__classdict__" : Str)) = false := by decide +kernel) :
    Ex c f (.Return (some (.Name x xp)) pos :: rest) ρ Q :=
  s_ret (ev_name_us hat hd hn) hQ (.inr (.inr (.inr ⟨[i], rfl, by simp, fun j hj => ⟨⟨.ow, d⟩, by rw [List.mem_singleton.mp hj]; exact hat.slot, rfl⟩⟩)))
end
/-- the cells of a law's script -/
noncomputable def cellD (ns : List Int) (i d : Int) : Int := if i < (ns.length : Int) then ns.getD i.toNat 0 else d
end Mine

namespace Mine
open PySem PySem.Spec PySem.Calls PyProof.Rows

/-! ranges with a step -/
noncomputable def intsS (a c : Int) (n : Nat) : List PyData := (List.range n).map fun i : Nat => .int (a + i * c)
section
variable {c : Cx} {f : Fm} {ρ : Rho} {mo : Addr → Prop} {val : Nat → Value} {fp : Nat → List Addr} {s : Shared} {E : Value → Shared → Prop} {pos : Pos} {k : EK}
end
/-! range(n) as Nats -/
noncomputable abbrev encN (i : Nat) : PyData := .int (i : Int)
section
variable {c : Cx} {f : Fm} {ρ : Rho} {pos : Pos} {k : EK}
theorem intsL0 (n : Nat) : intsL 0 n = (List.range n).map encN := by
  unfold intsL; exact List.map_congr_left fun i _ => by rw [Int.zero_add]
theorem it_n {e : Expr} {n : Nat} (h : It c f ρ e (intsL 0 n) k) : It c f ρ e ((List.range n).map encN) k := intsL0 n ▸ h
theorem encN_flat {n : Nat} : ∀ d ∈ (List.range n).map encN, flat d = true := flat_map (fun _ => rfl) _
theorem s_forN {x : Str} {xp : Pos} {i : Nat} {body rest : List Stmt} {Q : Fl → Rho → Prop} {iter : Expr} {n : Nat} (FS : FmS c f) (hx : Nm f.xs x i) (h : It c f ρ iter (intsL 0 n) .fr)
    (J : Nat → Rho → Prop) (h0 : J 0 ρ)
    (hb : ∀ j ρ', j < n → J j ρ' → ∃ ρ1, Upd f.xs ρ' x (some ⟨.lo, .int (j : Int)⟩) ρ1 i ∧ Ex c f body ρ1 (loopQ (J (j + 1)) (seqQ c f rest Q)))
    (hend : ∀ ρ', J n ρ' → Ex c f rest ρ' Q) (hs : ∀ env x, foldedSetIterable iter env x = pure x := by intro _ _; rfl) : Ex c f (.For (.Name x xp) iter body [] pos :: rest) ρ Q :=
  s_forR FS hx h J h0 (fun j ρ' hj hJ => by rw [Int.zero_add]; exact hb j ρ' hj hJ) hend hs
end
/-- membership of a Nat in a list of Nats, as python sees it -/
noncomputable abbrev nl (F : List Nat) : List PyData := F.map fun x : Nat => .int (x : Int)
end Mine

namespace Mine
open PySem PySem.Spec PySem.Calls PyProof.Rows
section
variable {c : Cx} {f : Fm} {ρ ρ' : Rho} {Q : Fl → Rho → Prop} {rest : List Stmt} {x : Str} {xs : List PyData} {i : Nat} {xp ap cp pos : Pos}
end
end Mine

namespace Mine
open PySem PySem.Spec PySem.Calls PyProof.Rows

/-- what slot a part of a value of a kind may fill -/
inductive Fills4 : EK → PyData → K → Prop
  | lo {d : PyData} : Fills4 .lo d .lo
  | fr {d : PyData} : Fills4 .fr d .lo
  | sh {d : PyData} : Fills4 .sh d .sh
  | flat {k : EK} {d : PyData} {sk : K} : flat d = true → sk ≠ .ow → Fills4 k d sk

section
variable {c : Cx} {f : Fm} {ρ ρ1 ρ2 : Rho} {mo : Addr → Prop} {val : Nat → Value} {fp : Nat → List Addr} {s s' : Shared} {E : Value → Shared → Prop}
  {Q : Fl → Rho → Prop} {rest : List Stmt} {e ei ei2 : Expr} {d d0 d1 d2 d01 d02 : PyData} {k k1 k2 : EK} {pos xp yp tp sp sp2 : Pos} {x y : Str} {i j n : Nat} {xs : List PyData} {sk sk1 sk2 : K}

theorem Fills4.ok {v : Value} {as bs : List Addr} (h : Fills4 k d sk) (S : St c f ρ mo val fp s) (r : Reads c.lo s'.toks s'.heap v d as) (sub : ∀ a ∈ as, a ∈ bs) (ko : KOk f mo fp s.heap s'.heap k bs) :
    sk ≠ .ow ∧ (∀ a ∈ as, ¬ mo a) ∧ (sk = .lo → ∀ a ∈ as, f.h₀.get? a = none) := by
  cases h with
  | lo => exact ⟨by nofun, fun a ha => (ko.2 a (sub a ha)).1, fun _ a ha => (ko.2 a (sub a ha)).2⟩
  | fr => have := (KOk.fr_lo S ko).2; exact ⟨by nofun, fun a ha => (this a (sub a ha)).1, fun _ a ha => (this a (sub a ha)).2⟩
  | sh => exact ⟨by nofun, fun a ha => ko.2 a (sub a ha), by nofun⟩
  | flat hf hs => rw [reads_flat r hf]; exact ⟨hs, nofun, fun _ => nofun⟩
theorem slotOk_of {as : List Addr} {h : Heap} (h1 : sk ≠ .ow) (h2 : ∀ a ∈ as, ¬ mo a) (h3 : sk = .lo → ∀ a ∈ as, f.h₀.get? a = none) : SlotOk f ρ i mo fp h sk as := by
  cases sk with
  | sh => exact h2
  | lo => exact fun a ha => ⟨h2 a ha, h3 rfl a ha⟩
  | ow => exact absurd rfl h1
theorem moWith_not {as : List Addr} {a : Addr} (h : sk ≠ .ow) (q : moWith mo sk as a) : mo a := q.elim id fun r => absurd r.1 h
theorem reads_keep (S : St c f ρ mo val fp s) (hk : ∀ b o, ¬ Pv f b → s.heap.get? b = some o → s'.heap.get? b = some o) {v : Value} {as : List Addr} (hL : f.env.locals ∉ as) (r : Reads c.lo s.toks s.heap v d as) (hT : s.toks ≤ s'.toks) : Reads c.lo s'.toks s'.heap v d as := by
  refine reads_upon r (fun a ha o e _ => ?_) (fun a o e ht hd => ?_) hT
  · obtain ⟨o', e', hl⟩ := reads_objs r a ha
    exact hk a o (pv_ld S e' hl (fun q => hL (q ▸ ha))) e
  · refine hk a o (fun hp => ?_) e
    obtain ⟨o2, h2, h3⟩ := pv_obj S hp
    rw [e] at h2; cases h2
    obtain ⟨_, _, hd⟩ := hd
    rcases h3 with ⟨_, _, h⟩ | ⟨_, h⟩ <;> rw [hd] at h <;> cases h
theorem two_of {vs : Array Value} (h : vs.size = 2) : ∃ v1 v2, vs.toList = [v1, v2] := by
  cases vs with | mk l =>
  match l, h with | [a, b], _ => exact ⟨a, b, rfl⟩

/-- x, y = e -/
theorem s_unp2 (FS : FmS c f) (h : Ev c f ρ e (.tuple [d1, d2]) k) (hk1 : Fills4 k d1 sk1) (hk2 : Fills4 k d2 sk2) (hU1 : Upd f.xs ρ x (some ⟨sk1, d1⟩) ρ1 i) (hU2 : Upd f.xs ρ1 y (some ⟨sk2, d2⟩) ρ2 j) (hQ : Ex c f rest ρ2 Q)
    (hs : ∀ env, swapsWithSole [.Tuple [.Name x xp, .Name y yp] n tp] e pos.line env = pure false := by intro _; rfl)
    (hw : ∀ env, swappedStores [.Tuple [.Name x xp, .Name y yp] n tp] e env = pure none := by intro _; rfl) :
    Ex c f (.Assign [.Tuple [.Name x xp, .Name y yp] n tp] e pos :: rest) ρ Q := by
  obtain ⟨hx1, hi1, rfl⟩ := hU1.get
  obtain ⟨hx2, hi2, rfl⟩ := hU2.get
  refine ex_cons fun mo val fp s S => ?_
  refine Assign_Tuple (h.bind S fun v s1 as x1 S1 r1 ko => ?_) (hs _) (hw _)
  cases r1 with | tuple g1 g2 g3 g4 =>
  rename_i t o vs m
  have hsz : vs.size = 2 := by simpa using readsAll_length g4
  refine assign_Tuple_tuple S.ok.room.hand ⟨_, g1, g2, _, g3⟩ (by rw [hsz]; rfl) rfl (fun h' he => ?_)
  have x2 : Ext c s1 { s1 with heap := h' } := Ext.of S1.wf fun b o q => he b o (Nat.ne_of_lt (Heap.lt_size q)) q
  have S2 := S1.ext x2
  obtain ⟨v1, v2, hvs⟩ := two_of hsz
  rw [hvs] at g4 ⊢
  obtain _ | ⟨q1, q2⟩ := g4
  obtain _ | ⟨q2, q3⟩ := q2
  cases q3
  rename_i as1 as2
  obtain ⟨a1, a2, a3⟩ := hk1.ok S q1 (fun a ha => List.mem_append_left _ ha) ko
  obtain ⟨b1, b2, b3⟩ := hk2.ok S q2 (fun a ha => List.mem_append_right _ (List.mem_append_left _ ha)) ko
  have hL1 : f.env.locals ∉ as1 := fun q => ko.1 (List.mem_append_left _ q)
  have hL2 : f.env.locals ∉ as2 := fun q => ko.1 (List.mem_append_right _ (List.mem_append_left _ q))
  show wpAny _ _ (do holding [v2] (assign (.Name x xp) f.env v1); assignInOrder [assign (.Name y yp) f.env] [v2]) _ _ _
  refine wpAny_bind (wpAny_holding (wpAny_assign_Name (wpAny_with_toks (n := s1.toks) (Nat.le_refl _) ?_)))
  refine store_step (sl := ⟨sk1, d1⟩) FS S2 hx1 hi1 (x2.reads S1.wf q1) hL1 (slotOk_of a1 a2 a3) fun s3 S3 hk3 th3 hle3 => ?_
  show wpAny _ _ (do holding [] (assign (.Name y yp) f.env v2); assignInOrder [] []) _ _ _
  refine wpAny_bind (wpAny_holding (wpAny_assign_Name ?_))
  refine store_step (sl := ⟨sk2, d2⟩) FS S3 hx2 hi2 (reads_keep S2 hk3 hL2 (x2.reads S1.wf q2) hle3) hL2 (slotOk_of b1 (fun a ha q => b2 a ha (moWith_not a1 q)) b3) fun s4 S4 hk4 th4 => ?_
  refine wpAny_pure ⟨.next, _, _, _, _, trivial, S4, ⟨fun b o g1 g2 _ q => hk4 b o g2 (hk3 b o g2 ((x1.trans x2).up.kp b o g1 q)), fun b o q => ?_, fun b q => .inl (moWith_not a1 (moWith_not b1 q))⟩, hQ⟩
  obtain ⟨o1, e1⟩ := (x1.trans x2).up.th b o q
  obtain ⟨o2, e2⟩ := th3 b o1 e1
  exact th4 b o2 e2

/-- a flat item laid into a list that a variable owns, by an assignment within another -/
theorem assign_sub {jj : Int} {K : Unit → Shared → Prop} (FS : FmS c f) (S : St c f ρ mo val fp s) (hat : At f.xs ρ x ⟨.ow, .list xs⟩ i) (hi : Ev c f ρ ei (.int jj) k2) {v : Value} (r1 : Reads c.lo s.toks s.heap v d []) (h0 : 0 ≤ jj) (hfit : jj < 2 ^ 63)
    (hx : xs[jj.toNat]? = some d0) (hd0 : flat d0 = true)
    (hK : ∀ s' mo' val' fp', St c f (ρ.set i (some ⟨.ow, .list (xs.set jj.toNat d)⟩)) mo' val' fp' s' → Step c f mo s mo' s' → K () s')
    (hdb : (x == ("__debug__" : Str)) = false) (hn : (x == ("__classdict__" : Str)) = false) (hrel : ∀ (iv v ov : Value), (match ei with | .Slice _ _ none _ => [iv, v, ov] | _ => [v, ov, iv]) = [v, ov, iv]) :
    wpAny c.M f.A (assign (.Subscript (.Name x xp) ei sp) f.env v) K E s := by
  rw [arm_assign_Subscript]
  refine wpAny_bind (wpAny_holding (name_step S hat (fun _ => ?_) hdb hn))
  refine wpAny_bind (wpAny_holding (hi.bind S fun iv s3 as3 x3 S3 r3 _ => ?_))
  refine wpAny_bind (wpAny_standAt ?_)
  have e0 := hat.slot
  obtain ⟨a, vs, m, as, hva, hfp, hl, hr, hma⟩ := owned_list S3 e0
  cases r3
  rw [hva]
  have hlen : vs.size = xs.length := by simpa using readsAll_length hr
  have hjl : jj.toNat < xs.length := (List.getElem?_eq_some_iff.mp hx).1
  refine wpAny_bind (wpAny_holding (setItem_isL hl h0 hfit (by omega) fun hl2 => wpAny_release ?_))
  have hsb : Heap.SameBut a s3.heap (s3.heap.update a (Obj.mapSeq (·.setIfInBounds jj.toNat v))) := sameBut_update ..
  have nd := (S3.own i _ e0 rfl).1
  rw [hfp] at nd
  have r1' := reads_but hsb (isL_notTup hl) (by nofun) (x3.reads S.wf r1)
  have hr2 := readsAll_but hsb (isL_notTup hl) (List.nodup_cons.mp nd).1 hr
  have rd : Reads c.lo s3.toks (s3.heap.update a (Obj.mapSeq (·.setIfInBounds jj.toNat v))) (val i) (.list (xs.set jj.toNat d)) (fp i) := by
    rw [hva, hfp]
    exact .list hl2 rfl rfl (by rw [Array.toList_setIfInBounds]; exact readsAll_set hr2 hx hd0 r1')
  have := S3.mut (tk := s3.toks) (as' := fp i) (extra := []) FS e0 (by rw [hfp]; exact List.mem_cons_self ..) hsb (Pl.of_isL hl2) rd (S3.own i _ e0 rfl).1 (fun a ha => .inl ha) nofun (fun _ _ _ _ _ _ h => by cases h) nofun
  exact hK _ _ _ _ this.1 ⟨fun b o h1 h2 h3 q => this.2.1 b o h3 (x3.up.kp b o h1 q), fun b o q => let ⟨o', q'⟩ := x3.up.th b o q; this.2.2 b o' q', fun b h => h.elim .inl (fun q => by cases q)⟩

/-- x[i], x[j] = (e1, e2), flat items of a list that x owns -/
theorem s_swap {jj1 jj2 : Int} {l1 l2 r1 r2 : Expr} {p1 p2 vp : Pos} {n2 : Nat} (FS : FmS c f) (hat : At f.xs ρ x ⟨.ow, .list xs⟩ i) (hv : Ev c f ρ (.Tuple [.Subscript l1 r1 p1, .Subscript l2 r2 p2] n2 vp) (.tuple [d1, d2]) k) (f1 : flat d1 = true) (f2 : flat d2 = true)
    (hi1 : Ev c f ρ ei (.int jj1) k1) (h01 : 0 ≤ jj1) (hfit1 : jj1 < 2 ^ 63) (hx1 : xs[jj1.toNat]? = some d01) (hd01 : flat d01 = true) (hU1 : Upd f.xs ρ x (some ⟨.ow, .list (xs.set jj1.toNat d1)⟩) ρ1 i)
    (hat2 : At f.xs ρ1 x ⟨.ow, .list (xs.set jj1.toNat d1)⟩ i)
    (hi2 : Ev c f ρ1 ei2 (.int jj2) k2) (h02 : 0 ≤ jj2) (hfit2 : jj2 < 2 ^ 63) (hx2 : (xs.set jj1.toNat d1)[jj2.toNat]? = some d02) (hd02 : flat d02 = true) (hU2 : Upd f.xs ρ1 x (some ⟨.ow, .list ((xs.set jj1.toNat d1).set jj2.toNat d2)⟩) ρ2 i)
    (hQ : Ex c f rest ρ2 Q)
    (hdb : (x == ("__debug__" : Str)) = false := by decide +kernel) (hn : (x == ("__classdict__" : Str)) = false := by decide +kernel)
    (hrel1 : ∀ (iv v ov : Value), (match ei with | .Slice _ _ none _ => [iv, v, ov] | _ => [v, ov, iv]) = [v, ov, iv] := by intros; rfl) (hrel2 : ∀ (iv v ov : Value), (match ei2 with | .Slice _ _ none _ => [iv, v, ov] | _ => [v, ov, iv]) = [v, ov, iv] := by intros; rfl)
    (hs : ∀ env, swapsWithSole [.Tuple [.Subscript (.Name x xp) ei sp, .Subscript (.Name x yp) ei2 sp2] n tp] (.Tuple [.Subscript l1 r1 p1, .Subscript l2 r2 p2] n2 vp) pos.line env = pure false := by intro _; rfl) :
    Ex c f (.Assign [.Tuple [.Subscript (.Name x xp) ei sp, .Subscript (.Name x yp) ei2 sp2] n tp] (.Tuple [.Subscript l1 r1 p1, .Subscript l2 r2 p2] n2 vp) pos :: rest) ρ Q := by
  obtain ⟨hy1, hi1', rfl⟩ := hU1.get
  obtain ⟨hy2, hi2', rfl⟩ := hU2.get
  have hw : swappedStores [.Tuple [.Subscript (.Name x xp) ei sp, .Subscript (.Name x yp) ei2 sp2] n tp] (.Tuple [.Subscript l1 r1 p1, .Subscript l2 r2 p2] n2 vp) f.env = pure none := by
    unfold swappedStores
    by_cases hb : (f.env.blockKind != .function) = true
    · simp [hb]
    · simp [hb]
  refine ex_cons fun mo val fp s S => ?_
  refine Assign_Tuple (hv.bind S fun v s1 as x1 S1 r1 ko => ?_) (hs _) hw
  cases r1 with | tuple g1 g2 g3 g4 =>
  rename_i t o vs m
  have hsz : vs.size = 2 := by simpa using readsAll_length g4
  refine assign_Tuple_tuple S.ok.room.hand ⟨_, g1, g2, _, g3⟩ (by rw [hsz]; rfl) rfl (fun h' he => ?_)
  have x2 : Ext c s1 { s1 with heap := h' } := Ext.of S1.wf fun b o q => he b o (Nat.ne_of_lt (Heap.lt_size q)) q
  have S2 := S1.ext x2
  obtain ⟨v1, v2, hvs⟩ := two_of hsz
  rw [hvs] at g4 ⊢
  obtain _ | ⟨q1, q2⟩ := g4
  obtain _ | ⟨q2, q3⟩ := q2
  cases q3
  have w1 := x2.reads S1.wf q1
  have w2 := x2.reads S1.wf q2
  rw [reads_flat q1 f1] at w1
  rw [reads_flat q2 f2] at w2
  show wpAny _ _ (do holding [v2] (assign (.Subscript (.Name x xp) ei sp) f.env v1); assignInOrder [assign (.Subscript (.Name x yp) ei2 sp2) f.env] [v2]) _ _ _
  refine wpAny_bind (wpAny_holding (wpAny_with_toks (n := s1.toks) (Nat.le_refl _) (assign_sub FS S2 hat hi1 w1 h01 hfit1 hx1 hd01 (fun s3 mo3 val3 fp3 S3 X3 hle3 => ?_) hdb hn hrel1)))
  show wpAny _ _ (do holding [] (assign (.Subscript (.Name x yp) ei2 sp2) f.env v2); assignInOrder [] []) _ _ _
  refine wpAny_bind (wpAny_holding (assign_sub FS S3 hat2 hi2 (reads_upon w2 (by nofun) (fun a o q hc hd => X3.tuple S2 q hc hd) hle3) h02 hfit2 hx2 hd02 (fun s4 mo4 val4 fp4 S4 X4 => ?_) hdb hn hrel2))
  exact wpAny_pure ⟨.next, _, _, _, _, trivial, S4, (Step.ext (x1.trans x2)).trans (X3.trans X4), hQ⟩
end
end Mine

namespace Mine
open PySem PySem.Spec PySem.Calls PyProof.Rows

noncomputable def fnAt (p : Program) (i : Nat) : FnD :=
  match p.main.body[i]? with
  | some (.FunctionDef name args body _ _ _ scope _ _ _) => ⟨name, args, body, scope⟩
  | _ => ⟨"", ⟨[], [], none, [], [], none, []⟩, [], { kind := .function, names := [], isGenerator := false, isCoroutine := false, more := [] }⟩

end Mine

namespace Mine
open PySem PySem.W PySem.Spec PySem.Calls PyProof.Rows

/-- the context of a law: the heap at its call -/
noncomputable def cxOf (prog : Program) (w : World) (s₁ : Shared) (mg mb : Str → Option Value) : Cx := ⟨prog, w, s₁.heap, fun _ => False, mg, mb, s₁.os, 0⟩

section
variable {p prog : Program} {loose : List Str} {mean : ExcName → Option Value} {mg mb : Str → Option Value} {w : World} {s₁ : Shared}

theorem cxOk_of (T : Top p loose mean mg mb s₁.heap) : CxOk (cxOf prog w s₁ mg mb) :=
  ⟨T.g, id, T.b, id, T.nolimit, id, T.nodigits, T.builtins⟩
theorem wf_of (hg : s₁.gens = #[]) : Wf (cxOf prog w s₁ mg mb) s₁ :=
  ⟨fun _ _ _ e => e, fun _ h => h.elim, OldK.refl _, AllBare.of_eq hg, rfl, Nat.zero_le _⟩
theorem stands_of (T : Top p loose mean mg mb s₁.heap) {d : FnD} {r : DefRec} (hr : r ∈ recsOf p) (e1 : r.name = d.name) (e2 : r.params = d.params) (e3 : r.body = d.body) (e4 : r.scope = d.scope) : Stands (cxOf prog w s₁ mg mb) d := by
  obtain ⟨a, o, pm, code, doc, h1, h2, h3, h4⟩ := T.fn r hr
  rw [e1, e2, e3, e4] at *
  exact ⟨a, o, pm, code, doc, h1, h2, id, h3, h4, fun _ _ => id⟩
theorem stands_ix (T : Top p loose mean mg mb s₁.heap) (i : Nat) {d : FnD} {r : DefRec} (hr : (recsOf p)[i]? = some r) (e : r.name = d.name ∧ r.params = d.params ∧ r.body = d.body ∧ r.scope = d.scope) : Stands (cxOf prog w s₁ mg mb) d :=
  stands_of T (List.mem_of_getElem? hr) e.1 e.2.1 e.2.2.1 e.2.2.2
theorem bi_of (T : Top p loose mean mg mb s₁.heap) {x : Str} {v : Value} (hb : bootBuiltins x = some v) (hne : x ≠ "__name__")
    (h : (decide (x ∉ startupNames) && decide (x ∉ loose) && decide (x ∉ (recsOf p).map (·.name)) && decide (x ∉ (litsOf p).map (·.1)) && decide (x ∉ (clssOf p loose).map (·.name))) = true) : Bi (cxOf prog w s₁ mg mb) x v := by
  simp only [Bool.and_eq_true, decide_eq_true_eq] at h
  exact ⟨T.free x h.1.1.1.1 h.1.1.1.2 h.1.1.2 h.1.2 h.2, hb, hne⟩
end

theorem law_end {prog : Program} {w : World} {s₁ : Shared} {mg mb : Str → Option Value} {cl : ClaimW} {cls : Str → Option Addr} {mean : ExcName → Option Value} {args : List WData} {d : FnD} {ds : List PyData} {vals : List Value} {as : List Addr} {fa : Addr} {lv : Nat} {u : Bool}
    (hg : s₁.gens = #[]) (hf : mg d.name = some (.ref fa)) (H : Stands (cxOf prog w s₁ mg mb) d) (h : Fn (cxOf prog w s₁ mg mb) lv d ds (.bool true) u) (hlv : lv ≤ 60) (r : ReadsAll 0 s₁.toks s₁.heap vals ds as)
    (hn : ∀ c, cl.raises args c = false) (hp : cl.post args (.bool true) args = true) :
    wpAny (model prog w) callerA (PySem.call (.ref fa) vals) (fun v s' => GoodWG cl cls mean args s₁ (.ok (.ret v)) s') (fun e s' => GoodWG cl cls mean args s₁ (.error e) s') s₁ := by
  obtain ⟨fa', o, pm, code, doc, H⟩ := H
  have : fa' = fa := by have := H.at_; rw [show (cxOf prog w s₁ mg mb).mg = mg from rfl, hf] at this; cases this; rfl
  subst this
  refine wpAny_mono (h callerA s₁ vals as _ fa' o pm code doc H ⟨rfl, ?_, ?_, rfl⟩ (wf_of hg) r) (fun v s' ⟨x, bs, r1, _, _⟩ => ?_) fun _ _ z => z
  · show 1 + claimMargin + 10 * lv + 10 < recursionLimit
    have h1 : claimMargin = 300 := rfl
    have h2 : recursionLimit = 1000 := rfl
    omega
  · show 4 + 100 * lv + 200 < cLine
    have h2 : cLine = 9900 := rfl
    omega
  · cases r1
    exact ⟨.inl ⟨_, .bool true, [], rfl, hn, .bool _, hp, fun _ => ⟨.nil, nofun⟩⟩, x.wf.old, x.wf.os, x.wf.gens⟩
end Mine

namespace Mine

/-! the heap's lists -/
noncomputable abbrev PN := Int × Nat
noncomputable def bef (a b : PN) : Bool := decide (a.1 < b.1) || ((a.1 == b.1) && decide ((a.2 : Int) < (b.2 : Int)))
noncomputable abbrev gP (xs : List PN) (i : Nat) : PN := xs.getD i (0, 0)
noncomputable def swp (xs : List PN) (i j : Nat) : List PN := (xs.set i (gP xs j)).set j (gP xs i)
theorem swp_len {xs : List PN} {i j : Nat} : (swp xs i j).length = xs.length := by simp [swp]
theorem gP_get {xs : List PN} {i : Nat} (h : i < xs.length) : xs[i]? = some (gP xs i) := by
  rw [gP, List.getD_eq_getElem?_getD, List.getElem?_eq_getElem h]; rfl
theorem swp_mem {xs : List PN} {i j : Nat} (hi : i < xs.length) (hj : j < xs.length) (y : PN) : y ∈ swp xs i j ↔ y ∈ xs := by
  have get : ∀ k, (swp xs i j)[k]? = if k = j then some (gP xs i) else if k = i then some (gP xs j) else xs[k]? := fun k => by
    unfold swp
    rw [List.getElem?_set, List.length_set]
    by_cases h1 : j = k
    · subst h1; simp [hj]
    · rw [if_neg h1, if_neg (fun q => h1 q.symm), List.getElem?_set]
      by_cases h2 : i = k
      · subst h2; simp [hi]
      · rw [if_neg h2, if_neg (fun q => h2 q.symm)]
  rw [List.mem_iff_getElem?, List.mem_iff_getElem?]
  constructor
  · rintro ⟨k, hk⟩
    rw [get] at hk
    by_cases h1 : k = j
    · rw [if_pos h1] at hk; exact ⟨i, by rw [gP_get hi]; exact hk⟩
    · rw [if_neg h1] at hk
      by_cases h2 : k = i
      · rw [if_pos h2] at hk; exact ⟨j, by rw [gP_get hj]; exact hk⟩
      · rw [if_neg h2] at hk; exact ⟨k, hk⟩
  · rintro ⟨k, hk⟩
    by_cases h1 : k = i
    · subst h1; refine ⟨j, ?_⟩; rw [get, if_pos rfl, ← gP_get hi]; exact hk
    · by_cases h2 : k = j
      · subst h2; refine ⟨i, ?_⟩; rw [get, if_neg (fun q => h1 q.symm), if_pos rfl, ← gP_get hj]; exact hk
      · exact ⟨k, by rw [get, if_neg h2, if_neg h1]; exact hk⟩
noncomputable def hUp : Nat → Nat → List PN → List PN
  | 0, _, xs => xs
  | f + 1, i, xs => if 0 < i ∧ bef (gP xs i) (gP xs ((i - 1) / 2)) = true then hUp f ((i - 1) / 2) (swp xs i ((i - 1) / 2)) else xs
theorem hUp_spec : ∀ (f i : Nat) (xs : List PN), i < xs.length → (hUp f i xs).length = xs.length ∧ ∀ y, y ∈ hUp f i xs ↔ y ∈ xs
  | 0, _, _, _ => ⟨rfl, fun _ => Iff.rfl⟩
  | f + 1, i, xs, h => by
    unfold hUp
    split
    · have hj : (i - 1) / 2 < xs.length := by omega
      obtain ⟨h1, h2⟩ := hUp_spec f ((i - 1) / 2) (swp xs i ((i - 1) / 2)) (by rw [swp_len]; exact hj)
      exact ⟨by rw [h1, swp_len], fun y => by rw [h2, swp_mem h hj]⟩
    · exact ⟨rfl, fun _ => Iff.rfl⟩
noncomputable def chd (xs : List PN) (i : Nat) : Nat := if 2 * i + 2 < xs.length ∧ bef (gP xs (2 * i + 2)) (gP xs (2 * i + 1)) = true then 2 * i + 2 else 2 * i + 1
theorem chd_lt {xs : List PN} {i : Nat} (h : 2 * i + 1 < xs.length) : chd xs i < xs.length ∧ i < chd xs i := by
  unfold chd; split <;> omega
noncomputable def hDn : Nat → Nat → List PN → List PN
  | 0, _, xs => xs
  | f + 1, i, xs => if 2 * i + 1 < xs.length ∧ bef (gP xs (chd xs i)) (gP xs i) = true then hDn f (chd xs i) (swp xs i (chd xs i)) else xs
theorem hDn_spec : ∀ (f i : Nat) (xs : List PN), (hDn f i xs).length = xs.length ∧ ∀ y, y ∈ hDn f i xs ↔ y ∈ xs
  | 0, _, _ => ⟨rfl, fun _ => Iff.rfl⟩
  | f + 1, i, xs => by
    unfold hDn
    split
    · rename_i h
      obtain ⟨h3, h4⟩ := chd_lt h.1
      obtain ⟨h1, h2⟩ := hDn_spec f (chd xs i) (swp xs i (chd xs i))
      exact ⟨by rw [h1, swp_len], fun y => by rw [h2, swp_mem (by omega) h3]⟩
    · exact ⟨rfl, fun _ => Iff.rfl⟩
noncomputable def hPush (xs : List PN) (p : PN) : List PN := hUp xs.length xs.length (xs ++ [p])
theorem hPush_spec (xs : List PN) (p : PN) : (hPush xs p).length = xs.length + 1 ∧ ∀ y, y ∈ hPush xs p ↔ (y ∈ xs ∨ y = p) := by
  obtain ⟨h1, h2⟩ := hUp_spec xs.length xs.length (xs ++ [p]) (by simp)
  exact ⟨by rw [hPush, h1]; simp, fun y => by rw [hPush, h2]; simp⟩
/-- what is left when the first is taken -/
noncomputable def hRest (xs : List PN) : List PN := if xs.length ≤ 1 then [] else hDn xs.length 0 ((xs.take (xs.length - 1)).set 0 (gP xs (xs.length - 1)))
theorem hRest_spec {xs : List PN} (h : 0 < xs.length) : (hRest xs).length + 1 = xs.length ∧ ∀ y, y ∈ xs ↔ (y = gP xs 0 ∨ y ∈ hRest xs) := by
  unfold hRest
  by_cases h1 : xs.length ≤ 1
  · rw [if_pos h1]
    match xs, h, h1 with
    | [x], _, _ => exact ⟨rfl, fun y => by simp [gP]⟩
  · rw [if_neg h1]
    obtain ⟨h2, h3⟩ := hDn_spec xs.length 0 ((xs.take (xs.length - 1)).set 0 (gP xs (xs.length - 1)))
    refine ⟨by rw [h2]; simp; omega, fun y => ?_⟩
    rw [h3]
    have get : ∀ k, ((xs.take (xs.length - 1)).set 0 (gP xs (xs.length - 1)))[k]? = if k = 0 then some (gP xs (xs.length - 1)) else if k < xs.length - 1 then xs[k]? else none := fun k => by
      rw [List.getElem?_set]
      by_cases q : 0 = k
      · subst q; simp; omega
      · rw [if_neg q, if_neg (fun e => q e.symm), List.getElem?_take]
    rw [List.mem_iff_getElem?, List.mem_iff_getElem?]
    constructor
    · rintro ⟨k, hk⟩
      have hkl : k < xs.length := (List.getElem?_eq_some_iff.mp hk).1
      by_cases q : k = 0
      · subst q; left; rw [gP_get hkl] at hk; exact (Option.some.inj hk).symm
      · right
        by_cases q2 : k = xs.length - 1
        · subst q2; exact ⟨0, by rw [get, if_pos rfl, ← gP_get hkl]; exact hk⟩
        · exact ⟨k, by rw [get, if_neg q, if_pos (by omega)]; exact hk⟩
    · rintro (q | ⟨k, hk⟩)
      · exact ⟨0, by rw [gP_get h, q]⟩
      · rw [get] at hk
        by_cases q : k = 0
        · rw [if_pos q] at hk; exact ⟨xs.length - 1, by rw [gP_get (by omega)]; exact hk⟩
        · rw [if_neg q] at hk
          split at hk
          · exact ⟨k, hk⟩
          · cases hk

/-! labels -/
noncomputable abbrev Ed := Nat × Nat × Int
inductive Rt (s : Nat) (P : Nat → Option Nat) : Nat → Prop
  | src : Rt s P s
  | step {v u : Nat} : P v = some u → Rt s P u → Rt s P v
noncomputable def updF {α : Type} (g : Nat → α) (i : Nat) (v : α) : Nat → α := fun j => if j = i then v else g j
/-- all sums of some of the weights -/
noncomputable def sums : List Int → List Int
  | [] => [0]
  | w :: ws => sums ws ++ (sums ws).map (w + ·)
theorem sums_len : ∀ ws, (sums ws).length = 2 ^ ws.length
  | [] => rfl
  | w :: ws => by rw [sums, List.length_append, List.length_map, sums_len ws, List.length_cons, Nat.pow_succ]; omega
theorem sums_erase {e : Ed} : ∀ {L : List Ed}, e ∈ L → (L.map (·.2.2)).sum = e.2.2 + ((L.erase e).map (·.2.2)).sum
  | x :: L, h => by
    rw [List.erase_cons]
    by_cases q : x = e
    · subst q; simp
    · rw [if_neg (by simpa using q)]
      have h' : e ∈ L := (List.mem_cons.mp h).resolve_left fun r => q r.symm
      rw [List.map_cons, List.sum_cons, sums_erase h', List.map_cons, List.sum_cons]; omega
theorem sums_mem : ∀ (es L : List Ed), L.Nodup → (∀ e ∈ L, e ∈ es) → (L.map (·.2.2)).sum ∈ sums (es.map (·.2.2))
  | [], L, _, h => by
    cases L with
    | nil => simp [sums]
    | cons x L => exact absurd (h x (List.mem_cons_self ..)) (by simp)
  | e :: es, L, hn, h => by
    rw [List.map_cons, sums]
    by_cases q : e ∈ L
    · refine List.mem_append_right _ (List.mem_map.mpr ⟨_, sums_mem es (L.erase e) (hn.erase e) (fun x hx => ?_), (sums_erase q).symm⟩)
      rcases List.mem_cons.mp (h x (List.mem_of_mem_erase hx)) with r | r
      · subst r; exact absurd hx (List.Nodup.not_mem_erase hn)
      · exact r
    · refine List.mem_append_left _ (sums_mem es L hn fun x hx => ?_)
      rcases List.mem_cons.mp (h x hx) with r | r
      · subst r; exact absurd hx q
      · exact r
noncomputable def rk (V : List Int) : Option Int → Nat
  | none => V.length
  | some d => (V.filter fun x => decide (x < d)).length
theorem rk_none {V : List Int} {d : Int} (h : d ∈ V) : rk V (some d) < rk V none :=
  List.length_filter_lt_length_iff_exists.mpr ⟨d, h, by simp⟩
theorem cnt_le {d d' : Int} (hlt : d < d') (V : List Int) : (V.filter fun x => decide (x < d)).length ≤ (V.filter fun x => decide (x < d')).length := by
  induction V with
  | nil => exact Nat.le_refl _
  | cons x V ih =>
    rw [List.filter_cons, List.filter_cons]
    by_cases q : x < d
    · rw [if_pos (by simpa using q), if_pos (by simp; omega), List.length_cons, List.length_cons]; omega
    · rw [if_neg (by simpa using q)]
      by_cases q2 : x < d'
      · rw [if_pos (by simpa using q2), List.length_cons]; omega
      · rw [if_neg (by simpa using q2)]; exact ih
theorem rk_some {d d' : Int} (hlt : d < d') {V : List Int} (h : d ∈ V) : rk V (some d) < rk V (some d') := by
  show (V.filter fun x => decide (x < d)).length < (V.filter fun x => decide (x < d')).length
  induction V with
  | nil => cases h
  | cons x V ih =>
    rw [List.filter_cons, List.filter_cons]
    rcases List.mem_cons.mp h with rfl | h
    · rw [if_neg (by simp), if_pos (by simpa using hlt), List.length_cons]
      have := cnt_le hlt V; omega
    · have := ih h
      by_cases q : x < d
      · rw [if_pos (by simpa using q), if_pos (by simp; omega), List.length_cons, List.length_cons]; omega
      · rw [if_neg (by simpa using q)]
        by_cases q2 : x < d'
        · rw [if_pos (by simpa using q2), List.length_cons]; omega
        · rw [if_neg (by simpa using q2)]; exact this
theorem rk_le {V : List Int} (o : Option Int) : rk V o ≤ V.length := by
  cases o with
  | none => exact Nat.le_refl _
  | some d => exact List.length_filter_le ..
noncomputable def suN : Nat → (Nat → Nat) → Nat
  | 0, _ => 0
  | n + 1, f => suN n f + f n
theorem suN_congr {n : Nat} {f g : Nat → Nat} (h : ∀ i, i < n → f i = g i) : suN n f = suN n g := by
  induction n with
  | zero => rfl
  | succ n ih => rw [suN, suN, ih fun i hi => h i (by omega), h n (by omega)]
theorem suN_at {n a : Nat} {f g : Nat → Nat} (h : a < n) (hg : ∀ i, i ≠ a → g i = f i) : suN n g + f a = suN n f + g a := by
  induction n with
  | zero => omega
  | succ n ih =>
    rw [suN, suN]
    by_cases q : a = n
    · subst q; rw [suN_congr (g := f) fun i hi => hg i (by omega)]; omega
    · have := ih (by omega); rw [hg n (fun e => q e.symm)]; omega
theorem suN_bd {n k : Nat} {f : Nat → Nat} (h : ∀ i, f i ≤ k) : suN n f ≤ n * k := by
  induction n with
  | zero => exact Nat.zero_le _
  | succ n ih => rw [suN, Nat.succ_mul]; have := h n; omega
noncomputable def mea (n : Nat) (es : List Ed) (D : Nat → Option Int) : Nat := suN n fun v => rk (sums (es.map (·.2.2))) (D v)
theorem mea_le (n : Nat) (es : List Ed) (D : Nat → Option Int) : mea n es D ≤ n * 2 ^ es.length := by
  unfold mea
  have := suN_bd (n := n) (f := fun v => rk (sums (es.map (·.2.2))) (D v)) (fun v => rk_le (D v))
  rw [sums_len, List.length_map] at this; exact this

structure DI (n s : Nat) (es : List Ed) (D : Nat → Option Int) (P : Nat → Option Nat) (H : List PN) (pend : Ed → Prop) : Prop where
  d0 : D s = some 0
  p0 : P s = none
  nn : ∀ v d, D v = some d → 0 ≤ d
  lt : ∀ v d, D v = some d → v < n
  non : ∀ v, D v = none → P v = none
  par : ∀ v d, v ≠ s → D v = some d → ∃ u w du, P v = some u ∧ (u, v, w) ∈ es ∧ D u = some du ∧ du + w ≤ d
  rt : ∀ v d, D v = some d → Rt s P v
  hp : ∀ x ∈ H, x.2 < n
  edge : ∀ e ∈ es, ∀ d, D e.1 = some d → (∃ d', D e.2.1 = some d' ∧ d' ≤ d + e.2.2) ∨ (d, e.1) ∈ H ∨ pend e
  pth : ∀ v d, D v = some d → ∃ L : List Ed, L.Nodup ∧ (∀ e ∈ L, e ∈ es ∧ ∃ d', D e.2.1 = some d' ∧ d' ≤ d) ∧ (L.map (·.2.2)).sum = d

section
variable {n s : Nat} {es : List Ed} {D : Nat → Option Int} {P : Nat → Option Nat} {H H' : List PN} {pend : Ed → Prop}

theorem DI.init (hs : s < n) : DI n s es (updF (fun _ => none) s (some 0)) (fun _ => none) [(0, s)] (fun _ => False) where
  d0 := by simp [updF]
  p0 := rfl
  nn := fun v d h => by
    unfold updF at h; split at h
    · cases h; exact Int.le_refl _
    · cases h
  lt := fun v d h => by
    unfold updF at h; split at h
    · omega
    · cases h
  non := fun _ _ => rfl
  par := fun v d hv h => by simp [updF, hv] at h
  rt := fun v d h => by
    unfold updF at h; split at h
    · rename_i q; rw [q]; exact .src
    · cases h
  hp := fun x hx => by simp at hx; rw [hx]; exact hs
  edge := fun e he d h => by
    unfold updF at h; split at h
    · rename_i q; cases h; rw [q]; exact .inr (.inl (by simp))
    · cases h
  pth := fun v d h => by
    unfold updF at h; split at h
    · cases h; exact ⟨[], .nil, nofun, rfl⟩
    · cases h

/-- a pair that is out of date is taken from the heap -/
theorem DI.popOld (I : DI n s es D P H pend) {x : PN} (hH : ∀ y, y ∈ H ↔ (y = x ∨ y ∈ H')) (hx : D x.2 ≠ some x.1) : DI n s es D P H' pend :=
  { I with
    hp := fun y hy => I.hp y ((hH y).mpr (.inr hy))
    edge := fun e he d h => by
      rcases I.edge e he d h with q | q | q
      · exact .inl q
      · rcases (hH _).mp q with r | r
        · exact absurd (by rw [← r]; exact h) hx
        · exact .inr (.inl r)
      · exact .inr (.inr q) }
theorem DI.popNow (I : DI n s es D P H fun _ => False) {x : PN} (hH : ∀ y, y ∈ H ↔ (y = x ∨ y ∈ H')) : DI n s es D P H' (fun e => e ∈ es.filter fun e => e.1 == x.2) :=
  { I with
    hp := fun y hy => I.hp y ((hH y).mpr (.inr hy))
    edge := fun e he d h => by
      rcases I.edge e he d h with q | q | q
      · exact .inl q
      · rcases (hH _).mp q with r | r
        · refine .inr (.inr (List.mem_filter.mpr ⟨he, ?_⟩))
          rw [← r]; simp
        · exact .inr (.inl r)
      · exact q.elim }
theorem DI.skip {pend' : Ed → Prop} (I : DI n s es D P H pend) {e0 : Ed} {d : Int} (hd : D e0.1 = some d) (hp : ∀ e, pend e → e = e0 ∨ pend' e) {d' : Int} (hv : D e0.2.1 = some d') (hle : d' ≤ d + e0.2.2) : DI n s es D P H pend' :=
  { I with
    edge := fun e he da h => by
      rcases I.edge e he da h with q | q | q
      · exact .inl q
      · exact .inr (.inl q)
      · rcases hp e q with r | r
        · subst r; rw [hd] at h; cases h; exact .inl ⟨d', hv, hle⟩
        · exact .inr (.inr r) }
theorem DI.relax {pend' : Ed → Prop} (I : DI n s es D P H pend) (hwn : ∀ e ∈ es, 0 ≤ e.2.2) {e0 : Ed} {d : Int} (he0 : e0 ∈ es) (hvn : e0.2.1 < n) (hd : D e0.1 = some d) (hp : ∀ e, pend e → e = e0 ∨ pend' e)
    (hv : ∀ d', D e0.2.1 = some d' → d + e0.2.2 < d') (hH : ∀ y, y ∈ H' ↔ (y ∈ H ∨ y = (d + e0.2.2, e0.2.1))) :
    DI n s es (updF D e0.2.1 (some (d + e0.2.2))) (updF P e0.2.1 (some e0.1)) H' pend' ∧ e0.2.1 ≠ e0.1 := by
  obtain ⟨u, v, w⟩ := e0
  simp only at *
  have hw0 := hwn _ he0
  simp only at hw0
  have hnnd := I.nn u d hd
  have hvs : v ≠ s := fun q => by
    have := hv 0 (by rw [q]; exact I.d0); omega
  have hvu : v ≠ u := fun q => by
    have := hv d (by rw [q]; exact hd); omega
  have ne : ∀ x, x ≠ v → updF D v (some (d + w)) x = D x := fun x hx => by simp [updF, hx]
  have neP : ∀ x, x ≠ v → updF P v (some u) x = P x := fun x hx => by simp [updF, hx]
  have atv : updF D v (some (d + w)) v = some (d + w) := by simp [updF]
  have atvP : updF P v (some u) v = some u := by simp [updF]
  -- who stands no higher than u keeps his way
  have key : ∀ x, Rt s P x → ∀ dx, D x = some dx → dx ≤ d → Rt s (updF P v (some u)) x := by
    intro x hx
    induction hx with
    | src => intro _ _ _; exact .src
    | @step x y hxy _ ih =>
      intro dx hdx hle
      by_cases hxs : x = s
      · rw [hxs]; exact .src
      have hxv : x ≠ v := fun q => by have := hv dx (by rw [← q]; exact hdx); omega
      obtain ⟨u', w', du, h1, h2, h3, h4⟩ := I.par x dx hxs hdx
      rw [hxy] at h1; cases h1
      have := hwn _ h2
      simp only at this
      exact .step (by rw [neP x hxv]; exact hxy) (ih du h3 (by omega))
  have rtv : Rt s (updF P v (some u)) v := .step atvP (key u (I.rt u d hd) d hd (Int.le_refl _))
  have all : ∀ x, Rt s P x → Rt s (updF P v (some u)) x := by
    intro x hx
    induction hx with
    | src => exact .src
    | @step x y hxy _ ih =>
      by_cases hxv : x = v
      · rw [hxv]; exact rtv
      · exact .step (by rw [neP x hxv]; exact hxy) ih
  have less : ∀ x dx, D x = some dx → ∃ d', updF D v (some (d + w)) x = some d' ∧ d' ≤ dx := fun x dx h => by
    by_cases hx : x = v
    · exact ⟨d + w, by rw [hx]; exact atv, by have := hv dx (by rw [← hx]; exact h); omega⟩
    · exact ⟨dx, by rw [ne x hx]; exact h, Int.le_refl _⟩
  refine ⟨⟨by rw [ne s (fun q => hvs q.symm)]; exact I.d0, by rw [neP s (fun q => hvs q.symm)]; exact I.p0, fun x dx h => ?_, fun x dx h => ?_, fun x h => ?_, fun x dx hxs h => ?_, fun x dx h => ?_, fun x hx => ?_, fun e he da h => ?_, fun x dx h => ?_⟩, hvu⟩
  · by_cases hx : x = v
    · rw [hx, atv] at h; cases h; omega
    · rw [ne x hx] at h; exact I.nn x dx h
  · by_cases hx : x = v
    · rw [hx]; exact hvn
    · rw [ne x hx] at h; exact I.lt x dx h
  · by_cases hx : x = v
    · rw [hx, atv] at h; cases h
    · rw [ne x hx] at h; rw [neP x hx]; exact I.non x h
  · by_cases hx : x = v
    · rw [hx, atv] at h; cases h
      exact ⟨u, w, d, by rw [hx]; exact atvP, by rw [hx]; exact he0, by rw [ne u (fun q => hvu q.symm)]; exact hd, Int.le_refl _⟩
    · rw [ne x hx] at h
      obtain ⟨u', w', du, h1, h2, h3, h4⟩ := I.par x dx hxs h
      by_cases hu : u' = v
      · refine ⟨u', w', d + w, by rw [neP x hx]; exact h1, h2, by rw [hu]; exact atv, ?_⟩
        have := hv du (by rw [← hu]; exact h3); omega
      · exact ⟨u', w', du, by rw [neP x hx]; exact h1, h2, by rw [ne u' hu]; exact h3, h4⟩
  · by_cases hx : x = v
    · rw [hx]; exact rtv
    · rw [ne x hx] at h; exact all x (I.rt x dx h)
  · rcases (hH x).mp hx with q | q
    · exact I.hp x q
    · rw [q]; exact hvn
  · by_cases hx : e.1 = v
    · rw [hx, atv] at h; cases h
      exact .inr (.inl ((hH _).mpr (.inr (by rw [hx]))))
    · rw [ne _ hx] at h
      have better : ∀ d', D e.2.1 = some d' → d' ≤ da + e.2.2 → ∃ d', updF D v (some (d + w)) e.2.1 = some d' ∧ d' ≤ da + e.2.2 := fun d' h1 h2 => by
        by_cases hy : e.2.1 = v
        · refine ⟨d + w, by rw [hy]; exact atv, ?_⟩
          have := hv d' (by rw [← hy]; exact h1); omega
        · exact ⟨d', by rw [ne _ hy]; exact h1, h2⟩
      rcases I.edge e he da h with ⟨d', h1, h2⟩ | q | q
      · exact .inl (better d' h1 h2)
      · exact .inr (.inl ((hH _).mpr (.inl q)))
      · rcases hp e q with r | r
        · subst r; rw [hd] at h; cases h
          exact .inl ⟨d + w, atv, Int.le_refl _⟩
        · exact .inr (.inr r)
  · by_cases hx : x = v
    · rw [hx, atv] at h; cases h
      obtain ⟨L, l1, l2, l3⟩ := I.pth u d hd
      refine ⟨(u, v, w) :: L, List.nodup_cons.mpr ⟨fun q => ?_, l1⟩, fun e he => ?_, ?_⟩
      · obtain ⟨_, d', e1, e2⟩ := l2 _ q
        have := hv d' e1; omega
      · rcases List.mem_cons.mp he with rfl | he
        · exact ⟨he0, d + w, atv, Int.le_refl _⟩
        · obtain ⟨e0, d', e1, e2⟩ := l2 e he
          obtain ⟨d2, e3, e4⟩ := less _ d' e1
          exact ⟨e0, d2, e3, by omega⟩
      · rw [List.map_cons, List.sum_cons, l3]; show w + d = d + w; omega
    · rw [ne x hx] at h
      obtain ⟨L, l1, l2, l3⟩ := I.pth x dx h
      refine ⟨L, l1, fun e he => ?_, l3⟩
      obtain ⟨e0, d', e1, e2⟩ := l2 e he
      obtain ⟨d2, e3, e4⟩ := less _ d' e1
      exact ⟨e0, d2, e3, by omega⟩
theorem DI.val (I : DI n s es D P H pend) {v : Nat} {d : Int} (h : D v = some d) : d ∈ sums (es.map (·.2.2)) := by
  obtain ⟨L, l1, l2, l3⟩ := I.pth v d h
  rw [← l3]; exact sums_mem es L l1 fun e he => (l2 e he).1
theorem mea_relax {v : Nat} {far : Int} (I' : DI n s es (updF D v (some far)) P H pend) (hvn : v < n) (hv : ∀ d', D v = some d' → far < d') : mea n es (updF D v (some far)) + 1 ≤ mea n es D := by
  have hm := I'.val (v := v) (d := far) (by simp [updF])
  unfold mea
  have e := suN_at (n := n) (a := v) (f := fun v => rk (sums (es.map (·.2.2))) (D v)) (g := fun x => rk (sums (es.map (·.2.2))) (updF D v (some far) x)) hvn (fun i hi => by simp [updF, hi])
  have e2 : updF D v (some far) v = some far := by simp [updF]
  simp only [e2] at e
  have : rk (sums (es.map (·.2.2))) (some far) < rk (sums (es.map (·.2.2))) (D v) := by
    cases hD : D v with
    | none => exact rk_none hm
    | some d' => exact rk_some (hv d' hD) hm
  omega

/-! the way back -/
noncomputable def itB (s : Nat) (P : Nat → Option Nat) : Nat → Nat → Nat
  | 0, v => v
  | k + 1, v => if itB s P k v = s then itB s P k v else (P (itB s P k v)).getD 0
theorem itB_add (s : Nat) (P : Nat → Option Nat) (v : Nat) (a : Nat) : ∀ b, itB s P (a + b) v = itB s P b (itB s P a v)
  | 0 => rfl
  | b + 1 => by rw [← Nat.add_assoc, itB, itB, itB_add s P v a b]
theorem itB_src (s : Nat) (P : Nat → Option Nat) : ∀ k, itB s P k s = s
  | 0 => rfl
  | k + 1 => by rw [itB, itB_src s P k, if_pos rfl]
theorem rt_it {v : Nat} (h : Rt s P v) : ∃ k, itB s P k v = s := by
  induction h with
  | src => exact ⟨0, rfl⟩
  | @step v u h1 _ ih =>
    obtain ⟨k, hk⟩ := ih
    by_cases q : v = s
    · exact ⟨0, q⟩
    · refine ⟨1 + k, ?_⟩
      rw [itB_add]
      have : itB s P 1 v = u := by show (if v = s then v else (P v).getD 0) = u; rw [if_neg q, h1]; rfl
      rw [this]; exact hk
theorem least_nat {p : Nat → Prop} (h : ∃ k, p k) : ∃ k, p k ∧ ∀ j, j < k → ¬ p j := by
  obtain ⟨k, hk⟩ := h
  induction k using Nat.strongRecOn with
  | _ k ih =>
    by_cases q : ∃ j, j < k ∧ p j
    · obtain ⟨j, hj, hp⟩ := q; exact ih j hj hp
    · exact ⟨k, hk, fun j hj hp => q ⟨j, hj, hp⟩⟩
theorem pigeon : ∀ (n k : Nat) (g : Nat → Nat), (∀ i, i < k → g i < n) → (∀ i j, i < j → j < k → g i ≠ g j) → k ≤ n
  | 0, k, g, h1, _ => by
    rcases Nat.eq_zero_or_pos k with q | q
    · omega
    · exact absurd (h1 0 q) (Nat.not_lt_zero _)
  | n + 1, k, g, h1, h2 => by
    by_cases q : ∃ i, i < k ∧ g i = n
    · obtain ⟨i, hi, hgi⟩ := q
      have := pigeon n (k - 1) (fun j => if j < i then g j else g (j + 1)) (fun j hj => by
        show (if j < i then g j else g (j + 1)) < n
        split
        · rename_i hji
          have a := h1 j (by omega)
          have b := h2 j i hji hi; omega
        · rename_i hji
          have a := h1 (j + 1) (by omega)
          have b := h2 i (j + 1) (by omega) (by omega); omega) (fun a b hab hb => by
        show (if a < i then g a else g (a + 1)) ≠ (if b < i then g b else g (b + 1))
        split <;> split <;> first | exact h2 _ _ (by omega) (by omega) | omega)
      omega
    · have := pigeon n k g (fun j hj => by
        have a := h1 j hj
        have : g j ≠ n := fun e => q ⟨j, hj, e⟩
        omega) h2
      omega
theorem it_end (hP : ∀ v u, P v = some u → u < n) (hs : s < n) {v : Nat} (hv : v < n) (h : Rt s P v) : itB s P n v = s := by
  obtain ⟨k, hk, hmin⟩ := least_nat (rt_it h)
  have hn0 : 0 < n := by omega
  have lt : ∀ j, itB s P j v < n := by
    intro j
    induction j with
    | zero => exact hv
    | succ j ih =>
      rw [itB]; split
      · exact ih
      · cases q : P (itB s P j v) with
        | none => exact hn0
        | some u => exact hP _ _ q
  have inj : ∀ i j, i < j → j < k + 1 → itB s P i v ≠ itB s P j v := fun i j hij hj e => by
    have h1 : k = j + (k - j) := by omega
    have h2 : itB s P (i + (k - j)) v = s := by rw [itB_add, e, ← itB_add, ← h1]; exact hk
    exact hmin (i + (k - j)) (by omega) h2
  have hkn := pigeon n (k + 1) (fun j => itB s P j v) (fun j _ => lt j) inj
  have : n = k + (n - k) := by omega
  rw [this, itB_add, hk, itB_src]
/-- the end -/
theorem DI.fin (I : DI n s es D P [] fun _ => False) (hs : s < n) (hes : ∀ e ∈ es, e.1 < n ∧ e.2.1 < n) :
    (∀ e ∈ es, ∀ d, D e.1 = some d → ∃ d', D e.2.1 = some d' ∧ d' ≤ d + e.2.2) ∧
    (∀ v d, v ≠ s → D v = some d → ∃ u du, P v = some u ∧ u < n ∧ D u = some du ∧ (u, v, d - du) ∈ es) ∧
    (∀ v d, D v = some d → itB s P n v = s) ∧ ∀ v u, P v = some u → u < n := by
  have rel : ∀ e ∈ es, ∀ d, D e.1 = some d → ∃ d', D e.2.1 = some d' ∧ d' ≤ d + e.2.2 := fun e he d h => by
    rcases I.edge e he d h with q | q | q
    · exact q
    · cases q
    · exact q.elim
  have hP : ∀ v u, P v = some u → u < n := fun v u h => by
    cases hD : D v with
    | none => rw [I.non v hD] at h; cases h
    | some d =>
      have hvs : v ≠ s := fun q => by rw [q, I.p0] at h; cases h
      obtain ⟨u', w, du, h1, h2, _, _⟩ := I.par v d hvs hD
      rw [h] at h1; cases h1; exact (hes _ h2).1
  refine ⟨rel, fun v d hv h => ?_, fun v d h => it_end hP hs (I.lt v d h) (I.rt v d h), hP⟩
  obtain ⟨u, w, du, h1, h2, h3, h4⟩ := I.par v d hv h
  obtain ⟨d', h5, h6⟩ := rel _ h2 du h3
  simp only at h5 h6
  rw [h] at h5; cases h5
  exact ⟨u, du, h1, hP v u h1, h3, by rw [show d - du = w by omega]; exact h2⟩
/-! the run -/
noncomputable abbrev Dst := (Nat → Option Int) × (Nat → Option Nat) × List PN
noncomputable def impr (D : Nat → Option Int) (v : Nat) (far : Int) : Bool :=
  match D v with
  | none => true
  | some d' => decide (far < d')
theorem impr_iff {v : Nat} {far : Int} : impr D v far = true ↔ ∀ d', D v = some d' → far < d' := by
  unfold impr
  cases D v with
  | none => simp
  | some d => simp
noncomputable def dst1 (u : Nat) (d : Int) (st : Dst) (p : Nat × Int) : Dst :=
  if impr st.1 p.1 (d + p.2) = true then (updF st.1 p.1 (some (d + p.2)), updF st.2.1 p.1 (some u), hPush st.2.2 (d + p.2, p.1)) else st
theorem dst1_ok {st : Dst} {u : Nat} {d : Int} {p : Nat × Int} {L : List Ed} (I : DI n s es st.1 st.2.1 st.2.2 (fun e => e ∈ (u, p) :: L)) (hwn : ∀ e ∈ es, 0 ≤ e.2.2) (he : (u, p) ∈ es) (hvn : p.1 < n) (hd : st.1 u = some d) :
    DI n s es (dst1 u d st p).1 (dst1 u d st p).2.1 (dst1 u d st p).2.2 (fun e => e ∈ L) ∧ (dst1 u d st p).1 u = some d ∧
    2 * mea n es (dst1 u d st p).1 + (dst1 u d st p).2.2.length ≤ 2 * mea n es st.1 + st.2.2.length := by
  unfold dst1
  by_cases h : impr st.1 p.1 (d + p.2) = true
  · rw [if_pos h]
    have hv := impr_iff.mp h
    obtain ⟨l1, l2⟩ := hPush_spec st.2.2 (d + p.2, p.1)
    obtain ⟨I', hne⟩ := I.relax (pend' := fun e => e ∈ L) (H' := hPush st.2.2 (d + p.2, p.1)) hwn (e0 := (u, p)) he hvn hd (fun e q => List.mem_cons.mp q) hv l2
    have hm : mea n es (updF st.1 p.1 (some (d + p.2))) + 1 ≤ mea n es st.1 := mea_relax I' hvn hv
    refine ⟨I', ?_, ?_⟩
    · show updF st.1 p.1 _ u = some d
      unfold updF; rw [if_neg (fun q => hne q.symm)]; exact hd
    · show 2 * mea n es (updF st.1 p.1 (some (d + p.2))) + (hPush st.2.2 (d + p.2, p.1)).length ≤ _
      rw [l1]; omega
  · rw [if_neg h]
    refine ⟨?_, hd, Nat.le_refl _⟩
    unfold impr at h
    cases hD : st.1 p.1 with
    | none => rw [hD] at h; exact absurd rfl h
    | some d' =>
      rw [hD] at h
      have h : ¬ d + p.2 < d' := by simpa using h
      exact I.skip (e0 := (u, p)) hd (fun e q => List.mem_cons.mp q) hD (by show d' ≤ d + p.2; omega)
noncomputable def nrL (es : List Ed) (u : Nat) : List (Nat × Int) := (es.filter fun e => e.1 == u).map (·.2)
noncomputable def dRun (es : List Ed) : Nat → Dst → Dst
  | 0, st => st
  | f + 1, st => if st.2.2.length = 0 then st else
      if st.1 (gP st.2.2 0).2 = some (gP st.2.2 0).1 then dRun es f ((nrL es (gP st.2.2 0).2).foldl (dst1 (gP st.2.2 0).2 (gP st.2.2 0).1) (st.1, st.2.1, hRest st.2.2)) else dRun es f (st.1, st.2.1, hRest st.2.2)
theorem dRun_nil {f : Nat} {st : Dst} (h : st.2.2.length = 0) : dRun es f st = st := by
  cases f with
  | zero => rfl
  | succ f => rw [dRun, if_pos h]
/-- after j of the neighbours -/
theorem fold_ok (hwn : ∀ e ∈ es, 0 ≤ e.2.2) (hes : ∀ e ∈ es, e.1 < n ∧ e.2.1 < n) {u : Nat} {d : Int} {st : Dst} (I : DI n s es st.1 st.2.1 st.2.2 (fun e => e ∈ es.filter fun e => e.1 == u)) (hd : st.1 u = some d) :
    ∀ j, j ≤ (nrL es u).length → let r := ((nrL es u).take j).foldl (dst1 u d) st
      DI n s es r.1 r.2.1 r.2.2 (fun e => e ∈ (es.filter fun e => e.1 == u).drop j) ∧ r.1 u = some d ∧ 2 * mea n es r.1 + r.2.2.length ≤ 2 * mea n es st.1 + st.2.2.length
  | 0, _ => ⟨by simpa using I, hd, Nat.le_refl _⟩
  | j + 1, hj => by
    obtain ⟨I1, h1, m1⟩ := fold_ok hwn hes I hd j (by omega)
    have hjl : j < (es.filter fun e => e.1 == u).length := by unfold nrL at hj; rw [List.length_map] at hj; omega
    obtain ⟨e, he⟩ : ∃ e, (es.filter fun e => e.1 == u)[j]? = some e := ⟨_, List.getElem?_eq_getElem hjl⟩
    have hmem := List.mem_filter.mp (List.mem_of_getElem? he)
    obtain ⟨u', p⟩ := e
    have hu : u' = u := by simpa using hmem.2
    subst hu
    have hp : (nrL es u')[j]? = some p := by unfold nrL; rw [List.getElem?_map, he]; rfl
    have hdrop : (es.filter fun e => e.1 == u').drop j = (u', p) :: (es.filter fun e => e.1 == u').drop (j + 1) := by
      rw [List.drop_eq_getElem_cons hjl]
      congr 1
      rw [List.getElem?_eq_getElem hjl] at he; exact Option.some.inj he
    intro r
    have hr : r = dst1 u' d (((nrL es u').take j).foldl (dst1 u' d) st) p := by
      show ((nrL es u').take (j + 1)).foldl (dst1 u' d) st = _
      rw [List.take_add_one, hp, Option.toList_some, List.foldl_append]; rfl
    rw [hr]
    rw [hdrop] at I1
    obtain ⟨a, b, c⟩ := dst1_ok I1 hwn hmem.1 (hes _ hmem.1).2 h1
    exact ⟨a, b, Nat.le_trans c m1⟩
theorem dRun_ok (hwn : ∀ e ∈ es, 0 ≤ e.2.2) (hes : ∀ e ∈ es, e.1 < n ∧ e.2.1 < n) : ∀ (f : Nat) (st : Dst), DI n s es st.1 st.2.1 st.2.2 (fun _ => False) → 2 * mea n es st.1 + st.2.2.length ≤ f →
    DI n s es (dRun es f st).1 (dRun es f st).2.1 (dRun es f st).2.2 (fun _ => False) ∧ (dRun es f st).2.2 = []
  | 0, st, I, h => ⟨I, List.length_eq_zero_iff.mp (by show st.2.2.length = 0; omega)⟩
  | f + 1, st, I, h => by
    unfold dRun
    by_cases h0 : st.2.2.length = 0
    · rw [if_pos h0]; exact ⟨I, List.length_eq_zero_iff.mp h0⟩
    · rw [if_neg h0]
      obtain ⟨l1, l2⟩ := hRest_spec (xs := st.2.2) (by omega)
      by_cases q : st.1 (gP st.2.2 0).2 = some (gP st.2.2 0).1
      · rw [if_pos q]
        have I1 := I.popNow l2
        obtain ⟨a, _, m⟩ := fold_ok (st := (st.1, st.2.1, hRest st.2.2)) hwn hes I1 q _ (Nat.le_refl _)
        rw [List.take_length] at a m
        refine dRun_ok hwn hes f _ ?_ ?_
        · refine { a with edge := fun e he d hd => ?_ }
          rcases a.edge e he d hd with k | k | k
          · exact .inl k
          · exact .inr (.inl k)
          · rw [show (nrL es (gP st.2.2 0).2).length = (es.filter fun e => e.1 == (gP st.2.2 0).2).length by unfold nrL; simp, List.drop_length] at k; cases k
        · refine Nat.le_trans m ?_
          show 2 * mea n es st.1 + (hRest st.2.2).length ≤ f
          omega
      · rw [if_neg q]
        exact dRun_ok hwn hes f _ (I.popOld l2 q) (by show 2 * mea n es st.1 + (hRest st.2.2).length ≤ f; omega)
end
end Mine

set_option maxRecDepth 100000
namespace Mine
open PySem PySem.Spec PySem.Calls PyProof.Rows

local macro_rules | `(tactic| walk_at "m:at") => `(tactic| (with_reducible repeat' (first | exact At.here | apply At.there)))
local macro_rules | `(tactic| walk_at "m:enter") => `(tactic| (intro f hsc hxs hlv FS; obtain ⟨⟨scope, locals, globals, cells, qual, func, code, frame, builtins⟩, A, h₀, xs, lv⟩ := f; (simp only at hsc hxs hlv); subst hsc hxs hlv))
local macro_rules | `(tactic| walk_at "m:up") => `(tactic| (with_reducible repeat' (first | exact Upd.here | apply Upd.there | exact Nm.here | apply Nm.there)))
local macro_rules | `(tactic| walk_at "m:sub") => `(tactic| (repeat' (first | exact Sub.refl | apply Sub.cons_same | apply Sub.cons_none | refine Sub.cons_k ?_ (.inl rfl))))

section
variable {c : Cx} {f : Fm} {ρ : Rho} {rest : List Stmt} {Q : Fl → Rho → Prop} {pos tp xp yp : Pos} {x y : Str} {d1 d2 : PyData} {sk1 : K} {i j n : Nat}
/-- return (x, y), a flat one and an owned one -/
theorem s_retFO (h1 : At f.xs ρ x ⟨sk1, d1⟩ i) (hf : flat d1 = true) (h2 : At f.xs ρ y ⟨.ow, d2⟩ j) (hQ : Q (.ret (.tuple [d1, d2]) true) ρ)
    (hd : (x == ("__debug__" : Str)) = false := by decide +kernel) (hn : (x == ("__classdict__" : Str)) = false := by decide +kernel) (hd2 : (y == ("__debug__" : Str)) = false := by decide +kernel) (hn2 : (y == ("__classdict__" : Str)) = false := by decide +kernel) :
    Ex c f (.Return (some (.Tuple [.Name x xp, .Name y yp] n tp)) pos :: rest) ρ Q :=
  s_ret (ev_tuple (evl_us (Ev.ofFlatU (ev_name_w h1 hd hn) hf) (evl_us (ev_name_us h2 hd2 hn2) evl_nilU)) (Nat.le_of_ble_eq_true rfl)) hQ (.inr (.inr (.inr ⟨[j], rfl, by simp, fun k hk => ⟨⟨.ow, d2⟩, by rw [List.mem_singleton.mp hk]; exact h2.slot, rfl⟩⟩)))
/-- return (x, y), both owned -/
theorem s_retOO (h1 : At f.xs ρ x ⟨.ow, d1⟩ i) (h2 : At f.xs ρ y ⟨.ow, d2⟩ j) (hij : [i, j].Nodup) (hQ : Q (.ret (.tuple [d1, d2]) true) ρ)
    (hd : (x == ("__debug__" : Str)) = false := by decide +kernel) (hn : (x == ("__classdict__" : Str)) = false := by decide +kernel) (hd2 : (y == ("__debug__" : Str)) = false := by decide +kernel) (hn2 : (y == ("__classdict__" : Str)) = false := by decide +kernel) :
    Ex c f (.Return (some (.Tuple [.Name x xp, .Name y yp] n tp)) pos :: rest) ρ Q :=
  s_ret (ev_tuple (evl_us (ev_name_us h1 hd hn) (evl_us (ev_name_us h2 hd2 hn2) evl_nilU)) (Nat.le_of_ble_eq_true rfl)) hQ (.inr (.inr (.inr ⟨[i, j], rfl, hij, fun k hk => by
    rcases List.mem_cons.mp hk with rfl | hk
    · exact ⟨⟨.ow, d1⟩, h1.slot, rfl⟩
    · exact ⟨⟨.ow, d2⟩, by rw [List.mem_singleton.mp hk]; exact h2.slot, rfl⟩⟩)))
end
noncomputable def cell41 : FnD := fnAt PySem.Challenge.pw_k21_0041 10
theorem cell41_fn {c : Cx} (C : CxOk c) (Blen : Bi c "len" (.builtin "len")) {ns : List Int} (hn : ns.length ≤ 63) {i : Int} (hi : 0 ≤ i) :
    Fn c 1 cell41 [.list (ns.map .int), .int i] (.int (cellD ns i 0)) true := by
  refine fn_go ["script", "i"] [] ["script", "i"] C ?_ rfl (by decide +kernel) (by decide +kernel) rfl rfl rfl [some ⟨.sh, .list (ns.map .int)⟩, some ⟨.sh, .int i⟩] ?_
  · intro pm cd doc vals hv
    match vals, hv with | [a, b], _ => rfl
  walk_at "m:enter"
  refine s_when (tst_cmp (ev_name_w (by walk_at "m:at")) (ev_vcall1 (.inl ⟨_, rfl⟩) C Blen rfl (ev_name_w (by walk_at "m:at")) (vc_len (by simp; omega))) cmp_lt) (fun h => ?_) (fun h => ?_)
  · have hlt : i < (ns.length : Int) := by simpa using h
    refine s_ret (u := true) (ev_item (d := .int (ns.getD i.toNat 0)) (ev_name_w (by walk_at "m:at")) (ev_name_w (by walk_at "m:at")) hi (by omega) (il_get (by omega))) ⟨?_, fun _ => rfl⟩ (.inr (.inr (.inl rfl)))
    rw [cellD, if_pos hlt]
  · have hlt : ¬ i < (ns.length : Int) := by simpa using h
    refine s_ret (u := true) ev_int ⟨?_, fun _ => rfl⟩ (.inr (.inr (.inl rfl)))
    rw [cellD, if_neg hlt]

/-! the heap -/
noncomputable abbrev encP (p : PN) : PyData := .tuple [.int p.1, .int p.2]
theorem hp_at {xs : List PN} {i : Nat} (h : i < xs.length) : (xs.map encP)[i]? = some (encP (gP xs i)) := by rw [List.getElem?_map, gP_get h]; rfl
theorem swp_map (ys : List PN) (i j : Nat) : ((ys.map encP).set i (encP (gP ys j))).set j (encP (gP ys i)) = (swp ys i j).map encP := by simp [swp, List.map_set]
noncomputable def bef41 : FnD := fnAt PySem.Challenge.pw_k21_0041 1
theorem bef41_fn {c : Cx} (C : CxOk c) {a b : PN} : Fn c 1 bef41 [encP a, encP b] (.bool (bef a b)) true := by
  refine fn_go ["a", "b"] [] ["a", "b"] C ?_ rfl (by decide +kernel) (by decide +kernel) rfl rfl rfl [some ⟨.sh, encP a⟩, some ⟨.sh, encP b⟩] ?_
  · intro pm cd doc vals hv
    match vals, hv with | [a, b], _ => rfl
  walk_at "m:enter"
  exact s_ret (u := true) (ev_or (ev_cmp (ev_t0 (ev_name_w (by walk_at "m:at")) ev_int rfl) (ev_t0 (ev_name_w (by walk_at "m:at")) ev_int rfl) cmp_lt) fun _ => ev_and (ev_cmp (ev_t0 (ev_name_w (by walk_at "m:at")) ev_int rfl) (ev_t0 (ev_name_w (by walk_at "m:at")) ev_int rfl) cmp_eq) fun _ => ev_cmp (ev_t1 (ev_name_w (by walk_at "m:at")) ev_int rfl) (ev_t1 (ev_name_w (by walk_at "m:at")) ev_int rfl) cmp_lt) ⟨rfl, fun _ => rfl⟩ (.inl rfl)

noncomputable def pus41 : FnD := fnAt PySem.Challenge.pw_k21_0041 2
noncomputable abbrev Rpu (xs : List PN) (p : PN) (ys : List PN) (i : Nat) (o : Option Slot) : Rho := [some ⟨.sh, .list (xs.map encP)⟩, some ⟨.sh, encP p⟩, some ⟨.ow, .list (ys.map encP)⟩, some ⟨.lo, .int i⟩, o]
theorem pus41_fn {c : Cx} (C : CxOk c) (Blen : Bi c "len" (.builtin "len")) (Blist : Bi c "list" (.type "list")) (stBef : Stands c bef41) {xs : List PN} {p : PN} (hl : xs.length ≤ 100000) :
    Fn c 2 pus41 [.list (xs.map encP), encP p] (.list ((hPush xs p).map encP)) true := by
  refine fn_go ["heap", "pair"] ["new", "i", "parent"] ["heap", "pair", "new", "i", "parent"] C ?_ rfl (by decide +kernel) (by decide +kernel) rfl rfl rfl [some ⟨.sh, .list (xs.map encP)⟩, some ⟨.sh, encP p⟩, none, none, none] ?_
  · intro pm cd doc vals hv
    match vals, hv with | [a, b], _ => rfl
  walk_at "m:enter"
  rename_i FS
  refine s_asg (sk := .ow) FS (ev_vcall1 (.inr ⟨_, rfl⟩) C Blist rfl (ev_name_w (by walk_at "m:at")) (vc_list (flats_map (fun _ => rfl) _) (by simp [sizeLine]; omega))) .fr (by walk_at "m:up") ?_
  refine s_append FS (by walk_at "m:at") (ev_name_w (by walk_at "m:at")) (.inr rfl) (by simp [sizeLine]; omega) (by walk_at "m:up") ?_
  have e0 : xs.map encP ++ [encP p] = (xs ++ [p]).map encP := by simp
  rw [e0]
  refine s_asg (sk := .lo) FS (Ev.cast (d' := .int (xs.length : Int)) (ev_sub (ev_vcall1 (.inl ⟨_, rfl⟩) C Blen rfl (ev_name_w (by walk_at "m:at")) (vc_len (by simp; omega))) ev_int) (by simp)) (.flat rfl) (by walk_at "m:up") ?_
  refine s_while (n := xs.length) (fun m ρ => ∃ ys i fu o, m = i ∧ i ≤ fu ∧ i < ys.length ∧ ys.length ≤ 100001 ∧ hUp fu i ys = hPush xs p ∧ ρ = Rpu xs p ys i o) ⟨xs ++ [p], xs.length, xs.length, none, rfl, Nat.le_refl _, by simp, by simp; omega, rfl, rfl⟩ ?_
  rintro m ρ' ⟨ys, i, fu, o, hm, hfu, hi, hyl, hrun, rfl⟩
  have hsz : (ys.map encP).length ≤ sizeLine := by simp [sizeLine]; omega
  have hpar : 0 < i → ((i : Int) - 1) / 2 = (((i - 1) / 2 : Nat) : Int) := fun h => by omega
  have hpl : (i - 1) / 2 < ys.length := by omega
  refine ⟨decide (0 < (i : Int)) && bef (gP ys i) (gP ys ((i - 1) / 2)), tst_and (tst_cmp (ev_name_w (by walk_at "m:at")) ev_int cmp_gt) (fun h => tst_bool (ev_call C stBef rfl (evl_w (ev_at (i := i) (ev_name_w (by walk_at "m:at")) (ev_name_w (by walk_at "m:at")) (hp_at hi) hsz) (evl_w (ev_at (i := (i - 1) / 2) (ev_name_w (by walk_at "m:at")) (Ev.cast (ev_fdiv (ev_sub (ev_name_w (by walk_at "m:at")) ev_int) ev_int (by decide) (by decide)) (by rw [hpar (by simpa using h)])) (hp_at hpl) hsz) evl_nilU)) (bef41_fn C) (Nat.le_of_ble_eq_true rfl))), fun h => ?_, fun h => ?_⟩
  · obtain ⟨h1, h2⟩ := Bool.and_eq_true_iff.mp h
    have hi0 : 0 < i := by simpa using h1
    obtain ⟨fu', rfl⟩ : ∃ k, fu = k + 1 := ⟨fu - 1, by omega⟩
    rw [hUp, if_pos ⟨hi0, h2⟩] at hrun
    refine s_asg (sk := .lo) FS (Ev.cast (d' := .int (((i - 1) / 2 : Nat) : Int)) (ev_fdiv (ev_sub (ev_name_w (by walk_at "m:at")) ev_int) ev_int (by decide) (by decide)) (by rw [hpar hi0])) (.flat rfl) (by walk_at "m:up") ?_
    refine s_swap (d1 := encP (gP ys ((i - 1) / 2))) (d2 := encP (gP ys i)) FS (by walk_at "m:at")
      (ev_tuple (evl_w (ev_at (i := (i - 1) / 2) (ev_name_w (by walk_at "m:at")) (ev_name_w (by walk_at "m:at")) (hp_at hpl) hsz) (evl_w (ev_at (i := i) (ev_name_w (by walk_at "m:at")) (ev_name_w (by walk_at "m:at")) (hp_at hi) hsz) evl_nilU)) (Nat.le_of_ble_eq_true rfl)) rfl rfl
      (ev_name_w (by walk_at "m:at")) (by omega) (by omega) (hp_at (by omega)) rfl (by walk_at "m:up") (by walk_at "m:at")
      (ev_name_w (by walk_at "m:at")) (by omega) (by omega) (List.getElem?_eq_getElem (by simp; omega)) ?_ (by walk_at "m:up") ?_
    · rw [List.getElem_set]; split
      · rfl
      · simp [flat, flats]
    rw [Int.toNat_natCast, Int.toNat_natCast, swp_map]
    refine s_asg (sk := .lo) FS (ev_name_w (by walk_at "m:at")) (.flat rfl) (by walk_at "m:up") (s_end ?_)
    exact ⟨(i - 1) / 2, by omega, swp ys i ((i - 1) / 2), (i - 1) / 2, fu', _, rfl, by omega, by rw [swp_len]; omega, by rw [swp_len]; exact hyl, hrun, rfl⟩
  · have hend : hPush xs p = ys := by
      rw [← hrun]
      cases fu with
      | zero => rfl
      | succ fu =>
        rw [hUp, if_neg]
        rintro ⟨q1, q2⟩
        have q1 : (0 : Int) < i := by omega
        rw [q2, decide_eq_true q1] at h; cases h
    rw [hend]
    exact s_retO (by walk_at "m:at") ⟨rfl, fun _ => rfl⟩

noncomputable def pop41 : FnD := fnAt PySem.Challenge.pw_k21_0041 3
noncomputable abbrev Rpo (xs ys : List PN) (i : Nat) (o : Option Slot) : Rho := [some ⟨.sh, .list (xs.map encP)⟩, some ⟨.lo, encP (gP xs 0)⟩, some ⟨.lo, encP (gP xs (xs.length - 1))⟩, some ⟨.ow, .list (ys.map encP)⟩, some ⟨.lo, .int i⟩, o]
theorem pop41_fn {c : Cx} (C : CxOk c) (Blen : Bi c "len" (.builtin "len")) (stBef : Stands c bef41) {xs : List PN} (h0 : 0 < xs.length) (hl : xs.length ≤ 100000) :
    Fn c 2 pop41 [.list (xs.map encP)] (.tuple [encP (gP xs 0), .list ((hRest xs).map encP)]) true := by
  refine fn_go ["heap"] ["top", "last", "rest", "i", "child"] ["heap", "top", "last", "rest", "i", "child"] C ?_ rfl (by decide +kernel) (by decide +kernel) rfl rfl rfl [some ⟨.sh, .list (xs.map encP)⟩, none, none, none, none, none] ?_
  · intro pm cd doc vals hv
    match vals, hv with | [a], _ => rfl
  walk_at "m:enter"
  rename_i FS
  have hszx : (xs.map encP).length ≤ sizeLine := by simp [sizeLine]; omega
  refine s_when (tst_cmp (ev_vcall1 (.inl ⟨_, rfl⟩) C Blen rfl (ev_name_w (by walk_at "m:at")) (vc_len (by simp; omega))) ev_int cmp_eq) (fun h => ?_) (fun _ => ?_)
  · have := eq_of_beq h; rw [List.length_map] at this; omega
  refine s_asg (sk := .lo) FS (ev_item (d := encP (gP xs 0)) (ev_name_w (by walk_at "m:at")) ev_int (by decide) (by decide) (hp_at h0)) (.flat rfl) (by walk_at "m:up") ?_
  refine s_asg (sk := .lo) FS (ev_at (i := xs.length - 1) (d := encP (gP xs (xs.length - 1))) (ev_name_w (by walk_at "m:at")) (Ev.cast (ev_sub (ev_vcall1 (.inl ⟨_, rfl⟩) C Blen rfl (ev_name_w (by walk_at "m:at")) (vc_len (by simp; omega))) ev_int) (by rw [List.length_map]; congr 1; omega)) (hp_at (by omega)) hszx) (.flat rfl) (by walk_at "m:up") ?_
  refine s_asg (sk := .ow) FS (ev_slice (ys := (xs.take (xs.length - 1)).map encP) (ev_name_w (by walk_at "m:at")) .none (.some (Ev.cast (d' := .int ((xs.length - 1 : Nat) : Int)) (ev_sub (ev_vcall1 (.inl ⟨_, rfl⟩) C Blen rfl (ev_name_w (by walk_at "m:at")) (vc_len (by simp; omega))) ev_int) (by rw [List.length_map]; congr 1; omega))) (flats_map (fun _ => rfl) _) hszx (by rw [pick_upto, List.map_take])) .fr (by walk_at "m:up") ?_
  refine s_when (tst_cmp (ev_vcall1 (.inl ⟨_, rfl⟩) C Blen rfl (ev_name_w (by walk_at "m:at")) (vc_len (by simp; omega))) ev_int cmp_eq) (fun h => ?_) (fun h => ?_)
  · have h1 : xs.length ≤ 1 := by simp at h; omega
    have e : hRest xs = xs.take (xs.length - 1) := by
      rw [hRest, if_pos h1, show xs.length - 1 = 0 by omega]; rfl
    rw [e]
    exact s_retFO (by walk_at "m:at") rfl (by walk_at "m:at") ⟨rfl, fun _ => rfl⟩
  have h2 : 2 ≤ xs.length := by simp at h; omega
  refine s_set (j := 0) (d0 := encP (gP xs 0)) FS (by walk_at "m:at") (ev_name_w (by walk_at "m:at")) ev_int rfl (by decide) (by decide) (by
    rw [List.getElem?_map, List.getElem?_take, if_pos (by show 0 < _; omega)]
    show (xs[0]?).map encP = _
    rw [gP_get h0]; rfl) rfl (by walk_at "m:up") ?_
  have e1 : ((xs.take (xs.length - 1)).map encP).set (0 : Int).toNat (encP (gP xs (xs.length - 1))) = ((xs.take (xs.length - 1)).set 0 (gP xs (xs.length - 1))).map encP := by rw [List.map_set]; rfl
  rw [e1]
  refine s_asg (sk := .lo) FS ev_int (.flat rfl) (by walk_at "m:up") ?_
  have hRe : hRest xs = hDn xs.length 0 ((xs.take (xs.length - 1)).set 0 (gP xs (xs.length - 1))) := by rw [hRest, if_neg (by omega)]
  refine s_while (n := xs.length) (fun m ρ => ∃ ys i fu o, m = fu ∧ ys.length ≤ fu + i ∧ ys.length ≤ 100000 ∧ hDn fu i ys = hRest xs ∧ ρ = Rpo xs ys i o) ⟨_, 0, xs.length, none, rfl, by simp only [List.length_set, List.length_take]; omega, by simp only [List.length_set, List.length_take]; omega, hRe.symm, rfl⟩ ?_
  rintro m ρ' ⟨ys, i, fu, o, hm, hfu, hyl, hrun, rfl⟩
  have hsz : (ys.map encP).length ≤ sizeLine := by simp [sizeLine]; omega
  refine ⟨_, tst_cmp (ev_add (ev_mul ev_int (ev_name_w (by walk_at "m:at")) (mulOkL (by omega) (by omega))) ev_int) (ev_vcall1 (.inl ⟨_, rfl⟩) C Blen rfl (ev_name_w (by walk_at "m:at")) (vc_len (by simp; omega))) cmp_lt, fun h => ?_, fun h => ?_⟩
  · have hlt : 2 * i + 1 < ys.length := by simp at h; omega
    obtain ⟨fu', rfl⟩ : ∃ k, fu = k + 1 := ⟨fu - 1, by omega⟩
    obtain ⟨hc1, hc2⟩ := chd_lt hlt
    refine s_asg (sk := .lo) FS (Ev.cast (d' := .int ((2 * i + 1 : Nat) : Int)) (ev_add (ev_mul ev_int (ev_name_w (by walk_at "m:at")) (mulOkL (by omega) (by omega))) ev_int) (congrArg PyData.int (by omega))) (.flat rfl) (by walk_at "m:up") ?_
    refine s_whenc (q := decide (((2 * i + 1 : Nat) : Int) + 1 < ((ys.map encP).length : Int)) && bef (gP ys (2 * i + 2)) (gP ys (2 * i + 1))) (fun ρ => ρ = Rpo xs ys i (some ⟨.lo, .int (chd ys i : Nat)⟩))
      (tst_and (tst_cmp (ev_add (ev_name_w (by walk_at "m:at")) ev_int) (ev_vcall1 (.inl ⟨_, rfl⟩) C Blen rfl (ev_name_w (by walk_at "m:at")) (vc_len (by simp; omega))) cmp_lt) (fun hh => tst_bool (ev_call C stBef rfl (evl_w (ev_at (i := 2 * i + 2) (ev_name_w (by walk_at "m:at")) (Ev.cast (ev_add (ev_name_w (by walk_at "m:at")) ev_int) (congrArg PyData.int (by omega))) (hp_at (by have := of_decide_eq_true hh; rw [List.length_map] at this; omega)) hsz) (evl_w (ev_at (i := 2 * i + 1) (ev_name_w (by walk_at "m:at")) (ev_name_w (by walk_at "m:at")) (hp_at hlt) hsz) evl_nilU)) (bef41_fn C) (Nat.le_of_ble_eq_true rfl))))
      (fun hh => ?_) (fun hh => ?_) ?_
    · obtain ⟨k1, k2⟩ := Bool.and_eq_true_iff.mp hh
      have k1 : 2 * i + 2 < ys.length := by have := of_decide_eq_true k1; rw [List.length_map] at this; omega
      refine s_asg (sk := .lo) FS (Ev.cast (d' := .int ((2 * i + 2 : Nat) : Int)) (ev_add (ev_name_w (by walk_at "m:at")) ev_int) (congrArg PyData.int (by omega))) (.flat rfl) (by walk_at "m:up") (s_end ?_)
      show _ = _
      rw [chd, if_pos ⟨k1, k2⟩]
    · rw [chd, if_neg]
      rintro ⟨k1, k2⟩
      rw [k2, decide_eq_true (by rw [List.length_map]; omega)] at hh; cases hh
    rintro _ rfl
    refine s_when (tst_not (tst_bool (ev_call C stBef rfl (evl_w (ev_at (i := chd ys i) (ev_name_w (by walk_at "m:at")) (ev_name_w (by walk_at "m:at")) (hp_at hc1) hsz) (evl_w (ev_at (i := i) (ev_name_w (by walk_at "m:at")) (ev_name_w (by walk_at "m:at")) (hp_at (by omega)) hsz) evl_nilU)) (bef41_fn C) (Nat.le_of_ble_eq_true rfl)))) (fun hh => ?_) (fun hh => ?_)
    · have k2 : bef (gP ys (chd ys i)) (gP ys i) = false := by simpa using hh
      rw [hDn, if_neg (by rw [k2]; simp)] at hrun
      rw [← hrun]
      exact s_retFO (by walk_at "m:at") rfl (by walk_at "m:at") ⟨rfl, fun _ => rfl⟩
    have k2 : bef (gP ys (chd ys i)) (gP ys i) = true := by simpa using hh
    rw [hDn, if_pos ⟨hlt, k2⟩] at hrun
    refine s_swap (d1 := encP (gP ys (chd ys i))) (d2 := encP (gP ys i)) FS (by walk_at "m:at")
      (ev_tuple (evl_w (ev_at (i := chd ys i) (ev_name_w (by walk_at "m:at")) (ev_name_w (by walk_at "m:at")) (hp_at hc1) hsz) (evl_w (ev_at (i := i) (ev_name_w (by walk_at "m:at")) (ev_name_w (by walk_at "m:at")) (hp_at (by omega)) hsz) evl_nilU)) (Nat.le_of_ble_eq_true rfl)) rfl rfl
      (ev_name_w (by walk_at "m:at")) (by omega) (by omega) (hp_at (by omega)) rfl (by walk_at "m:up") (by walk_at "m:at")
      (ev_name_w (by walk_at "m:at")) (by omega) (by omega) (List.getElem?_eq_getElem (by simp; omega)) ?_ (by walk_at "m:up") ?_
    · rw [List.getElem_set]; split
      · rfl
      · simp [flat, flats]
    rw [Int.toNat_natCast, Int.toNat_natCast, swp_map]
    refine s_asg (sk := .lo) FS (ev_name_w (by walk_at "m:at")) (.flat rfl) (by walk_at "m:up") (s_end ?_)
    exact ⟨fu', by omega, swp ys i (chd ys i), chd ys i, fu', _, rfl, by rw [swp_len]; omega, by rw [swp_len]; exact hyl, hrun, rfl⟩
  · have hlt : ¬ 2 * i + 1 < ys.length := by simp at h; omega
    have hend : hRest xs = ys := by
      rw [← hrun]
      cases fu with
      | zero => rfl
      | succ fu => rw [hDn, if_neg]; rintro ⟨q, _⟩; exact hlt q
    rw [hend]
    exact s_retFO (by walk_at "m:at") rfl (by walk_at "m:at") ⟨rfl, fun _ => rfl⟩

/-! neighbours -/
noncomputable abbrev encW (p : Nat × Int) : PyData := .tuple [.int p.1, .int p.2]
theorem nrL_snoc (es : List Ed) (e : Ed) (u : Nat) : nrL (es ++ [e]) u = if u = e.1 then nrL es u ++ [e.2] else nrL es u := by
  unfold nrL
  rw [List.filter_append, List.map_append, List.filter_cons]
  by_cases h : u = e.1
  · rw [if_pos h, if_pos (by simp [h])]; rfl
  · rw [if_neg h, if_neg (by simp; exact fun q => h q.symm)]; simp
noncomputable def mkN (n : Nat) (es : List Ed) : List PyData := (List.range n).map fun u => .list ((nrL es u).map encW)
theorem mkN_at {n u : Nat} {es : List Ed} (h : u < n) : (mkN n es)[u]? = some (.list ((nrL es u).map encW)) := rangeMap_at h
theorem mkN_len {n : Nat} {es : List Ed} : (mkN n es).length = n := by simp [mkN]
theorem nrL_len (es : List Ed) (u : Nat) : (nrL es u).length ≤ es.length := by unfold nrL; rw [List.length_map]; exact List.length_filter_le ..
noncomputable def nei41 : FnD := fnAt PySem.Challenge.pw_k21_0041 4
theorem nei41_fn {c : Cx} (C : CxOk c) (Brange : Bi c "range" (.type "range")) {n : Nat} (hn : n ≤ 5) {es : List Ed} (hl : es.length ≤ 20) (hes : ∀ e ∈ es, e.1 < n ∧ e.2.1 < n) :
    Fn c 1 nei41 [.int n, .list (es.map encE)] (.list (mkN n es)) true := by
  refine fn_go ["n", "edges"] ["out", "e"] ["n", "edges", "out", "e"] C ?_ rfl (by decide +kernel) (by decide +kernel) rfl rfl rfl [some ⟨.sh, .int n⟩, some ⟨.sh, .list (es.map encE)⟩, none, none] ?_
  · intro pm cd doc vals hv
    match vals, hv with | [a, b], _ => rfl
  walk_at "m:enter"
  rename_i FS
  refine s_comp (p := fun _ => true) (g := fun u => PyData.list []) .lo FS HasCells.nil [] [] [] []
    (it_r (it_range1 C Brange rfl (ev_name_w (by walk_at "m:at")) (by omega) (by omega))) (.flat encR_flat (by decide)) (by simp [sizeLine]; omega) (fun C1 H1 el hel => ifs_nil) (fun C1 H1 u hu _ => ev_list (k := .fr) evl_nil) (by walk_at "m:up") ?_
  refine s_forT (sk := .sh) FS (by walk_at "m:up") (it_list (ev_name_sh (by walk_at "m:at"))) .sh
      (fun j ρ => ∃ o, ρ = [some ⟨.sh, .int n⟩, some ⟨.sh, .list (es.map encE)⟩, some ⟨.ow, .list (mkN n (es.take j))⟩, o]) ⟨none, ?_⟩ ?_ ?_
  · rw [filter_tt]; rfl
  · rintro j e ρ' hj ⟨o, rfl⟩
    refine ⟨_, by walk_at "m:up", ?_⟩
    obtain ⟨h1, h2⟩ := hes e (List.mem_of_getElem? hj)
    refine s_append2 (j1 := (e.1 : Int)) (d := encW e.2) FS (by walk_at "m:at") (ev_t0 (ev_name_w (by walk_at "m:at")) ev_int rfl) (ev_tuple (evl_w (ev_t1 (ev_name_w (by walk_at "m:at")) ev_int rfl) (evl_w (ev_t2 (ev_name_w (by walk_at "m:at")) ev_int rfl) evl_nilU)) (Nat.le_of_ble_eq_true rfl)) rfl (by omega) (by omega) (mkN_at h1) (flats_map (fun _ => rfl) _) (by have := nrL_len (es.take j) e.1; rw [List.length_take] at this; simp [sizeLine]; omega) (by walk_at "m:up") (s_end ?_)
    have : mkN n (es.take (j + 1)) = (mkN n (es.take j)).set (e.1 : Int).toNat (.list ((nrL (es.take j) e.1).map encW ++ [encW e.2])) := by
      rw [Int.toNat_natCast, mkN, mkN, rangeMap_set]
      refine List.map_congr_left fun u _ => ?_
      rw [List.take_add_one, hj, Option.toList_some, nrL_snoc]
      by_cases q : u = e.1
      · rw [if_pos q, if_pos q, q, List.map_append]; rfl
      · rw [if_neg q, if_neg q]
    exact ⟨_, by rw [this]; rfl⟩
  · rintro ρ' ⟨o, rfl⟩
    exact s_retO (by walk_at "m:at") ⟨by rw [List.take_length], fun _ => rfl⟩

/-! dijkstra -/
noncomputable def optD : Option Int → PyData
  | none => .none
  | some a => .int a
noncomputable def optQ : Option Nat → PyData
  | none => .none
  | some a => .int (a : Int)
theorem optD_flat (x : Option Int) : flat (optD x) = true := by cases x <;> rfl
theorem optQ_flat (x : Option Nat) : flat (optQ x) = true := by cases x <;> rfl
noncomputable def mkD (n : Nat) (D : Nat → Option Int) : List PyData := (List.range n).map fun v => optD (D v)
noncomputable def mkQ (n : Nat) (P : Nat → Option Nat) : List PyData := (List.range n).map fun v => optQ (P v)
theorem mkD_at {n v : Nat} {D : Nat → Option Int} (h : v < n) : (mkD n D)[v]? = some (optD (D v)) := rangeMap_at h
theorem mkQ_at {n v : Nat} {P : Nat → Option Nat} (h : v < n) : (mkQ n P)[v]? = some (optQ (P v)) := rangeMap_at h
theorem mkD_len {n : Nat} {D : Nat → Option Int} : (mkD n D).length = n := by simp [mkD]
theorem mkQ_len {n : Nat} {P : Nat → Option Nat} : (mkQ n P).length = n := by simp [mkQ]
theorem mkD_set {n v : Nat} {D : Nat → Option Int} {x : Int} : (mkD n D).set v (.int x) = mkD n (updF D v (some x)) := by
  rw [mkD, rangeMap_set, mkD]
  refine List.map_congr_left fun i _ => ?_
  unfold updF; split <;> rfl
theorem mkQ_set {n v u : Nat} {P : Nat → Option Nat} : (mkQ n P).set v (.int (u : Int)) = mkQ n (updF P v (some u)) := by
  rw [mkQ, rangeMap_set, mkQ]
  refine List.map_congr_left fun i _ => ?_
  unfold updF; split <;> rfl
theorem Sm.optD {n : Nat} {x : Option Int} : Sm n (optD x) := by cases x; exact Sm.none; exact Sm.int
theorem eqv_optD {d : Int} {x : Option Int} : PyData.eqv (.int d) (optD x) = true ↔ x = some d := by
  cases x with
  | none => simp [Mine.optD, PyData.eqv]
  | some a => simp [Mine.optD, PyData.eqv]; exact eq_comm
noncomputable abbrev st041 (s : Nat) : Dst := (updF (fun _ => none) s (some 0), fun _ => none, [(0, s)])
noncomputable abbrev F041 (n s : Nat) (es : List Ed) : Nat := 2 * mea n es (st041 s).1 + 1
noncomputable def dij41 : FnD := fnAt PySem.Challenge.pw_k21_0041 5
noncomputable abbrev X41d : List Str := ["n", "edges", "source", "near", "dist", "prev", "heap", "top", "d", "u", "pair", "v", "far"]
noncomputable abbrev Rdj (n : Nat) (es : List Ed) (s : Nat) (st : Dst) (top d u pair v far : Option Slot) : Rho := [some ⟨.sh, .int n⟩, some ⟨.sh, .list (es.map encE)⟩, some ⟨.sh, .int s⟩, some ⟨.lo, .list (mkN n es)⟩, some ⟨.ow, .list (mkD n st.1)⟩, some ⟨.ow, .list (mkQ n st.2.1)⟩, some ⟨.lo, .list (st.2.2.map encP)⟩, top, d, u, pair, v, far]
theorem dij41_fn {c : Cx} (C : CxOk c) (Blen : Bi c "len" (.builtin "len")) (Brange : Bi c "range" (.type "range")) (Blist : Bi c "list" (.type "list")) (stBef : Stands c bef41) (stPus : Stands c pus41) (stPop : Stands c pop41) (stNei : Stands c nei41)
    {n s : Nat} (hn : n ≤ 5) (hs : s < n) {es : List Ed} (hl : es.length ≤ 7) (hes : ∀ e ∈ es, e.1 < n ∧ e.2.1 < n) (hwn : ∀ e ∈ es, 0 ≤ e.2.2) :
    Fn c 3 dij41 [.int n, .list (es.map encE), .int s] (.tuple [.list (mkD n (dRun es (F041 n s es) (st041 s)).1), .list (mkQ n (dRun es (F041 n s es) (st041 s)).2.1)]) true := by
  refine fn_go ["n", "edges", "source"] ["near", "dist", "prev", "heap", "top", "d", "u", "pair", "v", "far"] X41d C ?_ rfl (by decide +kernel) (by decide +kernel) rfl rfl rfl [some ⟨.sh, .int n⟩, some ⟨.sh, .list (es.map encE)⟩, some ⟨.sh, .int s⟩, none, none, none, none, none, none, none, none, none, none] ?_
  · intro pm cd doc vals hv
    match vals, hv with | [a, b, c], _ => rfl
  walk_at "m:enter"
  rename_i FS
  have hszD : ∀ D, (mkD n D).length ≤ sizeLine := fun D => by rw [mkD_len]; simp [sizeLine]; omega
  have hszQ : ∀ D, (mkQ n D).length ≤ sizeLine := fun D => by rw [mkQ_len]; simp [sizeLine]; omega
  have hszN : (mkN n es).length ≤ sizeLine := by rw [mkN_len]; simp [sizeLine]; omega
  have hF : F041 n s es ≤ 2000 := by
    have h1 := mea_le n es (st041 s).1
    have h2 : 2 ^ es.length ≤ 2 ^ 7 := Nat.pow_le_pow_right (by decide) hl
    have h3 : n * 2 ^ es.length ≤ 5 * 2 ^ 7 := Nat.mul_le_mul hn h2
    show 2 * mea n es (st041 s).1 + 1 ≤ 2000
    omega
  refine s_asg (sk := .lo) FS (ev_call C stNei rfl (evl_w (ev_name_w (by walk_at "m:at")) (evl_w (ev_name_w (by walk_at "m:at")) evl_nilU)) (nei41_fn C Brange hn (by omega) hes) (Nat.le_of_ble_eq_true rfl)) .frlo (by walk_at "m:up") ?_
  refine s_comp (p := fun _ => true) (g := fun (u : Nat) => PyData.none) .lo FS HasCells.nil [] [] [] []
    (it_n (it_range1 C Brange rfl (ev_name_w (by walk_at "m:at")) (by omega) (by omega))) (.flat encN_flat (by decide)) (by simp [sizeLine]; omega) (fun C1 H1 el hel => ifs_nil) (fun C1 H1 u hu _ => ev_none) (by walk_at "m:up") ?_
  rw [filter_tt, Int.toNat_natCast, show (List.range n).map (fun (u : Nat) => PyData.none) = mkD n (fun _ => none) from rfl]
  refine s_comp (p := fun _ => true) (g := fun (u : Nat) => PyData.none) .lo FS HasCells.nil [] [] [] []
    (it_n (it_range1 C Brange rfl (ev_name_w (by walk_at "m:at")) (by omega) (by omega))) (.flat encN_flat (by decide)) (by simp [sizeLine]; omega) (fun C1 H1 el hel => ifs_nil) (fun C1 H1 u hu _ => ev_none) (by walk_at "m:up") ?_
  rw [filter_tt, Int.toNat_natCast, show (List.range n).map (fun (u : Nat) => PyData.none) = mkQ n (fun _ => none) from rfl]
  refine s_set (j := (s : Int)) FS (by walk_at "m:at") ev_int (ev_name_w (by walk_at "m:at")) rfl (by omega) (by omega) (mkD_at hs) rfl (by walk_at "m:up") ?_
  rw [Int.toNat_natCast, mkD_set]
  refine s_asg (sk := .lo) FS (Ev.cast (d' := .list ([((0 : Int), s)].map encP)) (ev_list (k := .fr) (evl_fr (Ev.ofFlat (ev_tuple (evl_w ev_int (evl_w (ev_name_w (by walk_at "m:at")) evl_nilU)) (Nat.le_of_ble_eq_true rfl)) rfl) evl_nil) (Nat.le_of_ble_eq_true rfl)) rfl) .frlo (by walk_at "m:up") ?_
  refine s_while (n := F041 n s es) (fun m ρ => ∃ st o1 o2 o3 o4 o5 o6, m ≤ F041 n s es ∧ DI n s es st.1 st.2.1 st.2.2 (fun _ => False) ∧ 2 * mea n es st.1 + st.2.2.length ≤ m ∧ dRun es m st = dRun es (F041 n s es) (st041 s) ∧ ρ = Rdj n es s st o1 o2 o3 o4 o5 o6)
    ⟨st041 s, none, none, none, none, none, none, Nat.le_refl _, DI.init hs, Nat.le_refl _, rfl, rfl⟩ ?_
  rintro m ρ' ⟨st, o1, o2, o3, o4, o5, o6, hmF, I, hm, hrun, rfl⟩
  refine ⟨_, tst_cmp (ev_vcall1 (.inl ⟨_, rfl⟩) C Blen rfl (ev_name_w (by walk_at "m:at")) (vc_len (by rw [List.length_map]; omega))) ev_int cmp_gt, fun h => ?_, fun h => ?_⟩
  · have hH : 0 < st.2.2.length := by have := of_decide_eq_true h; rw [List.length_map] at this; omega
    obtain ⟨m', rfl⟩ : ∃ k, m = k + 1 := ⟨m - 1, by omega⟩
    obtain ⟨l1, l2⟩ := hRest_spec hH
    have hu : (gP st.2.2 0).2 < n := I.hp _ ((l2 _).mpr (.inl rfl))
    rw [dRun, if_neg (by omega)] at hrun
    refine s_unp2 FS (ev_call C stPop rfl (evl_w (ev_name_w (by walk_at "m:at")) evl_nilU) (pop41_fn C Blen stBef hH (by omega)) (Nat.le_of_ble_eq_true rfl)) (sk1 := .lo) (.flat rfl (by decide)) .fr (by walk_at "m:up") (by walk_at "m:up") ?_
    refine s_unp2 FS (ev_name_w (by walk_at "m:at")) (sk1 := .lo) (sk2 := .lo) (.flat rfl (by decide)) (.flat rfl (by decide)) (by walk_at "m:up") (by walk_at "m:up") ?_
    have hpop := I.popNow l2
    have hold := fun q => I.popOld (x := gP st.2.2 0) l2 q
    generalize gP st.2.2 0 = x at hu hrun hpop hold ⊢
    generalize hRest st.2.2 = H at hrun hpop hold l1 ⊢
    have hx : ∀ D : Nat → Option Int, (D x.2 = some x.1 ↔ PyData.eqv (.int x.1) (optD (D x.2)) = true) := fun D => eqv_optD.symm
    refine s_when (tst_cmp (ev_name_w (by walk_at "m:at")) (ev_at (i := x.2) (ev_name_w (by walk_at "m:at")) (ev_name_w (by walk_at "m:at")) (mkD_at hu) (hszD _)) (cmp_eqv (Sm.shaped (n := 0) Sm.int) (Sm.shaped (n := 0) Sm.optD))) (fun h => ?_) (fun h => ?_)
    · have hDu : st.1 x.2 = some x.1 := eqv_optD.mp h
      rw [if_pos hDu] at hrun
      have hfo := fun j hj => fold_ok (st := (st.1, st.2.1, H)) hwn hes hpop hDu j hj
      refine s_forT (sk := .lo) FS (by walk_at "m:up") (it_list (ev_at (i := x.2) (ev_name_lo (by walk_at "m:at")) (ev_name_w (by walk_at "m:at")) (mkN_at hu) hszN)) .lo
        (fun j ρ => ∃ r o1 o2 o3, r = ((nrL es x.2).take j).foldl (dst1 x.2 x.1) (st.1, st.2.1, H) ∧ ρ = Rdj n es s r (some ⟨.lo, encP x⟩) (some ⟨.lo, .int x.1⟩) (some ⟨.lo, .int x.2⟩) o1 o2 o3) ⟨(st.1, st.2.1, H), _, _, _, rfl, rfl⟩ ?_ ?_
      · rintro j p ρ' hj ⟨r, o1, o2, o3, hr, rfl⟩
        have hjl : j < (nrL es x.2).length := (List.getElem?_eq_some_iff.mp hj).1
        obtain ⟨a1, a2, a3⟩ := hfo j (by omega)
        rw [← hr] at a1 a2 a3
        have a3 : 2 * mea n es r.1 + r.2.2.length ≤ 2 * mea n es st.1 + H.length := a3
        have hnext : ((nrL es x.2).take (j + 1)).foldl (dst1 x.2 x.1) (st.1, st.2.1, H) = dst1 x.2 x.1 r p := by
          rw [List.take_add_one, hj, Option.toList_some, List.foldl_append, ← hr]; rfl
        have hp1 : p.1 < n := by
          have hm := List.mem_of_getElem? hj
          unfold nrL at hm
          obtain ⟨e, he, rfl⟩ := List.mem_map.mp hm
          exact (hes e (List.mem_filter.mp he).1).2
        refine ⟨_, by walk_at "m:up", ?_⟩
        refine s_asg (sk := .lo) FS (ev_t0 (ev_name_w (by walk_at "m:at")) ev_int rfl) (.flat rfl) (by walk_at "m:up") ?_
        refine s_asg (sk := .lo) FS (ev_add (ev_name_w (by walk_at "m:at")) (ev_t1 (ev_name_w (by walk_at "m:at")) ev_int rfl)) (.flat rfl) (by walk_at "m:up") ?_
        refine s_when (q := impr r.1 p.1 (x.1 + p.2)) ?_ (fun h => ?_) (fun h => ?_)
        · have e1 : impr r.1 p.1 (x.1 + p.2) = (isNone (optD (r.1 p.1)) || (match r.1 p.1 with | none => true | some d' => decide (x.1 + p.2 < d'))) := by
            unfold impr; cases r.1 p.1 <;> rfl
          rw [e1]
          refine tst_or (tst_cmp (ev_at (i := p.1) (ev_name_w (by walk_at "m:at")) (ev_name_w (by walk_at "m:at")) (mkD_at hp1) (hszD _)) ev_none cmp_is_none) fun hno => ?_
          cases hD1 : r.1 p.1 with
          | none => rw [hD1] at hno; cases hno
          | some d' => exact tst_cmp (ev_name_w (by walk_at "m:at")) (Ev.cast (ev_at (i := p.1) (ev_name_w (by walk_at "m:at")) (ev_name_w (by walk_at "m:at")) (mkD_at hp1) (hszD _)) (by rw [hD1]; rfl)) cmp_lt
        · refine s_set (j := (p.1 : Int)) FS (by walk_at "m:at") (ev_name_w (by walk_at "m:at")) (ev_name_w (by walk_at "m:at")) rfl (by omega) (by omega) (mkD_at hp1) (optD_flat _) (by walk_at "m:up") ?_
          refine s_set (j := (p.1 : Int)) FS (by walk_at "m:at") (ev_name_w (by walk_at "m:at")) (ev_name_w (by walk_at "m:at")) rfl (by omega) (by omega) (mkQ_at hp1) (optQ_flat _) (by walk_at "m:up") ?_
          rw [Int.toNat_natCast, mkD_set, mkQ_set]
          refine s_asg (sk := .lo) FS (ev_call C stPus rfl (evl_w (ev_name_w (by walk_at "m:at")) (evl_w (Ev.cast (d' := encP (x.1 + p.2, p.1)) (ev_tuple (evl_w (ev_name_w (by walk_at "m:at")) (evl_w (ev_name_w (by walk_at "m:at")) evl_nilU)) (Nat.le_of_ble_eq_true rfl)) rfl) evl_nilU)) (pus41_fn C Blen Blist stBef (by omega)) (Nat.le_of_ble_eq_true rfl)) .frlo (by walk_at "m:up") (s_end (s_end ?_))
          exact ⟨dst1 x.2 x.1 r p, _, _, _, hnext.symm, by rw [dst1, if_pos h]⟩
        · exact s_end ⟨dst1 x.2 x.1 r p, _, _, _, hnext.symm, by rw [dst1, if_neg (by rw [h]; simp)]⟩
      · rintro ρ' ⟨r, o1, o2, o3, hr, rfl⟩
        obtain ⟨a1, a2, a3⟩ := hfo (nrL es x.2).length (Nat.le_refl _)
        rw [← hr] at a1 a2 a3
        have a3 : 2 * mea n es r.1 + r.2.2.length ≤ 2 * mea n es st.1 + H.length := a3
        rw [List.take_length] at hr
        rw [← hr] at hrun
        refine s_end (s_end ?_)
        refine ⟨m', Nat.lt_succ_self _, r, _, _, _, _, _, _, by omega, { a1 with edge := fun e he d hd => ?_ }, by omega, hrun, rfl⟩
        rcases a1.edge e he d hd with k | k | k
        · exact .inl k
        · exact .inr (.inl k)
        · rw [show (nrL es x.2).length = (es.filter fun e => e.1 == x.2).length by unfold nrL; simp, List.drop_length] at k; cases k
    · have hDu : st.1 x.2 ≠ some x.1 := fun q => by rw [eqv_optD.mpr q] at h; cases h
      rw [if_neg hDu] at hrun
      exact s_end ⟨m', Nat.lt_succ_self _, (st.1, st.2.1, H), _, _, _, _, _, _, by omega, hold hDu, by show 2 * mea n es st.1 + H.length ≤ m'; omega, hrun, rfl⟩
  · have hH : st.2.2.length = 0 := by
      have : ¬ (0 : Int) < ((st.2.2.map encP).length : Int) := of_decide_eq_false h
      rw [List.length_map] at this; omega
    rw [dRun_nil hH] at hrun
    rw [← hrun]
    exact s_retOO (by walk_at "m:at") (by walk_at "m:at") (by decide) ⟨rfl, fun _ => rfl⟩
end Mine

set_option maxRecDepth 100000
namespace Mine
open PySem PySem.Spec PySem.Calls PyProof.Rows
noncomputable abbrev Es := List (Nat × Nat × Int)
noncomputable abbrev Di := Nat → Option Int
noncomputable def Le (x y : Option Int) : Prop := ∀ b, y = some b → ∃ a, x = some a ∧ a ≤ b
theorem Le.refl {x : Option Int} : Le x x := fun b h => ⟨b, h, Int.le_refl _⟩
theorem Le.trans {x y z : Option Int} (h1 : Le x y) (h2 : Le y z) : Le x z := fun b hb => by
  obtain ⟨a, h3, h4⟩ := h2 b hb
  obtain ⟨a', h5, h6⟩ := h1 a h3
  exact ⟨a', h5, by omega⟩
theorem Le.antisymm {x y : Option Int} (h1 : Le x y) (h2 : Le y x) : x = y := by
  cases x with
  | none => cases y with
    | none => rfl
    | some b => obtain ⟨a, h, _⟩ := h1 b rfl; cases h
  | some a => cases y with
    | none => obtain ⟨b, h, _⟩ := h2 a rfl; cases h
    | some b =>
      obtain ⟨a', h, q⟩ := h1 b rfl
      obtain ⟨b', h', q'⟩ := h2 a rfl
      cases h; cases h'; congr 1; omega
/-- walks from s -/
inductive Wlk (es : Es) (s : Nat) : Nat → Int → Prop
  | base : Wlk es s s 0
  | step {u a} {e : Nat × Nat × Int} : Wlk es s u a → e ∈ es → e.1 = u → Wlk es s e.2.1 (a + e.2.2)
noncomputable def Clsd (es : Es) (D : Di) : Prop := ∀ e ∈ es, ∀ a, D e.1 = some a → Le (D e.2.1) (some (a + e.2.2))
noncomputable def Att (es : Es) (s : Nat) (D : Di) : Prop := ∀ v a, D v = some a → Wlk es s v a
theorem Clsd.walk {es : Es} {s : Nat} {D : Di} (hc : Clsd es D) (hs : Le (D s) (some 0)) {v : Nat} {a : Int} (h : Wlk es s v a) : Le (D v) (some a) := by
  induction h with
  | base => exact hs
  | step h1 he hu ih =>
    subst hu
    intro b hb; cases hb
    obtain ⟨a', h2, h3⟩ := ih _ rfl
    obtain ⟨b, h4, h5⟩ := hc _ he a' h2 _ rfl
    exact ⟨b, h4, by omega⟩

theorem Clsd.walk' {es : Es} {s : Nat} {D : Di} (hc : Clsd es D) {d : Int} (hs : Le (D s) (some d)) {v : Nat} {a : Int} (h : Wlk es s v a) : Le (D v) (some (d + a)) := by
  induction h with
  | base => rw [Int.add_zero]; exact hs
  | step h1 he hu ih =>
    subst hu
    intro b hb; cases hb
    obtain ⟨a', h2, h3⟩ := ih _ rfl
    obtain ⟨b, h4, h5⟩ := hc _ he a' h2 _ rfl
    exact ⟨b, h4, by omega⟩

/-! the walk of the law: all at once -/
noncomputable def wayP (B : Di) (v : Nat) (e : Nat × Nat × Int) : Bool := ((e.2.1 : Int) == (v : Int)) && !isNone (optD (B e.1))
theorem optD_some {x : Option Int} (h : (!isNone (optD x)) = true) : ∃ a, x = some a := by
  cases x with
  | none => cases h
  | some a => exact ⟨a, rfl⟩
noncomputable def ways (es : Es) (B : Di) (v : Nat) : List Int := (es.filter (wayP B v)).map (fun e => (B e.1).getD 0 + e.2.2) ++ (B v).toList
noncomputable def stepB (es : Es) (B : Di) (v : Nat) : Option Int := if (ways es B v).length = 0 then none else some (lmin (ways es B v))
theorem stepB_le {es : Es} {B : Di} {v : Nat} {a : Int} (h : a ∈ ways es B v) : Le (stepB es B v) (some a) := fun b hb => by
  cases hb
  rw [stepB, if_neg (by intro q; rw [List.length_eq_zero_iff] at q; rw [q] at h; cases h)]
  exact ⟨_, rfl, lmin_le h⟩
theorem stepB_old {es : Es} {B : Di} {v : Nat} : Le (stepB es B v) (B v) := fun b hb => stepB_le (List.mem_append_right _ (by rw [hb]; simp)) b rfl
theorem stepB_edge {es : Es} {B : Di} {e : Nat × Nat × Int} (he : e ∈ es) {a : Int} (h : B e.1 = some a) : Le (stepB es B e.2.1) (some (a + e.2.2)) := by
  refine stepB_le (List.mem_append_left _ (List.mem_map.mpr ⟨e, List.mem_filter.mpr ⟨he, by simp [wayP, h, optD, isNone]⟩, by rw [h]; rfl⟩))
theorem stepB_is {es : Es} {B : Di} {v : Nat} {b : Int} (h : stepB es B v = some b) : B v = some b ∨ ∃ e ∈ es, e.2.1 = v ∧ ∃ a, B e.1 = some a ∧ b = a + e.2.2 := by
  unfold stepB at h
  split at h
  · cases h
  · rename_i hne
    cases h
    have hm := lmin_mem (ns := ways es B v) (by intro q; rw [q] at hne; exact hne rfl)
    rcases List.mem_append.mp hm with hm | hm
    · obtain ⟨e, h1, h2⟩ := List.mem_map.mp hm
      obtain ⟨h3, h4⟩ := List.mem_filter.mp h1
      simp only [wayP, Bool.and_eq_true, beq_iff_eq] at h4
      obtain ⟨a, ha⟩ := optD_some h4.2
      exact .inr ⟨e, h3, by omega, a, ha, by rw [← h2, ha]; rfl⟩
    · left; simpa using hm
noncomputable def Bk (es : Es) (B : Di) : Nat → Di
  | 0 => B
  | k + 1 => stepB es (Bk es B k)
noncomputable def D0 (s : Nat) : Di := fun v => if v = s then some 0 else none
theorem Bk_att {es : Es} {s : Nat} : ∀ k, Att es s (Bk es (D0 s) k)
  | 0, v, a, h => by
    simp only [Bk, D0] at h
    split at h
    · rename_i q; cases h; rw [q]; exact .base
    · cases h
  | k + 1, v, a, h => by
    rcases stepB_is h with h | ⟨e, he, hv, b, hb, rfl⟩
    · exact Bk_att k v a h
    · subst hv; exact .step (Bk_att k _ _ hb) he rfl
theorem Bk_src {es : Es} {s : Nat} : ∀ k, Le (Bk es (D0 s) k s) (some 0)
  | 0 => by simp [Bk, D0]; exact Le.refl
  | k + 1 => Le.trans stepB_old (Bk_src k)

theorem filter_lt {α : Type} {p q : α → Bool} : ∀ {l : List α}, (∀ a ∈ l, p a = true → q a = true) → (∃ a ∈ l, p a = false ∧ q a = true) → (l.filter p).length < (l.filter q).length
  | [], _, h => by obtain ⟨a, h, _⟩ := h; cases h
  | x :: l, hs, ⟨a, ha, h1, h2⟩ => by
    have hle : (l.filter p).length ≤ (l.filter q).length := by
      rw [← List.countP_eq_length_filter, ← List.countP_eq_length_filter]
      exact List.countP_mono_left fun b hb h => hs b (List.mem_cons_of_mem _ hb) h
    rw [List.filter_cons, List.filter_cons]
    by_cases hx : p x = true
    · rw [if_pos hx, if_pos (hs x (List.mem_cons_self ..) hx)]
      have hxa : a ∈ l := by
        rcases List.mem_cons.mp ha with rfl | h
        · rw [h1] at hx; cases hx
        · exact h
      have := filter_lt (l := l) (fun b hb h => hs b (List.mem_cons_of_mem _ hb) h) ⟨a, hxa, h1, h2⟩
      simp only [List.length_cons]; omega
    · rw [if_neg hx]
      by_cases hq : q x = true
      · rw [if_pos hq]; simp only [List.length_cons]; omega
      · rw [if_neg hq]
        have hxa : a ∈ l := by
          rcases List.mem_cons.mp ha with rfl | h
          · exact absurd h2 hq
          · exact h
        exact filter_lt (l := l) (fun b hb h => hs b (List.mem_cons_of_mem _ hb) h) ⟨a, hxa, h1, h2⟩

/-- a closed table that walks bear out is what the law's walk comes to after n - 1 steps -/
theorem settle {es : Es} {s n : Nat} {D : Di} (hs : s < n) (hes : ∀ e ∈ es, e.1 < n ∧ e.2.1 < n) (hc : Clsd es D) (h0 : Le (D s) (some 0)) (ha : Att es s D) :
    ∀ k v, n ≤ k + 1 → Bk es (D0 s) k v = D v := by
  have low : ∀ k v, Le (D v) (Bk es (D0 s) k v) := fun k v b hb => hc.walk h0 (Bk_att k v b hb) b rfl
  have inN : ∀ v a, Wlk es s v a → v < n := fun v a h => by
    induction h with
    | base => exact hs
    | step _ he _ _ => exact (hes _ he).2
  have stay : ∀ k v, Bk es (D0 s) k v = D v → Bk es (D0 s) (k + 1) v = D v := fun k v h => Le.antisymm (Le.trans stepB_old (h ▸ Le.refl)) (low (k + 1) v)
  have grow : ∀ k v a, Wlk es s v a → D v = some a → Bk es (D0 s) k v = D v ∨ ∃ x, x < n ∧ Bk es (D0 s) k x ≠ D x ∧ Bk es (D0 s) (k + 1) x = D x := by
    intro k v a h
    induction h with
    | base => intro hd; left; exact Le.antisymm (by rw [hd]; exact Bk_src k) (low k s)
    | step h1 he hu ih =>
      rename_i u a e
      intro hd
      subst hu
      obtain ⟨b, h2, h3⟩ := hc.walk h0 h1 a rfl
      obtain ⟨b', h4, h5⟩ := hc e he b h2 _ rfl
      rw [hd] at h4; cases h4
      have hb : b = a := by omega
      subst hb
      rcases ih h2 with q | q
      · have q2 : Bk es (D0 s) (k + 1) e.2.1 = D e.2.1 := Le.antisymm (by rw [hd]; exact stepB_edge he (q.trans h2)) (low _ _)
        by_cases q3 : Bk es (D0 s) k e.2.1 = D e.2.1
        · exact .inl q3
        · exact .inr ⟨e.2.1, (hes e he).2, q3, q2⟩
      · exact .inr q
  have cnt : ∀ k, (∀ v, v < n → Bk es (D0 s) k v = D v) ∨ k + 1 ≤ ((List.range n).filter fun v => decide (Bk es (D0 s) k v = D v)).length := by
    intro k
    induction k with
    | zero =>
      right
      have hm : s ∈ (List.range n).filter fun v => decide (Bk es (D0 s) 0 v = D v) := by
        refine List.mem_filter.mpr ⟨by simpa using hs, decide_eq_true ?_⟩
        refine Le.antisymm ?_ (low 0 s)
        obtain ⟨d, hd, hd0⟩ := h0 0 rfl
        rw [hd]
        intro b hb; cases hb
        obtain ⟨x, hx, hle⟩ := hc.walk' (d := d) (by rw [hd]; exact Le.refl) (ha s d hd) _ rfl
        rw [hd] at hx; cases hx
        have : d = 0 := by omega
        subst this
        exact ⟨0, by simp [Bk, D0], Int.le_refl _⟩
      exact List.length_pos_of_mem hm
    | succ k ih =>
      rcases ih with ih | ih
      · exact .inl fun v hv => stay k v (ih v hv)
      by_cases hall : ∀ v, v < n → Bk es (D0 s) k v = D v
      · exact .inl fun v hv => stay k v (hall v hv)
      right
      obtain ⟨v, hv⟩ := Classical.not_forall.mp hall
      obtain ⟨hvn, hne⟩ := Classical.not_imp.mp hv
      cases hD : D v with
      | none =>
        exfalso; apply hne
        cases hB : Bk es (D0 s) k v with
        | none => rw [hD]
        | some b => obtain ⟨a, q, _⟩ := low k v b hB; rw [hD] at q; cases q
      | some a =>
        rcases grow k v a (ha v a hD) hD with q | ⟨x, hx, q1, q2⟩
        · exact absurd q hne
        · have := filter_lt (l := List.range n) (p := fun v => decide (Bk es (D0 s) k v = D v)) (q := fun v => decide (Bk es (D0 s) (k + 1) v = D v)) (fun v _ h => decide_eq_true (stay k v (of_decide_eq_true h))) ⟨x, by simpa using hx, decide_eq_false q1, decide_eq_true q2⟩
          omega
  intro k v hk
  by_cases hv : v < n
  · rcases cnt k with q | q
    · exact q v hv
    · have h1 := List.length_filter_le (fun v => decide (Bk es (D0 s) k v = D v)) (List.range n)
      rw [List.length_range] at h1
      have h2 : ((List.range n).filter fun v => decide (Bk es (D0 s) k v = D v)).length = (List.range n).length := by rw [List.length_range]; omega
      have h3 := List.length_filter_eq_length_iff.mp h2 v (by simpa using hv)
      exact of_decide_eq_true h3
  · have n1 : D v = none := by
      cases hD : D v with
      | none => rfl
      | some a => exact absurd (inN v a (ha v a hD)) hv
    have n2 : Bk es (D0 s) k v = none := by
      cases hD : Bk es (D0 s) k v with
      | none => rfl
      | some a => exact absurd (inN v a (Bk_att k v a hD)) hv
    rw [n1, n2]

/-! the walk of the function: edge by edge -/
noncomputable def updD (D : Di) (v : Nat) (x : Int) : Di := fun u => if u = v then some x else D u
noncomputable def better (D : Di) (e : Nat × Nat × Int) : Option Int :=
  match D e.1 with
  | none => none
  | some a => match D e.2.1 with
    | none => some (a + e.2.2)
    | some b => if a + e.2.2 < b then some (a + e.2.2) else none
noncomputable def rel (p : Di × Bool) (e : Nat × Nat × Int) : Di × Bool :=
  match better p.1 e with
  | none => p
  | some x => (updD p.1 e.2.1 x, true)
noncomputable def rnd (es : Es) (D : Di) : Di × Bool := es.foldl rel (D, false)
theorem better_some {D : Di} {e : Nat × Nat × Int} {x : Int} (h : better D e = some x) : ∃ a, D e.1 = some a ∧ x = a + e.2.2 ∧ Le (some x) (D e.2.1) := by
  unfold better at h
  split at h
  · cases h
  · rename_i a ha
    split at h
    · rename_i hb; cases h; exact ⟨a, ha, rfl, by rw [hb]; intro b q; cases q⟩
    · rename_i b hb
      split at h
      · rename_i hlt; cases h; exact ⟨a, ha, rfl, by rw [hb]; intro b' q; cases q; exact ⟨_, rfl, by omega⟩⟩
      · cases h
theorem better_none {D : Di} {e : Nat × Nat × Int} (h : better D e = none) {a : Int} (ha : D e.1 = some a) : Le (D e.2.1) (some (a + e.2.2)) := by
  unfold better at h
  rw [ha] at h
  simp only at h
  split at h
  · cases h
  · rename_i b hb
    split at h
    · cases h
    · intro c hc; cases hc; rw [hb]; exact ⟨b, rfl, by omega⟩
theorem updD_le {D : Di} {v : Nat} {x : Int} (h : Le (some x) (D v)) : ∀ u, Le (updD D v x u) (D u) := fun u => by
  unfold updD; split
  · rename_i q; rw [q]; exact h
  · exact Le.refl
theorem rel_le {p : Di × Bool} {e : Nat × Nat × Int} : ∀ u, Le ((rel p e).1 u) (p.1 u) := fun u => by
  unfold rel; split
  · exact Le.refl
  · rename_i x hx
    obtain ⟨a, _, _, h⟩ := better_some hx
    exact updD_le h u
theorem rel_edge {p : Di × Bool} {e : Nat × Nat × Int} {a : Int} (h : p.1 e.1 = some a) : Le ((rel p e).1 e.2.1) (some (a + e.2.2)) := by
  unfold rel; split
  · rename_i hx; exact better_none hx h
  · rename_i x hx
    obtain ⟨a', h1, h2, _⟩ := better_some hx
    rw [h] at h1; cases h1
    show Le (updD p.1 e.2.1 x e.2.1) _
    rw [updD, if_pos rfl, h2]; exact Le.refl
theorem rel_att {es : Es} {s : Nat} {p : Di × Bool} {e : Nat × Nat × Int} (he : e ∈ es) (h : Att es s p.1) : Att es s (rel p e).1 := fun v a hv => by
  unfold rel at hv; split at hv
  · exact h v a hv
  · rename_i x hx
    obtain ⟨a', h1, h2, _⟩ := better_some hx
    simp only [updD] at hv
    split at hv
    · rename_i q; cases hv; rw [q, h2]; exact .step (h _ _ h1) he rfl
    · exact h v a hv
theorem fold_le : ∀ (es : Es) (p : Di × Bool) u, Le ((es.foldl rel p).1 u) (p.1 u)
  | [], _, _ => Le.refl
  | e :: es, p, u => Le.trans (fold_le es (rel p e) u) (rel_le u)
theorem fold_edge : ∀ (es : Es) (p : Di × Bool) (e : Nat × Nat × Int), e ∈ es → ∀ a, p.1 e.1 = some a → Le ((es.foldl rel p).1 e.2.1) (some (a + e.2.2))
  | e' :: es, p, e, he, a, ha => by
    rcases List.mem_cons.mp he with rfl | he
    · exact Le.trans (fold_le es _ _) (rel_edge ha)
    · obtain ⟨a', h1, h2⟩ := rel_le (p := p) (e := e') e.1 a ha
      refine Le.trans (fold_edge es (rel p e') e he a' h1) ?_
      intro b hb; cases hb; exact ⟨_, rfl, by omega⟩
theorem fold_att {es0 : Es} {s : Nat} : ∀ (es : Es) (p : Di × Bool), (∀ e ∈ es, e ∈ es0) → Att es0 s p.1 → Att es0 s (es.foldl rel p).1
  | [], _, _, h => h
  | e :: es, p, hs, h => fold_att es (rel p e) (fun e' he' => hs e' (List.mem_cons_of_mem _ he')) (rel_att (hs e (List.mem_cons_self ..)) h)
theorem fold_flag : ∀ (es : Es) (p : Di × Bool), p.2 = true → (es.foldl rel p).2 = true
  | [], _, h => h
  | e :: es, p, h => fold_flag es (rel p e) (by unfold rel; split; exact h; rfl)
/-- no change: the table is closed, and is as it was -/
theorem fold_still : ∀ (es : Es) (p : Di × Bool), (es.foldl rel p).2 = false → (es.foldl rel p).1 = p.1 ∧ ∀ e ∈ es, better p.1 e = none
  | [], _, _ => ⟨rfl, nofun⟩
  | e :: es, p, h => by
    have hb : better p.1 e = none := by
      cases q : better p.1 e with
      | none => rfl
      | some x =>
        have : (rel p e).2 = true := by unfold rel; rw [q]
        rw [show (e :: es).foldl rel p = es.foldl rel (rel p e) from rfl, fold_flag es _ this] at h; cases h
    have hr : rel p e = p := by unfold rel; rw [hb]
    rw [show (e :: es).foldl rel p = es.foldl rel (rel p e) from rfl, hr] at h ⊢
    obtain ⟨h1, h2⟩ := fold_still es p h
    exact ⟨h1, fun e' he' => by rcases List.mem_cons.mp he' with rfl | he'; exact hb; exact h2 e' he'⟩
theorem fold_closed : ∀ (es : Es) (p : Di × Bool), p.2 = false → (∀ e ∈ es, better p.1 e = none) → (es.foldl rel p).2 = false
  | [], _, h, _ => h
  | e :: es, p, h, hb => by
    have hr : rel p e = p := by unfold rel; rw [hb e (List.mem_cons_self ..)]
    rw [show (e :: es).foldl rel p = es.foldl rel (rel p e) from rfl, hr]
    exact fold_closed es p h fun e' he' => hb e' (List.mem_cons_of_mem _ he')
theorem closed_better {D : Di} {e : Nat × Nat × Int} (h : ∀ a, D e.1 = some a → Le (D e.2.1) (some (a + e.2.2))) : better D e = none := by
  unfold better
  split
  · rfl
  · rename_i a ha
    obtain ⟨b, hb, hle⟩ := h a ha _ rfl
    rw [hb]; simp only
    rw [if_neg (by omega)]

noncomputable def bfR (es : Es) : Nat → Di → Option Di
  | 0, _ => none
  | r + 1, D => if (rnd es D).2 = true then bfR es r (rnd es D).1 else some (rnd es D).1
/-- what the function gives: the law's table when one step more leaves it alone, else None -/
theorem bf_some {es : Es} {s n : Nat} (hs : s < n) (hes : ∀ e ∈ es, e.1 < n ∧ e.2.1 < n) : ∀ r (D D' : Di), Att es s D → Le (D s) (some 0) → bfR es r D = some D' → ∀ k v, n ≤ k + 1 → Bk es (D0 s) k v = D' v
  | r + 1, D, D', ha, h0, h => by
    unfold bfR at h
    split at h
    · exact bf_some hs hes r _ D' (fold_att es _ (fun _ h => h) ha) (Le.trans (fold_le es _ s) h0) h
    · rename_i q
      cases h
      obtain ⟨h1, h2⟩ := fold_still es (D, false) (by simpa [rnd] using q)
      have h1 : (rnd es D).1 = D := h1
      rw [h1]
      exact settle hs hes (fun e he a hx => better_none (h2 e he) hx) h0 ha
theorem bf_none {es : Es} {s n : Nat} (hes : ∀ e ∈ es, e.1 < n ∧ e.2.1 < n) (hst : ∀ v, v < n → stepB es (Bk es (D0 s) (n - 1)) v = Bk es (D0 s) (n - 1) v) :
    ∀ r k (D : Di), k + r = n → 1 ≤ r → Att es s D → (∀ v, Le (D v) (Bk es (D0 s) k v)) → bfR es r D ≠ none
  | r + 1, k, D, hk, hr, ha, hle => by
    unfold bfR
    split
    · rename_i q
      by_cases hr0 : r = 0
      · exfalso
        have e1 : k = n - 1 := by omega
        subst e1
        have hcl : Clsd es (Bk es (D0 s) (n - 1)) := fun e he a h => hst e.2.1 (hes e he).2 ▸ stepB_edge he h
        have heq : ∀ v, D v = Bk es (D0 s) (n - 1) v := fun v => Le.antisymm (hle v) fun b hb => hcl.walk (Bk_src _) (ha v b hb) b rfl
        have : (rnd es D).2 = false := fold_closed es (D, false) rfl fun e he => closed_better fun a h => by
          show Le (D e.2.1) _
          rw [heq]; exact hcl e he a (heq _ ▸ h)
        rw [this] at q; cases q
      · refine bf_none hes hst r (k + 1) _ (by omega) (by omega) (fold_att es _ (fun _ h => h) ha) fun v b hb => ?_
        rcases stepB_is hb with h | ⟨e, he, hv, a, h1, rfl⟩
        · exact Le.trans (fold_le es (D, false) v) (hle v) b h
        · subst hv
          obtain ⟨a', h2, h3⟩ := hle _ a h1
          obtain ⟨c, h4, h5⟩ := fold_edge es (D, false) e he a' h2 _ rfl
          exact ⟨c, h4, by omega⟩
    · simp

/-! the functions -/
end Mine

namespace Mine
/-! 0041, the plain part: three roads to the shortest path, over ints -/
noncomputable abbrev TI := Nat → Nat → Option Int
noncomputable def upd2 {α : Type} (T : Nat → Nat → Option α) (i j : Nat) (x : α) : Nat → Nat → Option α := fun u v => if u = i ∧ v = j then some x else T u v
noncomputable def oadd : Option Int → Option Int → Option Int
  | some a, some b => some (a + b)
  | _, _ => none
noncomputable def omin : Option Int → Option Int → Option Int
  | some a, some b => some (if b < a then b else a)
  | some a, none => some a
  | none, b => b
noncomputable def stI (T : TI) (k i j : Nat) : TI := match T i k, T k j with
  | some a, some b => (match T i j with | none => upd2 T i j (a + b) | some x => if a + b < x then upd2 T i j (a + b) else T)
  | _, _ => T
theorem stI_eq (T : TI) (k i j : Nat) : stI T k i j = fun u v => if u = i ∧ v = j then omin (T i j) (oadd (T i k) (T k j)) else T u v := by
  have same : ∀ z, T i j = z → T = fun u v => if u = i ∧ v = j then z else T u v := fun z h => by
    funext u v
    by_cases q : u = i ∧ v = j
    · rw [if_pos q, q.1, q.2]; exact h
    · rw [if_neg q]
  unfold stI
  cases hA : T i k with
  | none => exact same _ (by cases T i j <;> rfl)
  | some a =>
    cases hB : T k j with
    | none => exact same _ (by cases T i j <;> rfl)
    | some b =>
      cases hC : T i j with
      | none => rfl
      | some x =>
        show (if a + b < x then upd2 T i j (a + b) else T) = _
        by_cases q : a + b < x
        · rw [if_pos q]
          funext u v
          unfold upd2
          show _ = if u = i ∧ v = j then some (if a + b < x then a + b else x) else T u v
          rw [if_pos q]
        · rw [if_neg q]
          refine same _ ?_
          show T i j = some (if a + b < x then a + b else x)
          rw [if_neg q, hC]
noncomputable def fjI (k i : Nat) : Nat → TI → TI
  | 0, T => T
  | j + 1, T => stI (fjI k i j T) k i j
noncomputable def fiI (n k : Nat) : Nat → TI → TI
  | 0, T => T
  | i + 1, T => fjI k i n (fiI n k i T)
noncomputable def fkI (n : Nat) : Nat → TI → TI
  | 0, T => T
  | k + 1, T => fiI n k n (fkI n k T)
noncomputable def mn (T : TI) (k i j : Nat) : Option Int := omin (T i j) (oadd (T i k) (T k j))
theorem mn_or {T : TI} {k i j : Nat} {a : Int} (h : mn T k i j = some a) : T i j = some a ∨ ∃ p q, T i k = some p ∧ T k j = some q ∧ a = p + q := by
  unfold mn at h
  cases hA : T i k with
  | none => rw [hA] at h; left; cases hC : T i j <;> rw [hC] at h <;> exact h
  | some p =>
    cases hB : T k j with
    | none => rw [hA, hB] at h; left; cases hC : T i j <;> rw [hC] at h <;> exact h
    | some q =>
      rw [hA, hB] at h
      cases hC : T i j with
      | none => rw [hC] at h; cases h; exact .inr ⟨p, q, rfl, rfl, rfl⟩
      | some x =>
        rw [hC] at h
        have h : some (if p + q < x then p + q else x) = some a := h
        by_cases r : p + q < x
        · rw [if_pos r] at h; cases h; exact .inr ⟨p, q, rfl, rfl, rfl⟩
        · rw [if_neg r] at h; exact .inl h
theorem mn_le1 (T : TI) (k i j : Nat) : Le (mn T k i j) (T i j) := fun b hb => by
  unfold mn
  rw [hb]
  cases oadd (T i k) (T k j) with
  | none => exact ⟨b, rfl, Int.le_refl _⟩
  | some y =>
    show ∃ a, some (if y < b then y else b) = some a ∧ a ≤ b
    by_cases r : y < b
    · rw [if_pos r]; exact ⟨y, rfl, by omega⟩
    · rw [if_neg r]; exact ⟨b, rfl, Int.le_refl _⟩
theorem mn_le2 (T : TI) (k i j : Nat) {p q : Int} (hp : T i k = some p) (hq : T k j = some q) : Le (mn T k i j) (some (p + q)) := fun b hb => by
  cases hb
  unfold mn
  rw [hp, hq]
  cases T i j with
  | none => exact ⟨_, rfl, Int.le_refl _⟩
  | some x =>
    show ∃ a, some (if p + q < x then p + q else x) = some a ∧ a ≤ p + q
    by_cases r : p + q < x
    · rw [if_pos r]; exact ⟨_, rfl, Int.le_refl _⟩
    · rw [if_neg r]; exact ⟨x, rfl, by omega⟩
theorem mn_k1 {T : TI} {k i : Nat} (h : T k k = some 0) : mn T k i k = T i k := by
  unfold mn
  rw [h]
  cases T i k with
  | none => rfl
  | some a => show some (if a + 0 < a then a + 0 else a) = some a; rw [if_neg (by omega)]
theorem mn_k2 {T : TI} {k j : Nat} (h : T k k = some 0) : mn T k k j = T k j := by
  unfold mn
  rw [h]
  cases T k j with
  | none => rfl
  | some a => show some (if 0 + a < a then 0 + a else a) = some a; rw [if_neg (by omega)]
noncomputable def hyb (T : TI) (n k i j : Nat) : TI := fun u v => if (u < i ∧ v < n) ∨ (u = i ∧ v < j) then mn T k u v else T u v
theorem hyb_step {T : TI} {n k i j : Nat} (h : T k k = some 0) (hk : k < n) (hj : j < n) : stI (hyb T n k i j) k i j = hyb T n k i (j + 1) := by
  rw [stI_eq]
  have e1 : hyb T n k i j i j = T i j := by unfold hyb; rw [if_neg (by omega)]
  have e2 : hyb T n k i j i k = T i k := by unfold hyb; split; exact mn_k1 h; rfl
  have e3 : hyb T n k i j k j = T k j := by unfold hyb; split; exact mn_k2 h; rfl
  rw [e1, e2, e3]
  funext u v
  by_cases q : u = i ∧ v = j
  · rw [if_pos q]
    unfold hyb
    rw [if_pos (by omega), q.1, q.2]; rfl
  · rw [if_neg q]
    unfold hyb
    by_cases r : (u < i ∧ v < n) ∨ (u = i ∧ v < j)
    · rw [if_pos r, if_pos (by omega)]
    · rw [if_neg r, if_neg (by omega)]
theorem hyb_j {T : TI} {n k i : Nat} (h : T k k = some 0) (hk : k < n) : ∀ j, j ≤ n → fjI k i j (hyb T n k i 0) = hyb T n k i j
  | 0, _ => rfl
  | j + 1, hj => by
    show stI (fjI k i j (hyb T n k i 0)) k i j = _
    rw [hyb_j h hk j (by omega), hyb_step h hk hj]
theorem hyb_i {T : TI} {n k : Nat} (h : T k k = some 0) (hk : k < n) : ∀ i, fiI n k i (hyb T n k 0 0) = hyb T n k i 0
  | 0 => rfl
  | i + 1 => by
    show fjI k i n (fiI n k i (hyb T n k 0 0)) = _
    rw [hyb_i h hk i, hyb_j h hk n (Nat.le_refl _)]
    funext u v
    unfold hyb
    by_cases r : (u < i ∧ v < n) ∨ (u = i ∧ v < n)
    · rw [if_pos r, if_pos (by omega)]
    · rw [if_neg r, if_neg (by omega)]
theorem phase {T : TI} {n k : Nat} (h : T k k = some 0) (hk : k < n) {i j : Nat} (hi : i < n) (hj : j < n) : fiI n k n T i j = mn T k i j := by
  have e : hyb T n k 0 0 = T := by
    funext u v
    unfold hyb
    rw [if_neg (by omega)]
  have := hyb_i (T := T) h hk n
  rw [e] at this
  rw [this]
  unfold hyb
  rw [if_pos (.inl ⟨hi, hj⟩)]
theorem Wlk.trans {es : Es} {i k j : Nat} {p q : Int} (h1 : Wlk es i k p) (h2 : Wlk es k j q) : Wlk es i j (p + q) := by
  induction h2 with
  | base => rw [Int.add_zero]; exact h1
  | step h he hu ih => rw [← Int.add_assoc]; exact .step ih he hu
/-- what holds of the table -/
structure FW (n : Nat) (es : Es) (T : TI) (m : Nat) : Prop where
  dg : ∀ v, v < n → T v v = some 0
  nn : ∀ i j a, i < n → j < n → T i j = some a → 0 ≤ a
  tr : ∀ k, k < m → ∀ i j p q, i < n → j < n → T i k = some p → T k j = some q → Le (T i j) (some (p + q))
  at_ : ∀ i j a, i < n → j < n → T i j = some a → Wlk es i j a
  ed : ∀ e ∈ es, Le (T e.1 e.2.1) (some e.2.2)
theorem FW.next {n m : Nat} {es : Es} {T : TI} (hes : ∀ e ∈ es, e.1 < n ∧ e.2.1 < n) (F : FW n es T m) (hm : m < n) : FW n es (fiI n m n T) (m + 1) := by
  have hz := F.dg m hm
  have ph := fun i j (hi : i < n) (hj : j < n) => phase (T := T) hz hm hi hj
  have nn' : ∀ i j a, i < n → j < n → mn T m i j = some a → 0 ≤ a := fun i j a hi hj h => by
    rcases mn_or h with q | ⟨p, q, h1, h2, rfl⟩
    · exact F.nn i j a hi hj q
    · have := F.nn i m p hi hm h1; have := F.nn m j q hm hj h2; omega
  refine ⟨fun v hv => ?_, fun i j a hi hj h => nn' i j a hi hj (by rw [← ph i j hi hj]; exact h), fun k hk i j p q hi hj h1 h2 => ?_, fun i j a hi hj h => ?_, fun e he => ?_⟩
  · rw [ph v v hv hv]
    obtain ⟨a, h1, h2⟩ := mn_le1 T m v v 0 (F.dg v hv)
    have := nn' v v a hv hv h1
    rw [h1]; congr 1; omega
  · rw [ph i j hi hj]
    rcases Nat.lt_or_eq_of_le (Nat.lt_succ_iff.mp hk) with hk' | rfl
    · have hkn : k < n := by omega
      rw [ph i k hi hkn] at h1
      rw [ph k j hkn hj] at h2
      rcases mn_or h1 with a | ⟨p1, p2, a1, a2, rfl⟩ <;> rcases mn_or h2 with b | ⟨q1, q2, b1, b2, rfl⟩
      · exact Le.trans (mn_le1 T m i j) (F.tr k hk' i j p q hi hj a b)
      · obtain ⟨x, x1, x2⟩ := F.tr k hk' i m p q1 hi hm a b1 _ rfl
        exact fun b hb => by
          cases hb
          obtain ⟨y, y1, y2⟩ := mn_le2 T m i j x1 b2 _ rfl
          exact ⟨y, y1, by omega⟩
      · obtain ⟨x, x1, x2⟩ := F.tr k hk' m j p2 q hm hj a2 b _ rfl
        exact fun b hb => by
          cases hb
          obtain ⟨y, y1, y2⟩ := mn_le2 T m i j a1 x1 _ rfl
          exact ⟨y, y1, by omega⟩
      · obtain ⟨x, x1, x2⟩ := F.tr k hk' m m p2 q1 hm hm a2 b1 _ rfl
        have : x = 0 := by rw [hz] at x1; cases x1; rfl
        exact fun b hb => by
          cases hb
          obtain ⟨y, y1, y2⟩ := mn_le2 T m i j a1 b2 _ rfl
          exact ⟨y, y1, by omega⟩
    · rw [ph i k hi hm, mn_k1 hz] at h1
      rw [ph k j hm hj, mn_k2 hz] at h2
      exact mn_le2 T k i j h1 h2
  · rw [ph i j hi hj] at h
    rcases mn_or h with q | ⟨p, q, h1, h2, rfl⟩
    · exact F.at_ i j a hi hj q
    · exact (F.at_ i m p hi hm h1).trans (F.at_ m j q hm hj h2)
  · obtain ⟨h1, h2⟩ := hes e he
    rw [ph _ _ h1 h2]
    exact Le.trans (mn_le1 T m _ _) (F.ed e he)
theorem FW.all {n : Nat} {es : Es} {T : TI} (hes : ∀ e ∈ es, e.1 < n ∧ e.2.1 < n) (F : FW n es T 0) : ∀ k, k ≤ n → FW n es (fkI n k T) k
  | 0, _ => F
  | k + 1, hk => FW.next hes (FW.all hes F k (by omega)) hk
noncomputable def inE (T : TI) (e : Nat × Nat × Int) : TI := match T e.1 e.2.1 with
  | none => upd2 T e.1 e.2.1 e.2.2
  | some x => if e.2.2 < x then upd2 T e.1 e.2.1 e.2.2 else T
noncomputable def dgI (n : Nat) : TI := fun u v => if u = v ∧ u < n then some 0 else none
theorem inE_n {T : TI} {e : Nat × Nat × Int} (h : T e.1 e.2.1 = none) : inE T e = upd2 T e.1 e.2.1 e.2.2 := by unfold inE; rw [h]
theorem inE_s {T : TI} {e : Nat × Nat × Int} {x : Int} (h : T e.1 e.2.1 = some x) : inE T e = if e.2.2 < x then upd2 T e.1 e.2.1 e.2.2 else T := by unfold inE; rw [h]
theorem inE_or {T : TI} {e : Nat × Nat × Int} {i j : Nat} {a : Int} (h : inE T e i j = some a) : T i j = some a ∨ (i = e.1 ∧ j = e.2.1 ∧ a = e.2.2) := by
  have up : upd2 T e.1 e.2.1 e.2.2 i j = some a → T i j = some a ∨ (i = e.1 ∧ j = e.2.1 ∧ a = e.2.2) := fun h => by
    unfold upd2 at h
    split at h
    · rename_i q; cases h; exact .inr ⟨q.1, q.2, rfl⟩
    · exact .inl h
  cases q : T e.1 e.2.1 with
  | none => rw [inE_n q] at h; exact up h
  | some x =>
    rw [inE_s q] at h
    by_cases r : e.2.2 < x
    · rw [if_pos r] at h; exact up h
    · rw [if_neg r] at h; exact .inl h
theorem inE_le (T : TI) (e : Nat × Nat × Int) (i j : Nat) : Le (inE T e i j) (T i j) := fun b hb => by
  cases q : T e.1 e.2.1 with
  | none =>
    rw [inE_n q]
    unfold upd2
    by_cases r : i = e.1 ∧ j = e.2.1
    · rw [← r.1, ← r.2, hb] at q; cases q
    · rw [if_neg r]; exact ⟨b, hb, Int.le_refl _⟩
  | some x =>
    rw [inE_s q]
    by_cases hlt : e.2.2 < x
    · rw [if_pos hlt]
      unfold upd2
      by_cases r : i = e.1 ∧ j = e.2.1
      · rw [← r.1, ← r.2, hb] at q
        cases q
        rw [if_pos r]; exact ⟨_, rfl, by omega⟩
      · rw [if_neg r]; exact ⟨b, hb, Int.le_refl _⟩
    · rw [if_neg hlt]; exact ⟨b, hb, Int.le_refl _⟩
theorem inE_at (T : TI) (e : Nat × Nat × Int) : Le (inE T e e.1 e.2.1) (some e.2.2) := fun b hb => by
  cases hb
  cases q : T e.1 e.2.1 with
  | none => rw [inE_n q]; unfold upd2; rw [if_pos ⟨rfl, rfl⟩]; exact ⟨_, rfl, Int.le_refl _⟩
  | some x =>
    rw [inE_s q]
    by_cases hlt : e.2.2 < x
    · rw [if_pos hlt]; unfold upd2; rw [if_pos ⟨rfl, rfl⟩]; exact ⟨_, rfl, Int.le_refl _⟩
    · rw [if_neg hlt, q]; exact ⟨x, rfl, by omega⟩
theorem FW.init {n : Nat} {es0 : Es} (hwn : ∀ e ∈ es0, 0 ≤ e.2.2) : ∀ (es : Es) (T : TI), (∀ e ∈ es, e ∈ es0) → (∀ v, v < n → T v v = some 0) → (∀ i j a, T i j = some a → 0 ≤ a ∧ Wlk es0 i j a) →
    (∀ v, v < n → es.foldl inE T v v = some 0) ∧ (∀ i j a, es.foldl inE T i j = some a → 0 ≤ a ∧ Wlk es0 i j a) ∧ (∀ i j, Le (es.foldl inE T i j) (T i j)) ∧ ∀ e ∈ es, Le (es.foldl inE T e.1 e.2.1) (some e.2.2)
  | [], T, _, h1, h2 => ⟨h1, h2, fun _ _ => Le.refl, nofun⟩
  | e :: es, T, hin, h1, h2 => by
    have he := hin e (List.mem_cons_self ..)
    have hw := hwn e he
    have h2' : ∀ i j a, inE T e i j = some a → 0 ≤ a ∧ Wlk es0 i j a := fun i j a h => by
      rcases inE_or h with q | ⟨rfl, rfl, rfl⟩
      · exact h2 i j a q
      · refine ⟨hw, ?_⟩
        have := Wlk.step (Wlk.base (es := es0) (s := e.1)) he rfl
        rwa [Int.zero_add] at this
    have h1' : ∀ v, v < n → inE T e v v = some 0 := fun v hv => by
      obtain ⟨a, a1, a2⟩ := inE_le T e v v 0 (h1 v hv)
      have := (h2' v v a a1).1
      rw [a1]; congr 1; omega
    obtain ⟨b1, b2, b3, b4⟩ := FW.init hwn es (inE T e) (fun x hx => hin x (List.mem_cons_of_mem _ hx)) h1' h2'
    refine ⟨b1, b2, fun i j => Le.trans (b3 i j) (inE_le T e i j), fun x hx => ?_⟩
    rcases List.mem_cons.mp hx with rfl | hx
    · exact Le.trans (b3 _ _) (inE_at T _)
    · exact b4 x hx
noncomputable def fwI (n : Nat) (es : Es) : TI := fkI n n (es.foldl inE (dgI n))
theorem fw_ok {n s : Nat} {es : Es} (hs : s < n) (hes : ∀ e ∈ es, e.1 < n ∧ e.2.1 < n) (hwn : ∀ e ∈ es, 0 ≤ e.2.2) :
    fwI n es s s = some 0 ∧ (∀ e ∈ es, ∀ a, fwI n es s e.1 = some a → Le (fwI n es s e.2.1) (some (a + e.2.2))) ∧ ∀ v a, v < n → fwI n es s v = some a → Wlk es s v a := by
  have dg : ∀ i j a, dgI n i j = some a → 0 ≤ a ∧ Wlk es i j a := fun i j a h => by
    unfold dgI at h
    split at h
    · rename_i q; cases h; exact ⟨Int.le_refl _, q.1 ▸ .base⟩
    · cases h
  obtain ⟨b1, b2, _, b4⟩ := FW.init (n := n) hwn es (dgI n) (fun _ h => h) (fun v hv => by unfold dgI; rw [if_pos ⟨rfl, hv⟩]) dg
  have F : FW n es (es.foldl inE (dgI n)) 0 := ⟨b1, fun i j a _ _ h => (b2 i j a h).1, fun k hk => absurd hk (Nat.not_lt_zero k), fun i j a _ _ h => (b2 i j a h).2, b4⟩
  have G := FW.all hes F n (Nat.le_refl _)
  refine ⟨G.dg s hs, fun e he a h => ?_, fun v a hv h => G.at_ s v a hs hv h⟩
  obtain ⟨h1, h2⟩ := hes e he
  obtain ⟨w, w1, w2⟩ := G.ed e he _ rfl
  exact fun b hb => by
    cases hb
    obtain ⟨x, x1, x2⟩ := G.tr e.1 h1 s e.2.1 a w hs h2 h w1 _ rfl
    exact ⟨x, x1, by omega⟩
/-! the three agree -/
theorem di_att {n s : Nat} {es : List Ed} {D : Nat → Option Int} {P : Nat → Option Nat} (I : DI n s es D P [] fun _ => False) (hs : s < n) (hes : ∀ e ∈ es, e.1 < n ∧ e.2.1 < n) : Att es s D := fun v a hv => by
  obtain ⟨_, f2, _, _⟩ := I.fin hs hes
  have key : ∀ v, Rt s P v → ∀ a, D v = some a → Wlk es s v a := fun v h => by
    induction h with
    | src => intro a ha; rw [I.d0] at ha; cases ha; exact .base
    | step hp hr ih =>
      rename_i v u
      intro a ha
      by_cases q : v = s
      · subst q; rw [I.d0] at ha; cases ha; exact .base
      · obtain ⟨u', du, g1, g2, g3, g4⟩ := f2 v a q ha
        rw [hp] at g1; cases g1
        have := Wlk.step (ih du g3) g4 rfl
        have e : du + (a - du) = a := by omega
        simp only [e] at this
        exact this
  exact key v (I.rt v a hv) a hv
theorem three {n s : Nat} {es : List Ed} {D : Nat → Option Int} {P : Nat → Option Nat} (hs : s < n) (hes : ∀ e ∈ es, e.1 < n ∧ e.2.1 < n) (hwn : ∀ e ∈ es, 0 ≤ e.2.2) (I : DI n s es D P [] fun _ => False) :
    (∃ D', bfR es n (D0 s) = some D' ∧ ∀ v, D' v = D v) ∧ ∀ v, v < n → fwI n es s v = D v := by
  obtain ⟨f1, _, _, _⟩ := I.fin hs hes
  have hc : Clsd es D := fun e he a ha b hb => by
    cases hb
    obtain ⟨d', h1, h2⟩ := f1 e he a ha
    exact ⟨d', h1, h2⟩
  have h0 : Le (D s) (some 0) := fun b hb => by cases hb; exact ⟨0, I.d0, Int.le_refl _⟩
  have ha := di_att I hs hes
  have st := settle hs hes hc h0 ha
  refine ⟨?_, fun v hv => ?_⟩
  · cases hb : bfR es n (D0 s) with
    | none =>
      refine absurd hb (bf_none hes (fun v hv => ?_) n 0 (D0 s) (by omega) (by omega) (fun v a h => ?_) (fun v => Le.refl))
      · have e1 := st (n - 1) v (by omega)
        have e2 : Bk es (D0 s) (n - 1 + 1) v = D v := st (n - 1 + 1) v (by omega)
        rw [e1]; exact e2
      · exact Bk_att 0 v a h
    | some D' =>
      refine ⟨D', rfl, fun v => ?_⟩
      rw [← bf_some hs hes n (D0 s) D' (Bk_att 0) (Bk_src (es := es) 0) hb n v (by omega), st n v (by omega)]
  · obtain ⟨g1, g2, g3⟩ := fw_ok hs hes hwn
    refine Le.antisymm (fun b hb => ?_) (fun b hb => ?_)
    · have := Clsd.walk (D := fwI n es s) g2 (by rw [g1]; exact Le.refl) (ha v b hb)
      exact this b rfl
    · exact hc.walk h0 (g3 v b hv hb) b rfl
end Mine

set_option maxRecDepth 100000
namespace Mine
open PySem PySem.Spec PySem.Calls PyProof.Rows
/-! numbers: ints and floats; the flag of a float says that it is younger than the context's mark -/
inductive Num where
  | i (x : Int)
  | f (b : UInt64) (q : Bool)
  deriving DecidableEq
noncomputable def encU : Num → PyData
  | .i x => .int x
  | .f b q => fltD b q
noncomputable def nadd (z : Bool) : Num → Num → Num
  | .i x, .i y => .i (x + y)
  | .i x, .f b _ => .f (Float64.add (Float64.ofInt x) b) z
  | .f a _, .i y => .f (Float64.add a (Float64.ofInt y)) z
  | .f a _, .f b _ => .f (Float64.add a b) z
noncomputable def okA : Num → Num → Bool
  | .i x, .f _ _ => !Float64.isInf (Float64.ofInt x)
  | .f _ _, .i y => !Float64.isInf (Float64.ofInt y)
  | _, _ => true
noncomputable def nlt : Num → Num → Bool
  | .i x, .i y => decide (x < y)
  | .i n, .f a _ => Float64.cmpInt a n == some Ordering.gt
  | .f a _, .i n => Float64.cmpInt a n == some Ordering.lt
  | .f a _, .f b _ => Float64.cmp a b == some Ordering.lt
noncomputable def neq : Num → Num → Bool
  | .i x, .i y => x == y
  | .i n, .f a _ => Float64.cmpInt a n == some Ordering.eq
  | .f a _, .i n => Float64.cmpInt a n == some Ordering.eq
  | .f a _, .f b _ => Float64.cmp a b == some Ordering.eq
theorem encU_flat (a : Num) : flat (encU a) = true := by cases a <;> rfl
theorem u64_inj {a b : UInt64} (h : (a.toNat : Int) = (b.toNat : Int)) : a = b := UInt64.toNat_inj.mp (Int.ofNat.inj h)
theorem reads_flt {L T : Nat} {h : Heap} {v : Value} {b : UInt64} {q : Bool} {as : List Addr} (r : Reads L T h v (fltD b q) as) : ∃ t, v = .float b t ∧ as = [] ∧ t ≠ 0 ∧ t < T ∧ (q = true → L ≤ t) := by
  generalize hd : fltD b q = d at r
  cases r with
  | flt b' q' t h1 h2 h3 =>
    injection hd with hd
    injection hd with hd _
    injection hd with hq hb
    injection hq with hq
    injection hb with hb
    have := u64_inj hb
    subst this hq
    exact ⟨t, rfl, rfl, h1, h2, h3⟩
  | _ => cases hd
section
variable {c : Cx} {f : Fm} {ρ : Rho} {e l r : Expr} {k k1 k2 : EK} {pos : Pos} {a b : Num} {z : Bool} {n : Nat}
theorem lo_ne {s : Shared} (hc : 1 ≤ c.lo) (W : Wf c s) : s.toks ≠ 0 := by have := W.lot; omega
theorem ev_addU (z : Bool) (hc : 1 ≤ c.lo) (h1 : Ev c f ρ l (encU a) k1) (h2 : Ev c f ρ r (encU b) k2) (ok : okA a b = true) : Ev c f ρ (.BinOp l .Add r pos) (encU (nadd z a b)) .fr := by
  cases a with
  | i x =>
    cases b with
    | i y => exact ev_add h1 h2
    | f b q =>
      refine ev_bin h1 h2 fun s v1 v2 as1 as2 E W _ r1 r2 => ?_
      cases r1 with | int _ t =>
      obtain ⟨u, rfl, _⟩ := reads_flt r2
      exact AutoFloatOps.add_if_1 (by simpa [okA] using ok) (show (fun v s' => _) _ _ from ⟨Ext.toks W _, [], .flt _ _ _ (lo_ne hc W) (Nat.lt_succ_self _) (fun _ => W.lot), .nil, nofun, nofun⟩)
  | f a q =>
    cases b with
    | i y =>
      refine ev_bin h1 h2 fun s v1 v2 as1 as2 E W _ r1 r2 => ?_
      cases r2 with | int _ t =>
      obtain ⟨u, rfl, _⟩ := reads_flt r1
      exact AutoFloatOps.add_fi_1 (by simpa [okA] using ok) (show (fun v s' => _) _ _ from ⟨Ext.toks W _, [], .flt _ _ _ (lo_ne hc W) (Nat.lt_succ_self _) (fun _ => W.lot), .nil, nofun, nofun⟩)
    | f b q' =>
      refine ev_bin h1 h2 fun s v1 v2 as1 as2 E W _ r1 r2 => ?_
      obtain ⟨u, rfl, _⟩ := reads_flt r1
      obtain ⟨u', rfl, _⟩ := reads_flt r2
      exact AutoFloatOps.add_0 (show (fun v s' => _) _ _ from ⟨Ext.toks W _, [], .flt _ _ _ (lo_ne hc W) (Nat.lt_succ_self _) (fun _ => W.lot), .nil, nofun, nofun⟩)
theorem cmp_ltU : Cmp c n .Lt (encU a) (encU b) (nlt a b) := by
  cases a with
  | i x =>
    cases b with
    | i y => exact cmp_lt
    | f b q =>
      intro A s v1 v2 as1 as2 E Q W R r1 r2 h
      cases r1 with | int _ t =>
      obtain ⟨u, rfl, _⟩ := reads_flt r2
      exact lt_if h
  | f a q =>
    cases b with
    | i y =>
      intro A s v1 v2 as1 as2 E Q W R r1 r2 h
      cases r2 with | int _ t =>
      obtain ⟨u, rfl, _⟩ := reads_flt r1
      exact lt_fi h
    | f b q' =>
      intro A s v1 v2 as1 as2 E Q W R r1 r2 h
      obtain ⟨u, rfl, _⟩ := reads_flt r1
      obtain ⟨u', rfl, _⟩ := reads_flt r2
      exact AutoFloatOps.lt_0 h
theorem cmp_eqU : Cmp c n .Eq (encU a) (encU b) (neq a b) := by
  cases a with
  | i x =>
    cases b with
    | i y => exact cmp_eq
    | f b q =>
      intro A s v1 v2 as1 as2 E Q W R r1 r2 h
      cases r1 with | int _ t =>
      obtain ⟨u, rfl, _⟩ := reads_flt r2
      exact eq_if h
  | f a q =>
    cases b with
    | i y =>
      intro A s v1 v2 as1 as2 E Q W R r1 r2 h
      cases r2 with | int _ t =>
      obtain ⟨u, rfl, _⟩ := reads_flt r1
      exact eq_fi h
    | f b q' =>
      intro A s v1 v2 as1 as2 E Q W R r1 r2 h
      obtain ⟨u, rfl, _⟩ := reads_flt r1
      obtain ⟨u', rfl, _⟩ := reads_flt r2
      exact AutoFloatOps.eq_0 h
theorem cmp_neF {a b : UInt64} {q q' : Bool} : Cmp c n .NotEq (fltD a q) (fltD b q') (Float64.cmp a b != some Ordering.eq) := by
  intro A s v1 v2 as1 as2 E Q W R r1 r2 h
  obtain ⟨u, rfl, _⟩ := reads_flt r1
  obtain ⟨u', rfl, _⟩ := reads_flt r2
  exact AutoFloatOps.ne_0 h
theorem ev_fconst (z : Bool) {b : UInt64} {m : Nat} (hc : 1 ≤ c.lo) : Ev c f ρ (.Constant (.float b) m pos) (fltD b z) .fr := fun mo val fp s E S =>
  AutoFloatOps.wpAny_Constant_float ⟨Ext.toks S.wf _, [], .flt _ _ _ (lo_ne hc S.wf) (Nat.lt_succ_self _) (fun _ => S.wf.lot), frNil⟩
theorem vc_floatI (z : Bool) {x : Int} (hc : 1 ≤ c.lo) (hx : x.natAbs < 2 ^ 1023) : VC c n (.type "float") [.int x] (fltD (Float64.ofInt x) z) := fun A s vals ass E R W r => by
  cases r with | cons r1 r2 =>
  cases r2
  cases r1 with | int _ t =>
  exact call_float_int_fits hx ⟨Ext.toks W _, [], .flt _ _ _ (lo_ne hc W) (Nat.lt_succ_self _) (fun _ => W.lot), .nil, nofun, nofun⟩
end
/-! float('-inf') -/
noncomputable def ninf : UInt64 := 0xFFF0000000000000
theorem meets_float_ninf (u : Tok) : Meets (Builtin.«float.__new__» ⟨[.type "float", .str (Str.ofString "-inf") u], []⟩) (Made.float ninf).spec :=
  Meets.of_wp fun prog w A R s hs => by
    obtain ⟨hp, g, d, tk, os⟩ := s
    have f1 := F.conv_sub_float
    have hT : (⟨hp, g, d, tk, os⟩ : Shared).TypeIs (.str (Str.ofString "-inf") u) "str" := rfl
    repeat (any_goals (first | assumption | wp_step))
    have e : Float64.parse? ((some (List.map Char.ofNat (if ((Str.ofString "-inf").cps.all fun x => decide (x < 128)) = true then (Str.ofString "-inf").cps.toList else Unicode.numberText (Str.ofString "-inf").cps.toList))).getD []) = some ninf := by decide +kernel
    rw [e]
    repeat (any_goals (first | assumption | wp_step))
    all_goals first | exact ⟨_, rfl, hs⟩ | skip
theorem vc_ninf {c : Cx} {n : Nat} (z : Bool) (hc : 1 ≤ c.lo) : VC c n (.type "float") [.str (Str.ofString "-inf")] (fltD ninf z) := fun A s vals ass E R W r => by
  cases r with | cons r1 r2 =>
  cases r2
  cases r1 with | str _ t =>
  exact call_float_1 (meets_float_ninf t) (show (Made.float ninf).post _ s from ⟨rfl, ⟨Ext.toks W _, [], .flt _ _ _ (lo_ne hc W) (Nat.lt_succ_self _) (fun _ => W.lot), .nil, nofun, nofun⟩⟩)
end Mine

set_option maxRecDepth 100000
namespace Mine
open PySem PySem.Spec PySem.Calls PyProof.Rows
/-! the mark of the context may be moved -/
mutual
theorem reads_lo {L L' T : Nat} {h : Heap} {v : Value} {d : PyData} {as : List Addr} (r : Reads L T h v d as) (hn : noNew d = true) : Reads L' T h v d as :=
  match r with
  | .none => .none
  | .bool b => .bool b
  | .int i t => .int i t
  | .str x t => .str x t
  | .list h1 h2 h3 h4 => .list h1 h2 h3 (readsAll_lo h4 (by simpa [noNew] using hn))
  | .tuple h1 h2 h3 h4 => .tuple h1 h2 h3 (readsAll_lo h4 (by simpa [noNew] using hn))
  | .flt b q t h1 h2 h3 => .flt b q t h1 h2 (fun e => by simp [noNew, e] at hn)
theorem readsAll_lo {L L' T : Nat} {h : Heap} {vs : List Value} {ds : List PyData} {as : List Addr} (r : ReadsAll L T h vs ds as) (hn : noNews ds = true) : ReadsAll L' T h vs ds as :=
  match r with
  | .nil => .nil
  | .cons h1 h2 => by
    simp only [noNews, Bool.and_eq_true] at hn
    exact .cons (reads_lo h1 hn.1) (readsAll_lo h2 hn.2)
end
mutual
theorem reads_le {L L' T : Nat} {h : Heap} {v : Value} {d : PyData} {as : List Addr} (r : Reads L T h v d as) (hl : L' ≤ L) : Reads L' T h v d as :=
  match r with
  | .none => .none
  | .bool b => .bool b
  | .int i t => .int i t
  | .str x t => .str x t
  | .list h1 h2 h3 h4 => .list h1 h2 h3 (readsAll_le h4 hl)
  | .tuple h1 h2 h3 h4 => .tuple h1 h2 h3 (readsAll_le h4 hl)
  | .flt b q t h1 h2 h3 => .flt b q t h1 h2 (fun e => Nat.le_trans hl (h3 e))
theorem readsAll_le {L L' T : Nat} {h : Heap} {vs : List Value} {ds : List PyData} {as : List Addr} (r : ReadsAll L T h vs ds as) (hl : L' ≤ L) : ReadsAll L' T h vs ds as :=
  match r with
  | .nil => .nil
  | .cons h1 h2 => .cons (reads_le h1 hl) (readsAll_le h2 hl)
end
noncomputable abbrev Cx.at (c : Cx) (L : Nat) : Cx := { c with lo := L }
noncomputable def noNewR (ρ : Rho) : Prop := ∀ (i : Nat) (sl : Slot), ρ[i]? = some (some sl) → noNew sl.d = true
noncomputable def noNewRb : Rho → Bool
  | [] => true
  | none :: r => noNewRb r
  | some sl :: r => noNew sl.d && noNewRb r
theorem noNewR_of : ∀ {ρ : Rho}, noNewRb ρ = true → noNewR ρ
  | [], _ => fun i sl e => by simp at e
  | none :: r, h => fun i sl e => by
    cases i with
    | zero => simp at e
    | succ i => exact noNewR_of (ρ := r) h i sl (by simpa using e)
  | some s :: r, h => fun i sl e => by
    simp only [noNewRb, Bool.and_eq_true] at h
    cases i with
    | zero => simp at e; subst e; exact h.1
    | succ i => exact noNewR_of (ρ := r) h.2 i sl (by simpa using e)
section
variable {c : Cx} {f : Fm} {ρ ρ' : Rho} {mo : Addr → Prop} {val : Nat → Value} {fp : Nat → List Addr} {s s' : Shared} {E : Value → Shared → Prop} {Q : Fl → Rho → Prop} {rest : List Stmt}
theorem Wf.at {L : Nat} (W : Wf c s) (h : L ≤ s.toks) : Wf (c.at L) s := ⟨W.base, W.tab, W.old, W.gens, W.os, h⟩
theorem Wf.back {L : Nat} (W : Wf (c.at L) s) (h : c.lo ≤ s.toks) : Wf c s := ⟨W.base, W.tab, W.old, W.gens, W.os, h⟩
theorem Ext.back {L : Nat} (x : Ext (c.at L) s s') (h : c.lo ≤ s.toks) : Ext c s s' := ⟨x.tk, x.up, x.wf.back (Nat.le_trans h x.tk)⟩
theorem St.at {L : Nat} (S : St c f ρ mo val fp s) (h : L ≤ s.toks) (hn : noNewR ρ) : St (c.at L) f ρ mo val fp s :=
  ⟨S.wf.at h, ⟨S.ok.kind, S.ok.glob, S.ok.bi, S.ok.room, S.ok.base⟩, S.keep, S.ns, S.cells, fun i sl e => let ⟨x, h1, h2, h3⟩ := S.var i sl e; ⟨x, h1, h2, reads_lo h3 (hn i sl e)⟩, S.own, S.shr, S.loc, S.apart, S.moNew, S.moPl, S.moL, S.fpL⟩
theorem St.back {L : Nat} (S : St (c.at L) f ρ mo val fp s) (hl : c.lo ≤ L) : St c f ρ mo val fp s :=
  ⟨S.wf.back (Nat.le_trans hl S.wf.lot), ⟨S.ok.kind, S.ok.glob, S.ok.bi, S.ok.room, S.ok.base⟩, S.keep, S.ns, S.cells, fun i sl e => let ⟨x, h1, h2, h3⟩ := S.var i sl e; ⟨x, h1, h2, reads_le h3 hl⟩, S.own, S.shr, S.loc, S.apart, S.moNew, S.moPl, S.moL, S.fpL⟩
theorem FmS.at {L : Nat} (F : FmS c f) : FmS (c.at L) f := ⟨F.kinds, F.nd, F.inj, F.pv, F.base⟩
theorem CxOk.at {L : Nat} (C : CxOk c) : CxOk (c.at L) := ⟨C.g, C.gX, C.b, C.bX, C.nolimit, C.sX, C.nodigits, C.builtins⟩
theorem Bi.at {L : Nat} {x : Str} {v : Value} (B : Bi c x v) : Bi (c.at L) x v := ⟨B.no, B.is, B.ne⟩
theorem Stands.at {L : Nat} {d : FnD} (H : Stands c d) : Stands (c.at L) d := let ⟨fa, o, pm, code, doc, h⟩ := H; ⟨fa, o, pm, code, doc, ⟨h.at_, h.obj, h.nX, h.data, h.crec, h.cX⟩⟩
theorem Post.back {L : Nat} {fl : Flow} (hl : c.lo ≤ L) (h : Post (c.at L) f mo s Q fl s') : Post c f mo s Q fl s' := by
  obtain ⟨fl', ρ', mo', val', fp', h1, h2, h3, h4⟩ := h
  refine ⟨fl', ρ', mo', val', fp', ?_, h2.back hl, ⟨h3.kp, h3.th, h3.mo⟩, h4⟩
  cases fl <;> cases fl' <;> first | exact h1 | skip
  obtain ⟨as, r, q⟩ := h1
  exact ⟨as, reads_le r hl, q⟩
/-- x = 7: behind it there are tokens -/
theorem s_asgSw {x : Str} {xp cp pos : Pos} {i m : Nat} {a : Int} (h0 : c.lo = 0) (FS : FmS c f) (hU : Upd f.xs ρ x (some ⟨.sh, .int a⟩) ρ' i) (hn : noNewRb ρ' = true) (hQ : Ex (c.at 1) f rest ρ' Q)
    (hs : ∀ env, swapsWith (.Constant (.int a) m cp) (some (.Name x xp)) pos.line env = pure false := by intro _; rfl) : Ex c f (.Assign [.Name x xp] (.Constant (.int a) m cp) pos :: rest) ρ Q := fun mo val fp s S => by
  obtain ⟨hx, hi, rfl⟩ := hU.get
  refine wpAny_execs_cons (wpAny_Assign_Name (wpAny_Constant_int ?_) (hs _))
  have x1 : Ext c s { s with toks := s.toks + 1 } := Ext.toks S.wf _
  have S1 := S.ext x1
  refine wpAny_with_toks (n := s.toks + 1) (Nat.le_refl _) ?_
  refine store_step (as := []) (sl := ⟨.sh, .int a⟩) FS S1 hx hi (.int _ _) nofun nofun fun s2 S2 hk2 th2 hle => ?_
  have hp : 1 ≤ s2.toks := Nat.le_trans (Nat.le_add_left 1 s.toks) hle
  refine wpAny_mono (hQ _ _ _ s2 (S2.at hp (noNewR_of hn))) (fun fl s3 hp3 => ?_) fun _ _ z => z
  have hb : Post c f _ s2 Q fl s3 := hp3.back (by omega)
  refine hb.later ⟨fun b o h1 h2 h3 e => hk2 b o h2 (x1.up.kp b o h1 e), fun b o e => let ⟨o', e'⟩ := x1.up.th b o e; th2 b o' e', fun b h => ?_⟩
  rcases h with h | ⟨h, hb⟩
  · exact .inl h
  · cases hb
end
/-! lists of numbers or None, compared -/
noncomputable def optU : Option Num → PyData
  | none => .none
  | some a => encU a
theorem optU_flat (x : Option Num) : flat (optU x) = true := by
  cases x with
  | none => rfl
  | some a => exact encU_flat a
noncomputable def eqE : Option Num → Option Num → Bool
  | none, none => true
  | some a, some b => neq a b
  | _, _ => false
noncomputable def okE : Option Num → Option Num → Bool
  | none, none => true
  | some (.i _), some (.i _) => true
  | some (.f a _), some (.f b q) => (a == b && Float64.cmp a b == some Ordering.eq) || (a != b && q)
  | _, _ => false
noncomputable def eqL (xs ys : List (Option Num)) : Bool := (List.range xs.length).all fun j => eqE (xs.getD j none) (ys.getD j none)
noncomputable def okL (xs ys : List (Option Num)) : Bool := xs.length == ys.length && (List.range xs.length).all fun j => okE (xs.getD j none) (ys.getD j none)
theorem isSame_flt {M : Model} {A : Around} {E : Value → Shared → Prop} {s : Shared} {a b : UInt64} {t u : Tok} {Q : Bool → Shared → Prop} (hb : NoneBooked s.heap) (ht : t ≠ 0) (hu : u ≠ 0) (hne : a ≠ b → t ≠ u)
    (hq : ∀ r, (r = true → a = b) → Q r s) : wpAny M A (isSame (.float a t) (.float b u)) Q E s := by
  show wpAny M A (isSame.created (a == b && !Float64.isNaN a) t u) Q E s
  unfold isSame.created
  refine wpAny_ite ?_
  split
  · rename_i h
    simp only [Bool.or_eq_true, beq_iff_eq] at h
    exact absurd h (fun q => q.elim ht hu)
  refine wpAny_ite ?_
  split
  · rename_i h
    refine wpAny_pure (hq _ fun _ => ?_)
    exact Classical.byContradiction fun q => hne q (by simpa using h)
  refine wpAny_ite ?_
  split
  · exact wpAny_pure (hq _ (by nofun))
  rename_i h
  have hab : a = b := by simp at h; exact h.1
  refine wpAny_bind (wpAny_sharingNotTold_none hb ?_)
  first | rw [if_neg Bool.false_ne_true] | simp only [Bool.false_eq_true, if_false]
  refine wpAny_bind (wpAny_sharingNotTold_none hb ?_)
  first | rw [if_neg Bool.false_ne_true] | simp only [Bool.false_eq_true, if_false]
  exact wpAny_bind (wpAny_rule (wpAny_bind (wpAny_askSetting (wpAny_pure (hq _ fun _ => hab)))))
theorem eqAt_flt {A : Around} {s : Shared} {a b : UInt64} {t u : Tok} (hb : NoneBooked s.heap) (ht : t ≠ 0) (hu : u ≠ 0) (he : a = b → Float64.cmp a b = some Ordering.eq) (hne : a ≠ b → t ≠ u) :
    SeqAt.EqAt A s (.float a t) (.float b u) (Float64.cmp a b == some Ordering.eq) := fun prog w E Q h => by
  unfold eqBool
  refine wpAny_holding ?_
  refine wpAny_ite_split (fun hab => ?_) (fun _ => ?_)
  · have e : a = b := by have := eq_of_beq hab; injection this
    rw [he e] at h
    exact wpAny_bind (wpAny_rule (wpAny_pure (by simpa using h)))
  · show wpAny _ _ (isSame (.float a t) (.float b u) >>= _) _ _ _
    refine wpAny_bind (isSame_flt hb ht hu hne fun r hr => ?_)
    cases r with
    | true =>
      rw [he (hr rfl)] at h
      exact wpAny_pure (by simpa using h)
    | false =>
      refine wpAny_bind ?_
      exact AutoFloatOps.eq_0 (wpAny_truthy_bool h)
section
variable {c : Cx} {f : Fm} {ρ : Rho} {l r : Expr} {k1 k2 : EK} {pos : Pos} {xs ys : List (Option Num)}
theorem NoneBooked.at_ {s : Shared} (C : CxOk c) (NB : NoneBooked c.hB) (W : Wf c s) : NoneBooked s.heap := let ⟨mc, h1, h2⟩ := NB; ⟨mc, Ns.base W h1 C.sX, h2⟩
theorem eqE_at {A : Around} {s : Shared} {L1 L2 T1 T2 : Nat} {h1 h2 : Heap} {v1 v2 : Value} {x y : Option Num} {as bs : List Addr} (hb : NoneBooked s.heap) (r1 : Reads L1 T1 h1 v1 (optU x) as) (r2 : Reads L2 T2 h2 v2 (optU y) bs) (hL : T1 ≤ L2) (ok : okE x y = true) :
    SeqAt.EqAt A s v1 v2 (eqE x y) := by
  cases x with
  | none =>
    cases y with
    | none => cases r1; cases r2; exact SeqAt.EqAt.same _
    | some y => cases ok
  | some x =>
    cases y with
    | none => cases x <;> cases ok
    | some y =>
      cases x with
      | i x =>
        cases y with
        | i y => cases r1; cases r2; exact SeqAt.EqAt.int_int _ _ _ _
        | f b q => cases ok
      | f a q =>
        cases y with
        | i y => cases ok
        | f b q' =>
          obtain ⟨t, rfl, _, ht, htT, _⟩ := reads_flt r1
          obtain ⟨u, rfl, _, hu, _, huL⟩ := reads_flt r2
          simp only [okE, Bool.or_eq_true, Bool.and_eq_true, beq_iff_eq, bne_iff_ne] at ok
          refine eqAt_flt hb ht hu (fun e => ?_) (fun e => ?_)
          · rcases ok with h | h
            · exact h.2
            · exact absurd e h.1
          · rcases ok with h | h
            · exact absurd h.1 e
            · have := huL h.2
              exact fun q => Nat.lt_irrefl t (Nat.lt_of_lt_of_le htT (Nat.le_trans hL (q ▸ this)))
theorem ev_eqL (C : CxOk c) (NB : NoneBooked c.hB) (h1 : Ev c f ρ l (.list (xs.map optU)) k1) (h2 : ∀ L, c.lo ≤ L → Ev (c.at L) f ρ r (.list (ys.map optU)) k2) (hn : noNewRb ρ = true) (ok : okL xs ys = true)
    (hm : behindInMarks .Eq r = false := by with_unfolding_all rfl) : Ev c f ρ (.Compare l [.Eq] [r] pos) (.bool (eqL xs ys)) .fr := by
  intro mo val fp s E S
  refine wpAny_Compare1 (h1.bind S fun v1 s1 as1 x1 S1 r1 ko1 => (h2 s1.toks S1.wf.lot).bind (S1.at (Nat.le_refl _) (noNewR_of hn)) fun v2 s2 as2 x2 S2 r2 ko2 => ?_) hm
  cases r1 with | list g1 g2 g3 g4 =>
  rename_i a o vs m bs
  cases r2 with | list q1 q2 q3 q4 =>
  rename_i a' o' ws m' bs'
  simp only [okL, Bool.and_eq_true, beq_iff_eq] at ok
  have l1 : vs.size = xs.length := by simpa using readsAll_length g4
  have l2 : ws.size = ys.length := by simpa using readsAll_length q4
  have ho2 := listOrDict_ext (S1.at (L := s1.toks) (Nat.le_refl _) (noNewR_of hn)).wf x2 g1 (.inl ⟨g2, _, _, g3⟩)
  have hb : NoneBooked s2.heap := NoneBooked.at_ C NB (x2.wf.back (Nat.le_trans S1.wf.lot x2.tk))
  refine SeqAt.eq_listAt (e := fun j => eqE (xs.getD j none) (ys.getD j none)) ⟨_, ho2, g2, _, g3⟩ ⟨_, q1, q2, _, q3⟩ (by rw [l1, l2, ok.1]) (by have := S.ok.room.units; omega) (fun j hj1 hj2 => ?_) ?_
  · have d1 : (xs.map optU)[j]? = some (optU (xs.getD j none)) := by rw [List.getElem?_map, List.getD_eq_getElem?_getD, List.getElem?_eq_getElem (by omega)]; rfl
    have d2 : (ys.map optU)[j]? = some (optU (ys.getD j none)) := by rw [List.getElem?_map, List.getD_eq_getElem?_getD, List.getElem?_eq_getElem (by omega)]; rfl
    obtain ⟨w1, c1, e1, e2, _⟩ := readsAll_item g4 d1
    obtain ⟨w2, c2, e3, e4, _⟩ := readsAll_item q4 d2
    have f1 : vs[j] = w1 := by have : vs.toList[j]? = some vs[j] := by simp [hj1]
                               rw [e1] at this; exact (Option.some.inj this).symm
    have f2 : ws[j] = w2 := by have : ws.toList[j]? = some ws[j] := by simp [hj2]
                               rw [e3] at this; exact (Option.some.inj this).symm
    rw [f1, f2]
    have hok := List.all_eq_true.mp ok.2 j (by rw [List.mem_range]; omega)
    exact eqE_at hb e2 e4 (Nat.le_refl _) hok
  · rw [l1]
    exact ⟨x1.trans (x2.back S1.wf.lot), [], .bool _, frNil⟩
theorem ev_eqLN (h1 : Ev c f ρ l (.list (xs.map optU)) k1) (h2 : Ev c f ρ r .none k2) (hm : behindInMarks .Eq r = false := by with_unfolding_all rfl) : Ev c f ρ (.Compare l [.Eq] [r] pos) (.bool false) .fr := by
  intro mo val fp s E S
  refine wpAny_Compare1 (h1.bind S fun v1 s1 as1 x1 S1 r1 _ => h2.bind S1 fun v2 s2 as2 x2 S2 r2 _ => ?_) hm
  have r1 := x2.reads S1.wf r1
  cases r1 with | list g1 g2 g3 g4 =>
  cases r2
  exact SeqAt.RcAt.list_none ⟨_, g1, g2, _, g3⟩ (by have := S.ok.room.units; omega) _ _ _ _ ⟨x1.trans x2, [], .bool _, frNil⟩
end
end Mine

set_option maxRecDepth 100000
namespace Mine
open PySem PySem.Spec PySem.Calls PyProof.Rows

local macro_rules | `(tactic| walk_at "m:at") => `(tactic| (with_reducible repeat' (first | exact At.here | apply At.there)))
local macro_rules | `(tactic| walk_at "m:enter") => `(tactic| (intro f hsc hxs hlv FS; obtain ⟨⟨scope, locals, globals, cells, qual, func, code, frame, builtins⟩, A, h₀, xs, lv⟩ := f; (simp only at hsc hxs hlv); subst hsc hxs hlv))
local macro_rules | `(tactic| walk_at "m:up") => `(tactic| (with_reducible repeat' (first | exact Upd.here | apply Upd.there | exact Nm.here | apply Nm.there)))

noncomputable abbrev EN := Nat × Nat × Num
noncomputable abbrev encEN (e : EN) : PyData := .tuple [.int e.1, .int e.2.1, encU e.2.2]
noncomputable abbrev DN := Nat → Option Num
noncomputable abbrev TN := Nat → Nat → Option Num
theorem isNone_encU (a : Num) : isNone (encU a) = false := by cases a <;> rfl
theorem flat_EN (e : EN) : flat (encEN e) = true := by simp [flat, flats, encU_flat]
/-! bellman_ford over numbers -/
noncomputable def mkU (n : Nat) (D : DN) : List PyData := (List.range n).map fun v => optU (D v)
theorem mkU_at {n v : Nat} {D : DN} (h : v < n) : (mkU n D)[v]? = some (optU (D v)) := rangeMap_at h
theorem mkU_len {n : Nat} {D : DN} : (mkU n D).length = n := by simp [mkU]
theorem mkU_set {n v : Nat} {D : DN} {x : Num} : (mkU n D).set v (encU x) = mkU n (updF D v (some x)) := by
  rw [mkU, rangeMap_set, mkU]
  refine List.map_congr_left fun i _ => ?_
  unfold updF; split <;> rfl
noncomputable def relU (p : DN × Bool) (e : EN) : Option (DN × Bool) := match p.1 e.1 with
  | none => some p
  | some a => if okA a e.2.2 = true then (match p.1 e.2.1 with
      | none => some (updF p.1 e.2.1 (some (nadd false a e.2.2)), true)
      | some b => if nlt (nadd false a e.2.2) b = true then some (updF p.1 e.2.1 (some (nadd false a e.2.2)), true) else some p) else none
noncomputable def bfU (es : List EN) : Nat → DN → Option (Option DN)
  | 0, _ => some none
  | r + 1, D => match es.foldlM relU (D, false) with
    | none => none
    | some p => if p.2 = true then bfU es r p.1 else some (some p.1)
noncomputable def D0U (s : Nat) : DN := fun v => if v = s then some (.i 0) else none
noncomputable def gotU (n : Nat) : Option DN → PyData
  | none => .none
  | some D => .list (mkU n D)
noncomputable def bel41 : FnD := fnAt PySem.Challenge.pw_k21_0041 6
noncomputable abbrev R41b (n : Nat) (es : List EN) (s : Nat) (D : DN) (o ch e far : Option Slot) : Rho := [some ⟨.sh, .int n⟩, some ⟨.sh, .list (es.map encEN)⟩, some ⟨.sh, .int s⟩, some ⟨.ow, .list (mkU n D)⟩, o, ch, e, far]
theorem bel41_fn {c : Cx} (hc : 1 ≤ c.lo) (C : CxOk c) (Brange : Bi c "range" (.type "range")) {n s : Nat} (hn : n ≤ 5) (hs : s < n) {es : List EN} (hl : es.length ≤ 7) (hes : ∀ e ∈ es, e.1 < n ∧ e.2.1 < n) {R : Option DN} (hR : bfU es n (D0U s) = some R) :
    Fn c 1 bel41 [.int n, .list (es.map encEN), .int s] (gotU n R) true := by
  refine fn_go ["n", "edges", "source"] ["dist", "_", "changed", "e", "far"] ["n", "edges", "source", "dist", "_", "changed", "e", "far"] C ?_ rfl (by decide +kernel) (by decide +kernel) rfl rfl rfl [some ⟨.sh, .int n⟩, some ⟨.sh, .list (es.map encEN)⟩, some ⟨.sh, .int s⟩, none, none, none, none, none] ?_
  · intro pm cd doc vals hv
    match vals, hv with | [a, b, c], _ => rfl
  walk_at "m:enter"
  rename_i FS
  have hsz : ∀ D, (mkU n D).length ≤ sizeLine := fun D => by rw [mkU_len]; simp [sizeLine]; omega
  refine s_comp (cells := []) (p := fun _ => true) (g := fun (u : Nat) => PyData.none) .lo FS HasCells.nil [] [] [] []
    (it_n (it_range1 C Brange rfl (ev_name_w (by walk_at "m:at")) (by omega) (by omega))) (.flat encN_flat (by decide)) (by simp [sizeLine]; omega) (fun C1 H1 el hel => ifs_nil) (fun C1 H1 u hu _ => Ev.ofFlat ev_none rfl) (by walk_at "m:up") ?_
  rw [filter_tt]
  refine s_set (j := (s : Int)) (d0 := .none) FS (by walk_at "m:at") ev_int (ev_name_w (by walk_at "m:at")) rfl (by omega) (by omega) (rangeMap_at (by simpa using hs)) rfl (by walk_at "m:up") ?_
  have e0 : ((List.range (n : Int).toNat).map fun (u : Nat) => PyData.none).set (s : Int).toNat (.int 0) = mkU n (D0U s) := by
    rw [Int.toNat_natCast, Int.toNat_natCast, rangeMap_set, mkU]
    refine List.map_congr_left fun v _ => ?_
    unfold D0U; split <;> rfl
  rw [e0]
  refine s_forN FS (by walk_at "m:up") (it_range1 C Brange rfl (ev_name_w (by walk_at "m:at")) (by omega) (by omega))
    (fun j ρ => ∃ D o1 o2 o3 o4, bfU es (n - j) D = some R ∧ ρ = R41b n es s D o1 o2 o3 o4) ⟨D0U s, none, none, none, none, hR, rfl⟩ ?_ ?_
  · rintro j ρ' hj ⟨D, o1, o2, o3, o4, hbf, rfl⟩
    have hj : j < n := by simpa using hj
    rw [show n - j = (n - (j + 1)) + 1 by omega, bfU] at hbf
    cases hz : es.foldlM relU (D, false) with
    | none => rw [hz] at hbf; cases hbf
    | some z =>
    rw [hz] at hbf
    have hbf : (if z.2 = true then bfU es (n - (j + 1)) z.1 else some (some z.1)) = some R := hbf
    refine ⟨_, by walk_at "m:up", ?_⟩
    refine s_asg (sk := .lo) FS ev_bool (.flat rfl) (by walk_at "m:up") ?_
    refine s_forT (sk := .sh) FS (by walk_at "m:up") (it_list (ev_name_sh (by walk_at "m:at"))) .sh
      (fun i ρ => ∃ p o3 o4, (es.drop i).foldlM relU p = some z ∧ ρ = R41b n es s p.1 (some ⟨.lo, .int j⟩) (some ⟨.lo, .bool p.2⟩) o3 o4) ⟨(D, false), _, _, hz, rfl⟩ ?_ ?_
    · rintro i e ρ' hi ⟨p, o3, o4, hp, rfl⟩
      refine ⟨_, by walk_at "m:up", ?_⟩
      obtain ⟨h1, h2⟩ := hes e (List.mem_of_getElem? hi)
      have hil := (List.getElem?_eq_some_iff.mp hi).1
      have hdr : es.drop i = e :: es.drop (i + 1) := by rw [List.drop_eq_getElem_cons hil, (List.getElem?_eq_some_iff.mp hi).2]
      rw [hdr, List.foldlM_cons] at hp
      cases hr : relU p e with
      | none => rw [hr] at hp; cases hp
      | some p' =>
      rw [hr] at hp
      have hp : (es.drop (i + 1)).foldlM relU p' = some z := hp
      obtain ⟨P, ch⟩ := p
      cases hA : P e.1 with
      | none =>
        have hr' : relU (P, ch) e = some (P, ch) := by unfold relU; simp only [hA]
        rw [hr'] at hr; cases hr
        have gA : (mkU n P)[e.1]? = some .none := by rw [mkU_at h1, hA]; rfl
        exact s_when (tst_cmp (ev_at (i := e.1) (ev_name_w (by walk_at "m:at")) (ev_t0 (ev_name_w (by walk_at "m:at")) ev_int rfl) gA (hsz _)) ev_none cmp_isnot_none) (fun h => by cases h) (fun _ => s_end ⟨(P, ch), _, _, hp, rfl⟩)
      | some a =>
        have gA : (mkU n P)[e.1]? = some (encU a) := by rw [mkU_at h1, hA]; rfl
        have hok : okA a e.2.2 = true := Classical.byContradiction fun q => by
          have : relU (P, ch) e = none := by unfold relU; simp only [hA, if_neg q]
          rw [this] at hr; cases hr
        refine s_when (tst_cmp (ev_at (i := e.1) (ev_name_w (by walk_at "m:at")) (ev_t0 (ev_name_w (by walk_at "m:at")) ev_int rfl) gA (hsz _)) ev_none cmp_isnot_none) (fun _ => ?_) (fun h => by rw [isNone_encU] at h; cases h)
        refine s_asg (sk := .lo) FS (ev_addU false hc (ev_at (i := e.1) (ev_name_w (by walk_at "m:at")) (ev_t0 (ev_name_w (by walk_at "m:at")) ev_int rfl) gA (hsz _)) (ev_t2 (ev_name_w (by walk_at "m:at")) ev_int (encU_flat _)) hok) (.flat (encU_flat _)) (by walk_at "m:up") ?_
        cases hB : P e.2.1 with
        | none =>
          have gB : (mkU n P)[e.2.1]? = some .none := by rw [mkU_at h2, hB]; rfl
          have hr' : relU (P, ch) e = some (updF P e.2.1 (some (nadd false a e.2.2)), true) := by unfold relU; simp only [hA, hB, if_pos hok]
          rw [hr'] at hr; cases hr
          refine s_when (tst_or (q := false) (tst_cmp (ev_at (i := e.2.1) (ev_name_w (by walk_at "m:at")) (ev_t1 (ev_name_w (by walk_at "m:at")) ev_int rfl) gB (hsz _)) ev_none cmp_is_none) (fun h => by cases h)) (fun _ => ?_) (fun h => by cases h)
          refine s_set (j := (e.2.1 : Int)) FS (by walk_at "m:at") (ev_name_w (by walk_at "m:at")) (ev_t1 (ev_name_w (by walk_at "m:at")) ev_int rfl) (encU_flat _) (by omega) (by omega) gB rfl (by walk_at "m:up") ?_
          exact s_asg (sk := .lo) FS ev_bool (.flat rfl) (by walk_at "m:up") (s_end (s_end (s_end ⟨_, _, _, hp, by unfold R41b; rw [← mkU_set]; rfl⟩)))
        | some b =>
          have gB : (mkU n P)[e.2.1]? = some (encU b) := by rw [mkU_at h2, hB]; rfl
          refine s_when (tst_or (tst_cmp (ev_at (i := e.2.1) (ev_name_w (by walk_at "m:at")) (ev_t1 (ev_name_w (by walk_at "m:at")) ev_int rfl) gB (hsz _)) ev_none cmp_is_none) (fun h => tst_cmp (ev_name_w (by walk_at "m:at")) (ev_at (i := e.2.1) (ev_name_w (by walk_at "m:at")) (ev_t1 (ev_name_w (by walk_at "m:at")) ev_int rfl) gB (hsz _)) cmp_ltU)) (fun h => ?_) (fun h => ?_)
          · have hlt : nlt (nadd false a e.2.2) b = true := by rw [isNone_encU, Bool.false_or] at h; exact h
            have hr' : relU (P, ch) e = some (updF P e.2.1 (some (nadd false a e.2.2)), true) := by unfold relU; simp only [hA, hB, if_pos hok, if_pos hlt]
            rw [hr'] at hr; cases hr
            refine s_set (j := (e.2.1 : Int)) FS (by walk_at "m:at") (ev_name_w (by walk_at "m:at")) (ev_t1 (ev_name_w (by walk_at "m:at")) ev_int rfl) (encU_flat _) (by omega) (by omega) gB (encU_flat _) (by walk_at "m:up") ?_
            exact s_asg (sk := .lo) FS ev_bool (.flat rfl) (by walk_at "m:up") (s_end (s_end (s_end ⟨_, _, _, hp, by unfold R41b; rw [← mkU_set]; rfl⟩)))
          · have hlt : ¬ nlt (nadd false a e.2.2) b = true := by rw [isNone_encU, Bool.false_or] at h; rw [h]; simp
            have hr' : relU (P, ch) e = some (P, ch) := by unfold relU; simp only [hA, hB, if_pos hok, if_neg hlt]
            rw [hr'] at hr; cases hr
            exact s_end (s_end ⟨(P, ch), _, _, hp, rfl⟩)
    · rintro ρ' ⟨p, o3, o4, hp, rfl⟩
      rw [List.drop_length] at hp
      cases hp
      refine s_when (tst_not (tst_bool (ev_name_w (by walk_at "m:at")))) (fun h => ?_) (fun h => ?_)
      · have h' : ¬ z.2 = true := by simpa using h
        rw [if_neg h'] at hbf
        cases hbf
        exact s_retO (by walk_at "m:at") ⟨by rfl, fun _ => rfl⟩
      · have h' : z.2 = true := by simpa using h
        rw [if_pos h'] at hbf
        exact s_end ⟨_, _, _, _, _, hbf, rfl⟩
  · rintro ρ' ⟨D, o1, o2, o3, o4, hbf, rfl⟩
    refine s_ret (u := true) ev_none ⟨?_, fun _ => rfl⟩ (.inr (.inr (.inl rfl)))
    rw [Int.toNat_natCast, Nat.sub_self] at hbf
    cases hbf; rfl
/-! floyd_warshall over numbers -/
noncomputable abbrev gU (T : TN) : Nat → Nat → PyData := fun u v => optU (T u v)
theorem mkTU_set {n a b : Nat} {T : TN} {x : Num} (ha : a < n) : (mkT n (gU T)).set a (.list (((List.range n).map (gU T a)).set b (encU x))) = mkT n (gU (upd2 T a b x)) := by
  rw [mkT_set ha]
  refine mkT_congr fun u v _ _ => ?_
  unfold gU upd2
  split <;> rfl
noncomputable def stU (z : Bool) (T : TN) (k i j : Nat) : Option TN := match T i k, T k j with
  | some a, some b => if okA a b = true then (match T i j with
      | none => some (upd2 T i j (nadd z a b))
      | some x => if nlt (nadd z a b) x = true then some (upd2 T i j (nadd z a b)) else some T) else none
  | _, _ => some T
noncomputable def fjU (z : Bool) (k i : Nat) : Nat → TN → Option TN
  | 0, T => some T
  | j + 1, T => (fjU z k i j T).bind fun T => stU z T k i j
noncomputable def fiU (z : Bool) (n k : Nat) : Nat → TN → Option TN
  | 0, T => some T
  | i + 1, T => (fiU z n k i T).bind fun T => fjU z k i n T
noncomputable def fkU (z : Bool) (n : Nat) : Nat → TN → Option TN
  | 0, T => some T
  | k + 1, T => (fkU z n k T).bind fun T => fiU z n k n T
theorem pre_some {α : Type} {g : Nat → Option α} (h : ∀ j, g j = none → g (j + 1) = none) {m : Nat} {x : α} (hm : g m = some x) : ∀ j, j ≤ m → ∃ y, g j = some y := fun j hj => by
  cases q : g j with
  | some y => exact ⟨y, rfl⟩
  | none =>
    have : ∀ d, g (j + d) = none := fun d => by
      induction d with
      | zero => exact q
      | succ d ih => exact h _ ih
    have := this (m - j)
    rw [show j + (m - j) = m by omega, hm] at this
    cases this
noncomputable def inU (T : TN) (e : EN) : TN := match T e.1 e.2.1 with
  | none => upd2 T e.1 e.2.1 e.2.2
  | some x => if nlt e.2.2 x = true then upd2 T e.1 e.2.1 e.2.2 else T
noncomputable def dgU (m : Nat) : TN := fun u v => if u = v ∧ u < m then some (.i 0) else none
noncomputable def fw41 : FnD := fnAt PySem.Challenge.pw_k21_0041 7
noncomputable abbrev R41w (n : Nat) (es : List EN) (T : TN) (v e k i j th : Option Slot) : Rho := [some ⟨.sh, .int n⟩, some ⟨.sh, .list (es.map encEN)⟩, some ⟨.ow, .list (mkT n (gU T))⟩, v, e, k, i, j, th]
theorem fw41_fn {c : Cx} (z : Bool) (hc : 1 ≤ c.lo) (C : CxOk c) (Brange : Bi c "range" (.type "range")) {n : Nat} (hn : n ≤ 5) {es : List EN} (hl : es.length ≤ 7) (hes : ∀ e ∈ es, e.1 < n ∧ e.2.1 < n) {R : TN} (hR : fkU z n n (es.foldl inU (dgU n)) = some R) :
    Fn c 1 fw41 [.int n, .list (es.map encEN)] (.list (mkT n (gU R))) true := by
  refine fn_go ["n", "edges"] ["table", "v", "e", "k", "i", "j", "through"] ["n", "edges", "table", "v", "e", "k", "i", "j", "through"] C ?_ rfl (by decide +kernel) (by decide +kernel) rfl rfl rfl [some ⟨.sh, .int n⟩, some ⟨.sh, .list (es.map encEN)⟩, none, none, none, none, none, none, none] ?_
  · intro pm cd doc vals hv
    match vals, hv with | [a, b], _ => rfl
  walk_at "m:enter"
  rename_i FS
  have H0 := HasCells.ofs (ys := ["n"]) FS fw41.scope rfl ["n", "edges", "table", "v", "e", "k", "i", "j", "through"] rfl (by decide +kernel)
  have hszT : ∀ g, (mkT n g).length ≤ sizeLine := fun g => by rw [mkT_len]; simp [sizeLine]; omega
  have hszR : ∀ g : Nat → PyData, ((List.range n).map g).length ≤ sizeLine := fun g => by simp [sizeLine]; omega
  refine s_comp (p := fun _ => true) (g := fun u => PyData.list ((List.range n).map fun v => PyData.none)) .lo FS H0 [0] ["n"] [some ⟨.sh, .int n⟩] []
    (it_r (it_range1 C Brange rfl (ev_name_w (by walk_at "m:at")) (by omega) (by omega))) (.flat encR_flat (by decide)) (by simp [sizeLine]; omega) (fun C1 H1 el hel => ifs_nil) (fun C1 H1 u hu _ => ?_) (by walk_at "m:up") ?_
  · exact Ev.cast (ev_compX (p := fun _ => true) (g := fun v => PyData.none) .lo H1 [] [] [] []
      (it_r (it_range1 C Brange rfl (ev_name_w (by walk_at "m:at")) (by omega) (by omega))) (.flat encR_flat (by decide)) (by simp [sizeLine]; omega) (fun C2 H2 el hel => ifs_nil) (fun C2 H2 v hv _ => Ev.ofFlat ev_none rfl)) (by rw [filter_tt]; rfl)
  refine s_forN FS (by walk_at "m:up") (it_range1 C Brange rfl (ev_name_w (by walk_at "m:at")) (by omega) (by omega))
    (fun m ρ => ∃ o, ρ = R41w n es (dgU m) o none none none none none) ⟨none, ?_⟩ ?_ ?_
  · rw [filter_tt]
    have : (List.range (n : Int).toNat).map (fun (u : Nat) => PyData.list ((List.range n).map fun (v : Nat) => PyData.none)) = mkT n (gU (dgU 0)) := by
      rw [Int.toNat_natCast, mkT]
      refine List.map_congr_left fun u _ => ?_
      congr 1
      refine List.map_congr_left fun v _ => ?_
      unfold gU dgU; rw [if_neg (by omega)]; rfl
    unfold R41w
    rw [← this]
  · rintro m ρ' hm ⟨o, rfl⟩
    have hm : m < n := by simpa using hm
    refine ⟨_, by walk_at "m:up", ?_⟩
    refine s_set2 (j1 := (m : Int)) (j2 := (m : Int)) (cells := (List.range n).map (gU (dgU m) m)) FS (by walk_at "m:at") ev_int (ev_name_w (by walk_at "m:at")) (ev_name_w (by walk_at "m:at")) rfl (by omega) (by omega) (by rw [Int.toNat_natCast]; exact mkT_row hm) (flats_map (fun v => optU_flat _) _) (by omega) (by omega) (by simpa using hm) (by walk_at "m:up") (s_end ?_)
    have hX := mkTU_set (n := n) (a := m) (b := m) (T := dgU m) (x := .i 0) hm
    have hY : upd2 (dgU m) m m (.i 0) = dgU (m + 1) := by
      funext u v
      unfold upd2 dgU
      by_cases q : u = m ∧ v = m
      · rw [if_pos q, if_pos (by omega)]
      · rw [if_neg q]
        by_cases r : u = v ∧ u < m
        · rw [if_pos r, if_pos (by omega)]
        · rw [if_neg r, if_neg (by omega)]
    rw [hY] at hX
    exact ⟨_, by unfold R41w; rw [← hX, Int.toNat_natCast]; rfl⟩
  rintro ρ' ⟨o, rfl⟩
  rw [Int.toNat_natCast]
  refine s_forT (sk := .sh) FS (by walk_at "m:up") (it_list (ev_name_sh (by walk_at "m:at"))) .sh
      (fun j ρ => ∃ o1 o2, ρ = R41w n es ((es.take j).foldl inU (dgU n)) o1 o2 none none none none) ⟨_, _, rfl⟩ ?_ ?_
  · rintro j e ρ' hj ⟨o1, o2, rfl⟩
    refine ⟨_, by walk_at "m:up", ?_⟩
    obtain ⟨h1, h2⟩ := hes e (List.mem_of_getElem? hj)
    have e1 : (es.take (j + 1)).foldl inU (dgU n) = inU ((es.take j).foldl inU (dgU n)) e := by
      rw [List.take_add_one, hj, List.foldl_append]; rfl
    rw [e1]
    generalize (es.take j).foldl inU (dgU n) = T
    have setT : ∀ Q' : Fl → Rho → Prop, True := fun _ => trivial
    cases hA : T e.1 e.2.1 with
    | none =>
      have gA : ((List.range n).map (gU T e.1))[e.2.1]? = some .none := by rw [rangeMap_at h2]; unfold gU; rw [hA]; rfl
      have hi : inU T e = upd2 T e.1 e.2.1 e.2.2 := by unfold inU; rw [hA]
      rw [hi]
      refine s_when (tst_or (q := false) (tst_cmp (ev_at (i := e.2.1) (ev_at (i := e.1) (ev_name_w (by walk_at "m:at")) (ev_t0 (ev_name_w (by walk_at "m:at")) ev_int rfl) (mkT_row h1) (hszT _)) (ev_t1 (ev_name_w (by walk_at "m:at")) ev_int rfl) gA (hszR _)) ev_none cmp_is_none) (fun h => by cases h)) (fun _ => ?_) (fun h => by cases h)
      refine s_set2 (j1 := (e.1 : Int)) (j2 := (e.2.1 : Int)) (cells := (List.range n).map (gU T e.1)) FS (by walk_at "m:at") (ev_t2 (ev_name_w (by walk_at "m:at")) ev_int (encU_flat _)) (ev_t0 (ev_name_w (by walk_at "m:at")) ev_int rfl) (ev_t1 (ev_name_w (by walk_at "m:at")) ev_int rfl) (encU_flat _) (by omega) (by omega) (by rw [Int.toNat_natCast]; exact mkT_row h1) (flats_map (fun v => optU_flat _) _) (by omega) (by omega) (by simpa using h2) (by walk_at "m:up") (s_end (s_end ?_))
      exact ⟨_, _, by unfold R41w; rw [← mkTU_set h1, Int.toNat_natCast, Int.toNat_natCast]⟩
    | some x =>
      have gA : ((List.range n).map (gU T e.1))[e.2.1]? = some (encU x) := by rw [rangeMap_at h2]; unfold gU; rw [hA]; rfl
      refine s_when (tst_or (tst_cmp (ev_at (i := e.2.1) (ev_at (i := e.1) (ev_name_w (by walk_at "m:at")) (ev_t0 (ev_name_w (by walk_at "m:at")) ev_int rfl) (mkT_row h1) (hszT _)) (ev_t1 (ev_name_w (by walk_at "m:at")) ev_int rfl) gA (hszR _)) ev_none cmp_is_none)
        (fun h => tst_cmp (ev_t2 (ev_name_w (by walk_at "m:at")) ev_int (encU_flat _)) (ev_at (i := e.2.1) (ev_at (i := e.1) (ev_name_w (by walk_at "m:at")) (ev_t0 (ev_name_w (by walk_at "m:at")) ev_int rfl) (mkT_row h1) (hszT _)) (ev_t1 (ev_name_w (by walk_at "m:at")) ev_int rfl) gA (hszR _)) cmp_ltU)) (fun h => ?_) (fun h => ?_)
      · have hlt : nlt e.2.2 x = true := by rw [isNone_encU, Bool.false_or] at h; exact h
        have hi : inU T e = upd2 T e.1 e.2.1 e.2.2 := by unfold inU; rw [hA]; exact if_pos hlt
        rw [hi]
        refine s_set2 (j1 := (e.1 : Int)) (j2 := (e.2.1 : Int)) (cells := (List.range n).map (gU T e.1)) FS (by walk_at "m:at") (ev_t2 (ev_name_w (by walk_at "m:at")) ev_int (encU_flat _)) (ev_t0 (ev_name_w (by walk_at "m:at")) ev_int rfl) (ev_t1 (ev_name_w (by walk_at "m:at")) ev_int rfl) (encU_flat _) (by omega) (by omega) (by rw [Int.toNat_natCast]; exact mkT_row h1) (flats_map (fun v => optU_flat _) _) (by omega) (by omega) (by simpa using h2) (by walk_at "m:up") (s_end (s_end ?_))
        exact ⟨_, _, by unfold R41w; rw [← mkTU_set h1, Int.toNat_natCast, Int.toNat_natCast]⟩
      · have hlt : ¬ nlt e.2.2 x = true := by rw [isNone_encU, Bool.false_or] at h; rw [h]; simp
        have hi : inU T e = T := by unfold inU; rw [hA]; exact if_neg hlt
        rw [hi]
        exact s_end ⟨_, _, rfl⟩
  rintro ρ' ⟨o1, o2, rfl⟩
  rw [List.take_length]
  generalize es.foldl inU (dgU n) = T0 at hR ⊢
  have preK := pre_some (g := fun k => fkU z n k T0) (fun k hk => by show (fkU z n k T0).bind _ = none; rw [show fkU z n k T0 = none from hk]; rfl) hR
  refine s_forN FS (by walk_at "m:up") (it_range1 C Brange rfl (ev_name_w (by walk_at "m:at")) (by omega) (by omega))
    (fun k ρ => ∃ T o3 o4 o5 o6, fkU z n k T0 = some T ∧ ρ = R41w n es T o1 o2 o3 o4 o5 o6) ⟨T0, none, none, none, none, rfl, rfl⟩ ?_ ?_
  · rintro k ρ' hk ⟨T, o3, o4, o5, o6, hT, rfl⟩
    have hk : k < n := by simpa using hk
    obtain ⟨T1, hT1⟩ := preK (k + 1) (by omega)
    have hT1 : (fkU z n k T0).bind (fun T => fiU z n k n T) = some T1 := hT1
    rw [hT] at hT1
    have hT1 : fiU z n k n T = some T1 := hT1
    have goalK : fkU z n (k + 1) T0 = some T1 := by show (fkU z n k T0).bind (fun T => fiU z n k n T) = some T1; rw [hT]; exact hT1
    have preI := pre_some (g := fun i => fiU z n k i T) (fun i hi => by show (fiU z n k i T).bind _ = none; rw [show fiU z n k i T = none from hi]; rfl) hT1
    refine ⟨_, by walk_at "m:up", ?_⟩
    refine s_forN FS (by walk_at "m:up") (it_range1 C Brange rfl (ev_name_w (by walk_at "m:at")) (by omega) (by omega))
      (fun i ρ => ∃ Ti o4 o5 o6, fiU z n k i T = some Ti ∧ ρ = R41w n es Ti o1 o2 (some ⟨.lo, .int k⟩) o4 o5 o6) ⟨T, _, _, _, rfl, rfl⟩ ?_ ?_
    · rintro i ρ' hi ⟨Ti, o4, o5, o6, hTi, rfl⟩
      have hi : i < n := by simpa using hi
      obtain ⟨T2, hT2⟩ := preI (i + 1) (by omega)
      have hT2 : (fiU z n k i T).bind (fun T => fjU z k i n T) = some T2 := hT2
      rw [hTi] at hT2
      have hT2 : fjU z k i n Ti = some T2 := hT2
      have goalI : fiU z n k (i + 1) T = some T2 := by show (fiU z n k i T).bind (fun T => fjU z k i n T) = some T2; rw [hTi]; exact hT2
      have preJ := pre_some (g := fun j => fjU z k i j Ti) (fun j hj => by show (fjU z k i j Ti).bind _ = none; rw [show fjU z k i j Ti = none from hj]; rfl) hT2
      refine ⟨_, by walk_at "m:up", ?_⟩
      refine s_forN FS (by walk_at "m:up") (it_range1 C Brange rfl (ev_name_w (by walk_at "m:at")) (by omega) (by omega))
        (fun j ρ => ∃ Tj o5 o6, fjU z k i j Ti = some Tj ∧ ρ = R41w n es Tj o1 o2 (some ⟨.lo, .int k⟩) (some ⟨.lo, .int i⟩) o5 o6) ⟨Ti, _, _, rfl, rfl⟩ ?_ ?_
      · rintro j ρ' hj ⟨Tj, o5, o6, hTj, rfl⟩
        have hj : j < n := by simpa using hj
        obtain ⟨T3, hT3⟩ := preJ (j + 1) (by omega)
        have hT3' : fjU z k i (j + 1) Ti = some T3 := hT3
        have hT3 : (fjU z k i j Ti).bind (fun T => stU z T k i j) = some T3 := hT3
        rw [hTj] at hT3
        have hT3 : stU z Tj k i j = some T3 := hT3
        refine ⟨_, by walk_at "m:up", ?_⟩
        cases hA : Tj i k with
        | none =>
          have hs : stU z Tj k i j = some Tj := by unfold stU; simp only [hA]
          rw [hs] at hT3; cases hT3
          have gA : ((List.range n).map (gU Tj i))[k]? = some .none := by rw [rangeMap_at hk]; unfold gU; rw [hA]; rfl
          exact s_when (tst_and (q := false) (tst_cmp (ev_at (i := k) (ev_at (i := i) (ev_name_w (by walk_at "m:at")) (ev_name_w (by walk_at "m:at")) (mkT_row hi) (hszT _)) (ev_name_w (by walk_at "m:at")) gA (hszR _)) ev_none cmp_isnot_none) (fun h => by cases h)) (fun h => by cases h) (fun _ => s_end ⟨_, _, _, hT3', rfl⟩)
        | some a =>
          have gA : ((List.range n).map (gU Tj i))[k]? = some (encU a) := by rw [rangeMap_at hk]; unfold gU; rw [hA]; rfl
          cases hB : Tj k j with
          | none =>
            have hs : stU z Tj k i j = some Tj := by unfold stU; simp only [hA, hB]
            rw [hs] at hT3; cases hT3
            have gB : ((List.range n).map (gU Tj k))[j]? = some .none := by rw [rangeMap_at hj]; unfold gU; rw [hB]; rfl
            exact s_when (tst_and (q := false) (tst_cmp (ev_at (i := k) (ev_at (i := i) (ev_name_w (by walk_at "m:at")) (ev_name_w (by walk_at "m:at")) (mkT_row hi) (hszT _)) (ev_name_w (by walk_at "m:at")) gA (hszR _)) ev_none cmp_isnot_none) (fun h => tst_cmp (ev_at (i := j) (ev_at (i := k) (ev_name_w (by walk_at "m:at")) (ev_name_w (by walk_at "m:at")) (mkT_row hk) (hszT _)) (ev_name_w (by walk_at "m:at")) gB (hszR _)) ev_none cmp_isnot_none)) (fun h => by rw [isNone_encU] at h; cases h) (fun _ => s_end ⟨_, _, _, hT3', rfl⟩)
          | some b =>
            have gB : ((List.range n).map (gU Tj k))[j]? = some (encU b) := by rw [rangeMap_at hj]; unfold gU; rw [hB]; rfl
            have hok : okA a b = true := Classical.byContradiction fun q => by
              have : stU z Tj k i j = none := by unfold stU; simp only [hA, hB, if_neg q]
              rw [this] at hT3; cases hT3
            refine s_when (tst_and (tst_cmp (ev_at (i := k) (ev_at (i := i) (ev_name_w (by walk_at "m:at")) (ev_name_w (by walk_at "m:at")) (mkT_row hi) (hszT _)) (ev_name_w (by walk_at "m:at")) gA (hszR _)) ev_none cmp_isnot_none) (fun h => tst_cmp (ev_at (i := j) (ev_at (i := k) (ev_name_w (by walk_at "m:at")) (ev_name_w (by walk_at "m:at")) (mkT_row hk) (hszT _)) (ev_name_w (by walk_at "m:at")) gB (hszR _)) ev_none cmp_isnot_none)) (fun _ => ?_) (fun h => by rw [isNone_encU, isNone_encU] at h; cases h)
            refine s_asg (sk := .lo) FS (ev_addU z hc (ev_at (i := k) (ev_at (i := i) (ev_name_w (by walk_at "m:at")) (ev_name_w (by walk_at "m:at")) (mkT_row hi) (hszT _)) (ev_name_w (by walk_at "m:at")) gA (hszR _)) (ev_at (i := j) (ev_at (i := k) (ev_name_w (by walk_at "m:at")) (ev_name_w (by walk_at "m:at")) (mkT_row hk) (hszT _)) (ev_name_w (by walk_at "m:at")) gB (hszR _)) hok) (.flat (encU_flat _)) (by walk_at "m:up") ?_
            cases hC : Tj i j with
            | none =>
              have gC : ((List.range n).map (gU Tj i))[j]? = some .none := by rw [rangeMap_at hj]; unfold gU; rw [hC]; rfl
              have hs : stU z Tj k i j = some (upd2 Tj i j (nadd z a b)) := by unfold stU; simp only [hA, hB, hC, if_pos hok]
              rw [hs] at hT3; cases hT3
              refine s_when (tst_or (q := false) (tst_cmp (ev_at (i := j) (ev_at (i := i) (ev_name_w (by walk_at "m:at")) (ev_name_w (by walk_at "m:at")) (mkT_row hi) (hszT _)) (ev_name_w (by walk_at "m:at")) gC (hszR _)) ev_none cmp_is_none) (fun h => by cases h)) (fun _ => ?_) (fun h => by cases h)
              refine s_set2 (j1 := (i : Int)) (j2 := (j : Int)) (cells := (List.range n).map (gU Tj i)) FS (by walk_at "m:at") (ev_name_w (by walk_at "m:at")) (ev_name_w (by walk_at "m:at")) (ev_name_w (by walk_at "m:at")) (encU_flat _) (by omega) (by omega) (by rw [Int.toNat_natCast]; exact mkT_row hi) (flats_map (fun v => optU_flat _) _) (by omega) (by omega) (by simpa using hj) (by walk_at "m:up") (s_end (s_end (s_end ?_)))
              exact ⟨_, _, _, hT3', by unfold R41w; rw [← mkTU_set hi, Int.toNat_natCast, Int.toNat_natCast]⟩
            | some x =>
              have gC : ((List.range n).map (gU Tj i))[j]? = some (encU x) := by rw [rangeMap_at hj]; unfold gU; rw [hC]; rfl
              refine s_when (tst_or (tst_cmp (ev_at (i := j) (ev_at (i := i) (ev_name_w (by walk_at "m:at")) (ev_name_w (by walk_at "m:at")) (mkT_row hi) (hszT _)) (ev_name_w (by walk_at "m:at")) gC (hszR _)) ev_none cmp_is_none) (fun h => tst_cmp (ev_name_w (by walk_at "m:at")) (ev_at (i := j) (ev_at (i := i) (ev_name_w (by walk_at "m:at")) (ev_name_w (by walk_at "m:at")) (mkT_row hi) (hszT _)) (ev_name_w (by walk_at "m:at")) gC (hszR _)) cmp_ltU)) (fun h => ?_) (fun h => ?_)
              · have hlt : nlt (nadd z a b) x = true := by rw [isNone_encU, Bool.false_or] at h; exact h
                have hs : stU z Tj k i j = some (upd2 Tj i j (nadd z a b)) := by unfold stU; simp only [hA, hB, hC, if_pos hok, if_pos hlt]
                rw [hs] at hT3; cases hT3
                refine s_set2 (j1 := (i : Int)) (j2 := (j : Int)) (cells := (List.range n).map (gU Tj i)) FS (by walk_at "m:at") (ev_name_w (by walk_at "m:at")) (ev_name_w (by walk_at "m:at")) (ev_name_w (by walk_at "m:at")) (encU_flat _) (by omega) (by omega) (by rw [Int.toNat_natCast]; exact mkT_row hi) (flats_map (fun v => optU_flat _) _) (by omega) (by omega) (by simpa using hj) (by walk_at "m:up") (s_end (s_end (s_end ?_)))
                exact ⟨_, _, _, hT3', by unfold R41w; rw [← mkTU_set hi, Int.toNat_natCast, Int.toNat_natCast]⟩
              · have hlt : ¬ nlt (nadd z a b) x = true := by rw [isNone_encU, Bool.false_or] at h; rw [h]; simp
                have hs : stU z Tj k i j = some Tj := by unfold stU; simp only [hA, hB, hC, if_pos hok, if_neg hlt]
                rw [hs] at hT3; cases hT3
                exact s_end (s_end ⟨_, _, _, hT3', rfl⟩)
      · rintro ρ' ⟨Tj, o5, o6, hTj, rfl⟩
        rw [Int.toNat_natCast] at hTj
        rw [hT2] at hTj; cases hTj
        exact s_end ⟨_, _, _, _, goalI, rfl⟩
    · rintro ρ' ⟨Ti, o4, o5, o6, hTi, rfl⟩
      rw [Int.toNat_natCast] at hTi
      rw [hT1] at hTi; cases hTi
      exact s_end ⟨_, _, _, _, _, goalK, rfl⟩
  · rintro ρ' ⟨T, o3, o4, o5, o6, hT, rfl⟩
    rw [Int.toNat_natCast] at hT
    rw [hR] at hT; cases hT
    exact s_retO (by walk_at "m:at") ⟨rfl, fun _ => rfl⟩
end Mine

set_option maxRecDepth 100000
namespace Mine
open PySem PySem.Spec PySem.Calls PyProof.Rows

local macro_rules | `(tactic| walk_at "m:at") => `(tactic| (with_reducible repeat' (first | exact At.here | apply At.there)))
local macro_rules | `(tactic| walk_at "m:enter") => `(tactic| (intro f hsc hxs hlv FS; obtain ⟨⟨scope, locals, globals, cells, qual, func, code, frame, builtins⟩, A, h₀, xs, lv⟩ := f; (simp only at hsc hxs hlv); subst hsc hxs hlv))
local macro_rules | `(tactic| walk_at "m:up") => `(tactic| (with_reducible repeat' (first | exact Upd.here | apply Upd.there | exact Nm.here | apply Nm.there)))

/-! dijkstra over numbers, the heap never longer than one -/
noncomputable abbrev encWN (p : Nat × Num) : PyData := .tuple [.int p.1, encU p.2]
noncomputable abbrev encPN (p : Num × Nat) : PyData := .tuple [encU p.1, .int p.2]
theorem flat_WN (p : Nat × Num) : flat (encWN p) = true := by simp [flat, flats, encU_flat]
theorem flat_PN (p : Num × Nat) : flat (encPN p) = true := by simp [flat, flats, encU_flat]
theorem push0_fn {c : Cx} (C : CxOk c) (Blen : Bi c "len" (.builtin "len")) (Blist : Bi c "list" (.type "list")) {p : Num × Nat} :
    Fn c 2 pus41 [.list [], encPN p] (.list [encPN p]) true := by
  refine fn_go ["heap", "pair"] ["new", "i", "parent"] ["heap", "pair", "new", "i", "parent"] C ?_ rfl (by decide +kernel) (by decide +kernel) rfl rfl rfl [some ⟨.sh, .list []⟩, some ⟨.sh, encPN p⟩, none, none, none] ?_
  · intro pm cd doc vals hv
    match vals, hv with | [a, b], _ => rfl
  walk_at "m:enter"
  rename_i FS
  refine s_asg (sk := .ow) FS (ev_vcall1 (.inr ⟨_, rfl⟩) C Blist rfl (ev_name_w (by walk_at "m:at")) (vc_list rfl (Nat.zero_le _))) .fr (by walk_at "m:up") ?_
  refine s_append FS (by walk_at "m:at") (ev_name_w (by walk_at "m:at")) (.inr (flat_PN p)) (Nat.zero_le _) (by walk_at "m:up") ?_
  refine s_asg (sk := .lo) FS (Ev.cast (d' := .int 0) (ev_sub (ev_vcall1 (.inl ⟨_, rfl⟩) C Blen rfl (ev_name_w (by walk_at "m:at")) (vc_len (Nat.le_of_ble_eq_true rfl))) ev_int) rfl) (.flat rfl) (by walk_at "m:up") ?_
  refine s_while (n := 0) (fun m ρ => ρ = [some ⟨.sh, .list []⟩, some ⟨.sh, encPN p⟩, some ⟨.ow, .list ([] ++ [encPN p])⟩, some ⟨.lo, .int 0⟩, none]) rfl ?_
  rintro m ρ' rfl
  refine ⟨_, tst_and (q := false) (tst_cmp (ev_name_w (by walk_at "m:at")) ev_int cmp_gt) (fun h => absurd h (by decide)), fun h => absurd h (by decide), fun _ => ?_⟩
  exact s_retO (by walk_at "m:at") ⟨by rfl, fun _ => rfl⟩
theorem pop1_fn {c : Cx} (C : CxOk c) (Blen : Bi c "len" (.builtin "len")) {p : Num × Nat} :
    Fn c 2 pop41 [.list [encPN p]] (.tuple [encPN p, .list []]) true := by
  refine fn_go ["heap"] ["top", "last", "rest", "i", "child"] ["heap", "top", "last", "rest", "i", "child"] C ?_ rfl (by decide +kernel) (by decide +kernel) rfl rfl rfl [some ⟨.sh, .list [encPN p]⟩, none, none, none, none, none] ?_
  · intro pm cd doc vals hv
    match vals, hv with | [a], _ => rfl
  walk_at "m:enter"
  rename_i FS
  refine s_when (tst_cmp (ev_vcall1 (.inl ⟨_, rfl⟩) C Blen rfl (ev_name_w (by walk_at "m:at")) (vc_len (Nat.le_of_ble_eq_true rfl))) ev_int cmp_eq) (fun h => ?_) (fun _ => ?_)
  · cases h
  refine s_asg (sk := .lo) FS (ev_item (i := 0) (d := encPN p) (ev_name_w (by walk_at "m:at")) ev_int (by decide) (by decide) rfl) (.flat (flat_PN p)) (by walk_at "m:up") ?_
  refine s_asg (sk := .lo) FS (ev_at (i := 0) (d := encPN p) (ev_name_w (by walk_at "m:at")) (Ev.cast (ev_sub (ev_vcall1 (.inl ⟨_, rfl⟩) C Blen rfl (ev_name_w (by walk_at "m:at")) (vc_len (Nat.le_of_ble_eq_true rfl))) ev_int) rfl) rfl (Nat.le_of_ble_eq_true rfl)) (.flat (flat_PN p)) (by walk_at "m:up") ?_
  refine s_asg (sk := .ow) FS (ev_slice (ys := []) (ev_name_w (by walk_at "m:at")) .none (.some (Ev.cast (d' := .int ((0 : Nat) : Int)) (ev_sub (ev_vcall1 (.inl ⟨_, rfl⟩) C Blen rfl (ev_name_w (by walk_at "m:at")) (vc_len (Nat.le_of_ble_eq_true rfl))) ev_int) rfl)) (by simp [flats, flat_PN]) (Nat.le_of_ble_eq_true rfl) (by rw [pick_upto]; rfl)) .fr (by walk_at "m:up") ?_
  refine s_when (tst_cmp (ev_vcall1 (.inl ⟨_, rfl⟩) C Blen rfl (ev_name_w (by walk_at "m:at")) (vc_len (by decide))) ev_int cmp_eq) (fun _ => ?_) (fun h => absurd h (by decide))
  exact s_retFO (by walk_at "m:at") (flat_PN p) (by walk_at "m:at") ⟨by rfl, fun _ => rfl⟩
noncomputable def nrN (es : List EN) (u : Nat) : List (Nat × Num) := (es.filter fun e => e.1 == u).map (·.2)
theorem nrN_snoc (es : List EN) (e : EN) (u : Nat) : nrN (es ++ [e]) u = if u = e.1 then nrN es u ++ [e.2] else nrN es u := by
  unfold nrN
  rw [List.filter_append, List.map_append, List.filter_cons]
  by_cases h : u = e.1
  · rw [if_pos h, if_pos (by simp [h])]; rfl
  · rw [if_neg h, if_neg (by simp; exact fun q => h q.symm)]; simp
noncomputable def mkNN (n : Nat) (es : List EN) : List PyData := (List.range n).map fun u => .list ((nrN es u).map encWN)
theorem mkNN_at {n u : Nat} {es : List EN} (h : u < n) : (mkNN n es)[u]? = some (.list ((nrN es u).map encWN)) := rangeMap_at h
theorem mkNN_len {n : Nat} {es : List EN} : (mkNN n es).length = n := by simp [mkNN]
theorem nrN_len (es : List EN) (u : Nat) : (nrN es u).length ≤ es.length := by unfold nrN; rw [List.length_map]; exact List.length_filter_le ..
theorem neiN_fn {c : Cx} (C : CxOk c) (Brange : Bi c "range" (.type "range")) {n : Nat} (hn : n ≤ 5) {es : List EN} (hl : es.length ≤ 20) (hes : ∀ e ∈ es, e.1 < n ∧ e.2.1 < n) :
    Fn c 1 nei41 [.int n, .list (es.map encEN)] (.list (mkNN n es)) true := by
  refine fn_go ["n", "edges"] ["out", "e"] ["n", "edges", "out", "e"] C ?_ rfl (by decide +kernel) (by decide +kernel) rfl rfl rfl [some ⟨.sh, .int n⟩, some ⟨.sh, .list (es.map encEN)⟩, none, none] ?_
  · intro pm cd doc vals hv
    match vals, hv with | [a, b], _ => rfl
  walk_at "m:enter"
  rename_i FS
  refine s_comp (p := fun _ => true) (g := fun u => PyData.list []) .lo FS HasCells.nil [] [] [] []
    (it_r (it_range1 C Brange rfl (ev_name_w (by walk_at "m:at")) (by omega) (by omega))) (.flat encR_flat (by decide)) (by simp [sizeLine]; omega) (fun C1 H1 el hel => ifs_nil) (fun C1 H1 u hu _ => ev_list (k := .fr) evl_nil) (by walk_at "m:up") ?_
  refine s_forT (sk := .sh) FS (by walk_at "m:up") (it_list (ev_name_sh (by walk_at "m:at"))) .sh
      (fun j ρ => ∃ o, ρ = [some ⟨.sh, .int n⟩, some ⟨.sh, .list (es.map encEN)⟩, some ⟨.ow, .list (mkNN n (es.take j))⟩, o]) ⟨none, ?_⟩ ?_ ?_
  · rw [filter_tt]; rfl
  · rintro j e ρ' hj ⟨o, rfl⟩
    refine ⟨_, by walk_at "m:up", ?_⟩
    obtain ⟨h1, h2⟩ := hes e (List.mem_of_getElem? hj)
    refine s_append2 (j1 := (e.1 : Int)) (d := encWN e.2) FS (by walk_at "m:at") (ev_t0 (ev_name_w (by walk_at "m:at")) ev_int rfl) (ev_tuple (evl_w (ev_t1 (ev_name_w (by walk_at "m:at")) ev_int rfl) (evl_w (ev_t2 (ev_name_w (by walk_at "m:at")) ev_int (encU_flat _)) evl_nilU)) (Nat.le_of_ble_eq_true rfl)) (flat_WN _) (by omega) (by omega) (mkNN_at h1) (flats_map (fun p => flat_WN p) _) (by have := nrN_len (es.take j) e.1; rw [List.length_take] at this; simp [sizeLine]; omega) (by walk_at "m:up") (s_end ?_)
    have : mkNN n (es.take (j + 1)) = (mkNN n (es.take j)).set (e.1 : Int).toNat (.list ((nrN (es.take j) e.1).map encWN ++ [encWN e.2])) := by
      rw [Int.toNat_natCast, mkNN, mkNN, rangeMap_set]
      refine List.map_congr_left fun u _ => ?_
      rw [List.take_add_one, hj, Option.toList_some, nrN_snoc]
      by_cases q : u = e.1
      · rw [if_pos q, if_pos q, q, List.map_append]; rfl
      · rw [if_neg q, if_neg q]
    exact ⟨_, by rw [this]; rfl⟩
  · rintro ρ' ⟨o, rfl⟩
    exact s_retO (by walk_at "m:at") ⟨by rw [List.take_length], fun _ => rfl⟩
/-- dist, prev, the one pair that waits -/
noncomputable abbrev StN := DN × (Nat → Option Nat) × Option (Num × Nat)
noncomputable def hpN : Option (Num × Nat) → List PyData
  | none => []
  | some p => [encPN p]
noncomputable def imN (D : DN) (v : Nat) (far : Num) : Bool := match D v with | none => true | some x => nlt far x
noncomputable def rlN (u : Nat) (d : Num) (st : StN) (p : Nat × Num) : Option StN :=
  if okA d p.2 = true then (if imN st.1 p.1 (nadd false d p.2) = true then (match st.2.2 with
    | none => some (updF st.1 p.1 (some (nadd false d p.2)), updF st.2.1 p.1 (some u), some (nadd false d p.2, p.1))
    | some _ => none) else some st) else none
noncomputable def runN (es : List EN) : Nat → StN → Option StN
  | 0, st => match st.2.2 with | none => some st | some _ => none
  | m + 1, st => match st.2.2 with
    | none => some st
    | some (d, u) => match st.1 u with
      | none => none
      | some x => if neq d x = true then ((nrN es u).foldlM (rlN u d) (st.1, st.2.1, none)).bind (runN es m) else runN es m (st.1, st.2.1, none)
noncomputable abbrev st0N (s : Nat) : StN := (updF (fun _ => none) s (some (.i 0)), fun _ => none, some (.i 0, s))
noncomputable abbrev RdN (n : Nat) (es : List EN) (s : Nat) (st : StN) (top d u pair v far : Option Slot) : Rho := [some ⟨.sh, .int n⟩, some ⟨.sh, .list (es.map encEN)⟩, some ⟨.sh, .int s⟩, some ⟨.lo, .list (mkNN n es)⟩, some ⟨.ow, .list (mkU n st.1)⟩, some ⟨.ow, .list (mkQ n st.2.1)⟩, some ⟨.lo, .list (hpN st.2.2)⟩, top, d, u, pair, v, far]
noncomputable abbrev RdL (n : Nat) (es : List EN) (s : Nat) (D : DN) (P : Nat → Option Nat) (L : List PyData) (top d u pair v far : Option Slot) : Rho := [some ⟨.sh, .int n⟩, some ⟨.sh, .list (es.map encEN)⟩, some ⟨.sh, .int s⟩, some ⟨.lo, .list (mkNN n es)⟩, some ⟨.ow, .list (mkU n D)⟩, some ⟨.ow, .list (mkQ n P)⟩, some ⟨.lo, .list L⟩, top, d, u, pair, v, far]
theorem dijN_fn {c : Cx} (hc : 1 ≤ c.lo) (C : CxOk c) (Blen : Bi c "len" (.builtin "len")) (Brange : Bi c "range" (.type "range")) (Blist : Bi c "list" (.type "list")) (stPus : Stands c pus41) (stPop : Stands c pop41) (stNei : Stands c nei41)
    {n s : Nat} (hn : n ≤ 5) (hs : s < n) {es : List EN} (hl : es.length ≤ 7) (hes : ∀ e ∈ es, e.1 < n ∧ e.2.1 < n) {m : Nat} {R : StN} (hR : runN es m (st0N s) = some R) :
    Fn c 3 dij41 [.int n, .list (es.map encEN), .int s] (.tuple [.list (mkU n R.1), .list (mkQ n R.2.1)]) true := by
  refine fn_go ["n", "edges", "source"] ["near", "dist", "prev", "heap", "top", "d", "u", "pair", "v", "far"] X41d C ?_ rfl (by decide +kernel) (by decide +kernel) rfl rfl rfl [some ⟨.sh, .int n⟩, some ⟨.sh, .list (es.map encEN)⟩, some ⟨.sh, .int s⟩, none, none, none, none, none, none, none, none, none, none] ?_
  · intro pm cd doc vals hv
    match vals, hv with | [a, b, c], _ => rfl
  walk_at "m:enter"
  rename_i FS
  have hszD : ∀ D, (mkU n D).length ≤ sizeLine := fun D => by rw [mkU_len]; simp [sizeLine]; omega
  have hszQ : ∀ D, (mkQ n D).length ≤ sizeLine := fun D => by rw [mkQ_len]; simp [sizeLine]; omega
  have hszN : (mkNN n es).length ≤ sizeLine := by rw [mkNN_len]; simp [sizeLine]; omega
  refine s_asg (sk := .lo) FS (ev_call C stNei rfl (evl_w (ev_name_w (by walk_at "m:at")) (evl_w (ev_name_w (by walk_at "m:at")) evl_nilU)) (neiN_fn C Brange hn (by omega) hes) (Nat.le_of_ble_eq_true rfl)) .frlo (by walk_at "m:up") ?_
  refine s_comp (p := fun _ => true) (g := fun (u : Nat) => PyData.none) .lo FS HasCells.nil [] [] [] []
    (it_n (it_range1 C Brange rfl (ev_name_w (by walk_at "m:at")) (by omega) (by omega))) (.flat encN_flat (by decide)) (by simp [sizeLine]; omega) (fun C1 H1 el hel => ifs_nil) (fun C1 H1 u hu _ => ev_none) (by walk_at "m:up") ?_
  rw [filter_tt, Int.toNat_natCast, show (List.range n).map (fun (u : Nat) => PyData.none) = mkU n (fun _ => none) from rfl]
  refine s_comp (p := fun _ => true) (g := fun (u : Nat) => PyData.none) .lo FS HasCells.nil [] [] [] []
    (it_n (it_range1 C Brange rfl (ev_name_w (by walk_at "m:at")) (by omega) (by omega))) (.flat encN_flat (by decide)) (by simp [sizeLine]; omega) (fun C1 H1 el hel => ifs_nil) (fun C1 H1 u hu _ => ev_none) (by walk_at "m:up") ?_
  rw [filter_tt, Int.toNat_natCast, show (List.range n).map (fun (u : Nat) => PyData.none) = mkQ n (fun _ => none) from rfl]
  refine s_set (j := (s : Int)) FS (by walk_at "m:at") ev_int (ev_name_w (by walk_at "m:at")) rfl (by omega) (by omega) (mkU_at hs) rfl (by walk_at "m:up") ?_
  rw [Int.toNat_natCast, show (mkU n fun _ => none).set s (.int 0) = mkU n (updF (fun _ => none) s (some (.i 0))) from mkU_set (x := .i 0)]
  refine s_asg (sk := .lo) FS (Ev.cast (d' := .list (hpN (some (.i 0, s)))) (ev_list (k := .fr) (evl_fr (Ev.ofFlat (ev_tuple (evl_w ev_int (evl_w (ev_name_w (by walk_at "m:at")) evl_nilU)) (Nat.le_of_ble_eq_true rfl)) rfl) evl_nil) (Nat.le_of_ble_eq_true rfl)) rfl) .frlo (by walk_at "m:up") ?_
  refine s_while (n := m + 1) (fun k ρ => ∃ m st o1 o2 o3 o4 o5 o6, k = m + 1 ∧ runN es m st = some R ∧ (∀ p, st.2.2 = some p → p.2 < n) ∧ ρ = RdN n es s st o1 o2 o3 o4 o5 o6)
    ⟨m, st0N s, none, none, none, none, none, none, rfl, hR, fun p hp => by cases hp; exact hs, rfl⟩ ?_
  rintro k ρ' ⟨m, ⟨D, P, H⟩, o1, o2, o3, o4, o5, o6, rfl, hrun, hlt, rfl⟩
  cases H with
  | none =>
    have hD : (D, P, (none : Option (Num × Nat))) = R := by
      cases m with
      | zero => exact Option.some.inj hrun
      | succ m => exact Option.some.inj hrun
    subst hD
    rw [show RdN n es s (D, P, none) o1 o2 o3 o4 o5 o6 = RdL n es s D P [] o1 o2 o3 o4 o5 o6 from rfl]
    refine ⟨_, tst_cmp (ev_vcall1 (.inl ⟨_, rfl⟩) C Blen rfl (ev_name_w (by walk_at "m:at")) (vc_len (by decide))) ev_int cmp_gt, fun h => absurd h (by decide), fun _ => ?_⟩
    exact s_retOO (by walk_at "m:at") (by walk_at "m:at") (by decide) ⟨by rfl, fun _ => rfl⟩
  | some x =>
    obtain ⟨d, u⟩ := x
    have hu : u < n := hlt _ rfl
    rw [show RdN n es s (D, P, some (d, u)) o1 o2 o3 o4 o5 o6 = RdL n es s D P [encPN (d, u)] o1 o2 o3 o4 o5 o6 from rfl]
    refine ⟨_, tst_cmp (ev_vcall1 (.inl ⟨_, rfl⟩) C Blen rfl (ev_name_w (by walk_at "m:at")) (vc_len (by show 1 < 2 ^ 63; decide))) ev_int cmp_gt, fun _ => ?_, fun h => ?_⟩
    rotate_left
    · exact absurd (show decide ((0 : Int) < 1) = false from h) (by decide)
    cases m with
    | zero => cases hrun
    | succ m =>
    refine s_unp2 FS (ev_call C stPop rfl (evl_w (ev_name_w (by walk_at "m:at")) evl_nilU) (pop1_fn C Blen (p := (d, u))) (Nat.le_of_ble_eq_true rfl)) (sk1 := .lo) (.flat (flat_PN _) (by decide)) .fr (by walk_at "m:up") (by walk_at "m:up") ?_
    refine s_unp2 FS (ev_name_w (by walk_at "m:at")) (sk1 := .lo) (sk2 := .lo) (.flat (encU_flat _) (by decide)) (.flat rfl (by decide)) (by walk_at "m:up") (by walk_at "m:up") ?_
    rw [runN] at hrun
    cases hDu : D u with
    | none => simp only [hDu] at hrun; cases hrun
    | some x =>
    simp only [hDu] at hrun
    have gD : (mkU n D)[u]? = some (encU x) := by rw [mkU_at hu, hDu]; rfl
    refine s_when (tst_cmp (ev_name_w (by walk_at "m:at")) (ev_at (i := u) (ev_name_w (by walk_at "m:at")) (ev_name_w (by walk_at "m:at")) gD (hszD _)) cmp_eqU) (fun h => ?_) (fun h => ?_)
    · rw [if_pos h] at hrun
      cases hz : (nrN es u).foldlM (rlN u d) (D, P, none) with
      | none => rw [hz] at hrun; cases hrun
      | some z =>
      rw [hz] at hrun
      have hrun : runN es m z = some R := hrun
      refine s_forT (sk := .lo) FS (by walk_at "m:up") (it_list (ev_at (i := u) (ev_name_lo (by walk_at "m:at")) (ev_name_w (by walk_at "m:at")) (mkNN_at hu) hszN)) .lo
        (fun j ρ => ∃ r o1 o2 o3, ((nrN es u).drop j).foldlM (rlN u d) r = some z ∧ (∀ p, r.2.2 = some p → p.2 < n) ∧ ρ = RdN n es s r (some ⟨.lo, encPN (d, u)⟩) (some ⟨.lo, encU d⟩) (some ⟨.lo, .int u⟩) o1 o2 o3) ⟨(D, P, none), _, _, _, hz, fun p hp => (by cases hp), rfl⟩ ?_ ?_
      · rintro j p ρ' hj ⟨⟨D', P', H'⟩, o1, o2, o3, hr, hlt', rfl⟩
        have hjl := (List.getElem?_eq_some_iff.mp hj).1
        have hdr : (nrN es u).drop j = p :: (nrN es u).drop (j + 1) := by rw [List.drop_eq_getElem_cons hjl, (List.getElem?_eq_some_iff.mp hj).2]
        rw [hdr, List.foldlM_cons] at hr
        cases hq : rlN u d (D', P', H') p with
        | none => rw [hq] at hr; cases hr
        | some r' =>
        rw [hq] at hr
        have hr : ((nrN es u).drop (j + 1)).foldlM (rlN u d) r' = some z := hr
        have hp1 : p.1 < n := by
          have hm := List.mem_of_getElem? hj
          unfold nrN at hm
          obtain ⟨e, he, rfl⟩ := List.mem_map.mp hm
          exact (hes e (List.mem_filter.mp he).1).2
        have hok : okA d p.2 = true := Classical.byContradiction fun q => by
          unfold rlN at hq; rw [if_neg q] at hq; cases hq
        unfold rlN at hq
        rw [if_pos hok] at hq
        refine ⟨_, by walk_at "m:up", ?_⟩
        refine s_asg (sk := .lo) FS (ev_t0 (ev_name_w (by walk_at "m:at")) ev_int rfl) (.flat rfl) (by walk_at "m:up") ?_
        refine s_asg (sk := .lo) FS (ev_addU false hc (ev_name_w (by walk_at "m:at")) (ev_t1 (ev_name_w (by walk_at "m:at")) ev_int (encU_flat _)) hok) (.flat (encU_flat _)) (by walk_at "m:up") ?_
        refine s_when (q := imN D' p.1 (nadd false d p.2)) ?_ (fun h => ?_) (fun h => ?_)
        · cases hD1 : D' p.1 with
          | none =>
            have gD' : (mkU n D')[p.1]? = some .none := by rw [mkU_at hp1, hD1]; rfl
            have e1 : imN D' p.1 (nadd false d p.2) = (isNone .none || false) := by unfold imN; rw [hD1]; rfl
            rw [e1]
            exact tst_or (tst_cmp (ev_at (i := p.1) (ev_name_w (by walk_at "m:at")) (ev_name_w (by walk_at "m:at")) gD' (hszD _)) ev_none cmp_is_none) fun hno => by cases hno
          | some x' =>
            have gD' : (mkU n D')[p.1]? = some (encU x') := by rw [mkU_at hp1, hD1]; rfl
            have e1 : imN D' p.1 (nadd false d p.2) = (isNone (encU x') || nlt (nadd false d p.2) x') := by unfold imN; rw [hD1, isNone_encU]; rfl
            rw [e1]
            exact tst_or (tst_cmp (ev_at (i := p.1) (ev_name_w (by walk_at "m:at")) (ev_name_w (by walk_at "m:at")) gD' (hszD _)) ev_none cmp_is_none) fun hno => tst_cmp (ev_name_w (by walk_at "m:at")) (ev_at (i := p.1) (ev_name_w (by walk_at "m:at")) (ev_name_w (by walk_at "m:at")) gD' (hszD _)) cmp_ltU
        · rw [if_pos h] at hq
          cases H' with
          | some _ => cases hq
          | none =>
          cases hq
          refine s_set (j := (p.1 : Int)) FS (by walk_at "m:at") (ev_name_w (by walk_at "m:at")) (ev_name_w (by walk_at "m:at")) (encU_flat _) (by omega) (by omega) (mkU_at hp1) (optU_flat _) (by walk_at "m:up") ?_
          refine s_set (j := (p.1 : Int)) FS (by walk_at "m:at") (ev_name_w (by walk_at "m:at")) (ev_name_w (by walk_at "m:at")) rfl (by omega) (by omega) (mkQ_at hp1) (optQ_flat _) (by walk_at "m:up") ?_
          rw [Int.toNat_natCast, mkU_set, mkQ_set]
          refine s_asg (sk := .lo) FS (ev_call C stPus rfl (evl_w (Ev.cast (d' := .list []) (ev_name_w (by walk_at "m:at")) (by rfl)) (evl_w (Ev.cast (d' := encPN (nadd false d p.2, p.1)) (ev_tuple (evl_w (ev_name_w (by walk_at "m:at")) (evl_w (ev_name_w (by walk_at "m:at")) evl_nilU)) (Nat.le_of_ble_eq_true rfl)) rfl) evl_nilU)) (push0_fn C Blen Blist) (Nat.le_of_ble_eq_true rfl)) .frlo (by walk_at "m:up") (s_end (s_end ?_))
          exact ⟨_, _, _, _, hr, fun p' hp' => (by cases hp'; exact hp1), rfl⟩
        · rw [if_neg (by rw [h]; simp)] at hq
          cases hq
          exact s_end ⟨(D', P', H'), _, _, _, hr, hlt', rfl⟩
      · rintro ρ' ⟨r, o1, o2, o3, hr, hlt', rfl⟩
        rw [List.drop_length] at hr
        cases hr
        exact s_end (s_end ⟨m + 1, by omega, m, z, _, _, _, _, _, _, rfl, hrun, hlt', rfl⟩)
    · rw [if_neg (by rw [h]; simp)] at hrun
      exact s_end ⟨m + 1, by omega, m, (D, P, none), _, _, _, _, _, _, rfl, hrun, fun p hp => (by cases hp), rfl⟩
end Mine

set_option maxRecDepth 100000
namespace Mine
open PySem PySem.Spec PySem.Calls PyProof.Rows

local macro_rules | `(tactic| walk_at "m:at") => `(tactic| (with_reducible repeat' (first | exact At.here | apply At.there)))
local macro_rules | `(tactic| walk_at "m:enter") => `(tactic| (intro f hsc hxs hlv FS; obtain ⟨⟨scope, locals, globals, cells, qual, func, code, frame, builtins⟩, A, h₀, xs, lv⟩ := f; (simp only at hsc hxs hlv); subst hsc hxs hlv))
local macro_rules | `(tactic| walk_at "m:up") => `(tactic| (with_reducible repeat' (first | exact Upd.here | apply Upd.there | exact Nm.here | apply Nm.there)))

/-! ints among the numbers -/
noncomputable def emb (D : Di) : DN := fun v => (D v).map Num.i
noncomputable def embE (e : Nat × Nat × Int) : EN := (e.1, e.2.1, .i e.2.2)
noncomputable def emb2 (T : TI) : TN := fun u v => (T u v).map Num.i
theorem emb_some {D : Di} {v : Nat} {a : Int} (h : D v = some a) : emb D v = some (.i a) := by unfold emb; rw [h]; rfl
theorem emb_none {D : Di} {v : Nat} (h : D v = none) : emb D v = none := by unfold emb; rw [h]; rfl
theorem emb2_some {T : TI} {u v : Nat} {a : Int} (h : T u v = some a) : emb2 T u v = some (.i a) := by unfold emb2; rw [h]; rfl
theorem emb2_none {T : TI} {u v : Nat} (h : T u v = none) : emb2 T u v = none := by unfold emb2; rw [h]; rfl
theorem emb_upd {D : Di} {v : Nat} {x : Int} : updF (emb D) v (some (.i x)) = emb (updD D v x) := by
  funext u; unfold updF emb updD; split <;> rfl
theorem emb2_upd {T : TI} {i j : Nat} {x : Int} : upd2 (emb2 T) i j (.i x) = emb2 (upd2 T i j x) := by
  funext u v
  show (if u = i ∧ v = j then some (Num.i x) else (T u v).map Num.i) = (if u = i ∧ v = j then some x else T u v).map Num.i
  split <;> rfl
theorem relU_emb (D : Di) (b : Bool) (e : Nat × Nat × Int) : relU (emb D, b) (embE e) = some (emb (rel (D, b) e).1, (rel (D, b) e).2) := by
  cases hA : D e.1 with
  | none =>
    have h1 : relU (emb D, b) (embE e) = some (emb D, b) := by unfold relU; simp only [embE, emb_none hA]
    have h2 : rel (D, b) e = (D, b) := by unfold rel better; simp only [hA]
    rw [h1, h2]
  | some a =>
    cases hB : D e.2.1 with
    | none =>
      have h1 : relU (emb D, b) (embE e) = some (updF (emb D) e.2.1 (some (.i (a + e.2.2))), true) := by unfold relU; simp only [embE, emb_some hA, emb_none hB, okA, nadd, if_true]
      have h2 : rel (D, b) e = (updD D e.2.1 (a + e.2.2), true) := by unfold rel better; simp only [hA, hB]
      rw [h1, h2, emb_upd]
    | some x =>
      by_cases hlt : a + e.2.2 < x
      · have h1 : relU (emb D, b) (embE e) = some (updF (emb D) e.2.1 (some (.i (a + e.2.2))), true) := by unfold relU; simp only [embE, emb_some hA, emb_some hB, okA, nadd, nlt, if_true, decide_eq_true hlt]
        have h2 : rel (D, b) e = (updD D e.2.1 (a + e.2.2), true) := by unfold rel better; simp only [hA, hB, if_pos hlt]
        rw [h1, h2, emb_upd]
      · have h1 : relU (emb D, b) (embE e) = some (emb D, b) := by unfold relU; simp only [embE, emb_some hA, emb_some hB, okA, nadd, nlt, if_true, decide_eq_false hlt, Bool.false_eq_true, if_false]
        have h2 : rel (D, b) e = (D, b) := by unfold rel better; simp only [hA, hB, if_neg hlt]
        rw [h1, h2]
theorem fold_emb : ∀ (es : Es) (D : Di) (b : Bool), (es.map embE).foldlM relU (emb D, b) = some (emb (es.foldl rel (D, b)).1, (es.foldl rel (D, b)).2)
  | [], D, b => rfl
  | e :: es, D, b => by
    rw [List.map_cons, List.foldlM_cons, relU_emb]
    show (es.map embE).foldlM relU (emb (rel (D, b) e).1, (rel (D, b) e).2) = _
    rw [fold_emb es (rel (D, b) e).1 (rel (D, b) e).2]; rfl
theorem bf_emb (es : Es) : ∀ (r : Nat) (D : Di), bfU (es.map embE) r (emb D) = some ((bfR es r D).map emb)
  | 0, D => rfl
  | r + 1, D => by
    have h : bfU (es.map embE) (r + 1) (emb D) = (if (rnd es D).2 = true then bfU (es.map embE) r (emb (rnd es D).1) else some (some (emb (rnd es D).1))) := by
      rw [bfU, fold_emb es D false]; rfl
    rw [h, bfR]
    by_cases q : (rnd es D).2 = true
    · rw [if_pos q, if_pos q]; exact bf_emb es r _
    · rw [if_neg q, if_neg q]; rfl
theorem D0_emb (s : Nat) : D0U s = emb (D0 s) := by funext v; unfold D0U emb D0; split <;> rfl
theorem stU_emb (z : Bool) (T : TI) (k i j : Nat) : stU z (emb2 T) k i j = some (emb2 (stI T k i j)) := by
  cases hA : T i k with
  | none =>
    have h1 : stU z (emb2 T) k i j = some (emb2 T) := by unfold stU; simp only [emb2_none hA]
    have h2 : stI T k i j = T := by unfold stI; simp only [hA]
    rw [h1, h2]
  | some a =>
    cases hB : T k j with
    | none =>
      have h1 : stU z (emb2 T) k i j = some (emb2 T) := by unfold stU; simp only [emb2_some hA, emb2_none hB]
      have h2 : stI T k i j = T := by unfold stI; simp only [hA, hB]
      rw [h1, h2]
    | some b =>
      cases hC : T i j with
      | none =>
        have h1 : stU z (emb2 T) k i j = some (upd2 (emb2 T) i j (.i (a + b))) := by unfold stU; simp only [emb2_some hA, emb2_some hB, emb2_none hC, okA, nadd, if_true]
        have h2 : stI T k i j = upd2 T i j (a + b) := by unfold stI; simp only [hA, hB, hC]
        rw [h1, h2, emb2_upd]
      | some x =>
        by_cases hlt : a + b < x
        · have h1 : stU z (emb2 T) k i j = some (upd2 (emb2 T) i j (.i (a + b))) := by unfold stU; simp only [emb2_some hA, emb2_some hB, emb2_some hC, okA, nadd, nlt, if_true, decide_eq_true hlt]
          have h2 : stI T k i j = upd2 T i j (a + b) := by unfold stI; simp only [hA, hB, hC, if_pos hlt]
          rw [h1, h2, emb2_upd]
        · have h1 : stU z (emb2 T) k i j = some (emb2 T) := by unfold stU; simp only [emb2_some hA, emb2_some hB, emb2_some hC, okA, nadd, nlt, if_true, decide_eq_false hlt, Bool.false_eq_true, if_false]
          have h2 : stI T k i j = T := by unfold stI; simp only [hA, hB, hC, if_neg hlt]
          rw [h1, h2]
theorem fj_emb (z : Bool) (k i : Nat) (T : TI) : ∀ j, fjU z k i j (emb2 T) = some (emb2 (fjI k i j T))
  | 0 => rfl
  | j + 1 => by show (fjU z k i j (emb2 T)).bind _ = _; rw [fj_emb z k i T j]; exact stU_emb z _ k i j
theorem fi_emb (z : Bool) (n k : Nat) (T : TI) : ∀ i, fiU z n k i (emb2 T) = some (emb2 (fiI n k i T))
  | 0 => rfl
  | i + 1 => by show (fiU z n k i (emb2 T)).bind _ = _; rw [fi_emb z n k T i]; exact fj_emb z k i _ n
theorem fk_emb (z : Bool) (n : Nat) (T : TI) : ∀ k, fkU z n k (emb2 T) = some (emb2 (fkI n k T))
  | 0 => rfl
  | k + 1 => by show (fkU z n k (emb2 T)).bind _ = _; rw [fk_emb z n T k]; exact fi_emb z n k _ n
theorem inU_emb (T : TI) (e : Nat × Nat × Int) : inU (emb2 T) (embE e) = emb2 (inE T e) := by
  cases hA : T e.1 e.2.1 with
  | none =>
    have h1 : inU (emb2 T) (embE e) = upd2 (emb2 T) e.1 e.2.1 (.i e.2.2) := by unfold inU; simp only [embE, emb2_none hA]
    rw [h1, inE_n hA, emb2_upd]
  | some x =>
    rw [inE_s hA]
    by_cases hlt : e.2.2 < x
    · have h1 : inU (emb2 T) (embE e) = upd2 (emb2 T) e.1 e.2.1 (.i e.2.2) := by unfold inU; simp only [embE, emb2_some hA, nlt, decide_eq_true hlt, if_true]
      rw [h1, if_pos hlt, emb2_upd]
    · have h1 : inU (emb2 T) (embE e) = emb2 T := by unfold inU; simp only [embE, emb2_some hA, nlt, decide_eq_false hlt, Bool.false_eq_true, if_false]
      rw [h1, if_neg hlt]
theorem inF_emb : ∀ (es : Es) (T : TI), (es.map embE).foldl inU (emb2 T) = emb2 (es.foldl inE T)
  | [], T => rfl
  | e :: es, T => by rw [List.map_cons, List.foldl_cons, inU_emb, inF_emb es, List.foldl_cons]
theorem dg_emb (n : Nat) : dgU n = emb2 (dgI n) := by funext u v; unfold dgU emb2 dgI; split <;> rfl
theorem encEN_emb (es : Es) : (es.map embE).map encEN = es.map encE := by rw [List.map_map]; rfl
theorem optU_emb (x : Option Int) : optU (x.map Num.i) = optD x := by cases x <;> rfl
theorem mkU_emb (n : Nat) (D : Di) : mkU n (emb D) = mkD n D := List.map_congr_left fun v _ => optU_emb _
/-! three roads -/
noncomputable def thr41 : FnD := fnAt PySem.Challenge.pw_k21_0041 8
theorem Sm.mkD {m n : Nat} {D : Di} : Sm (m + 1) (.list (Mine.mkD n D)) := Sm.map fun _ => Sm.optD
theorem thrI_fn {c : Cx} (hc : 1 ≤ c.lo) (C : CxOk c) (Blen : Bi c "len" (.builtin "len")) (Brange : Bi c "range" (.type "range")) (Blist : Bi c "list" (.type "list")) (stBef : Stands c bef41) (stPus : Stands c pus41) (stPop : Stands c pop41) (stNei : Stands c nei41) (stDij : Stands c dij41) (stBel : Stands c bel41) (stFw : Stands c fw41)
    {n s : Nat} (hn : n ≤ 5) (hs : s < n) {es : List Ed} (hl : es.length ≤ 7) (hes : ∀ e ∈ es, e.1 < n ∧ e.2.1 < n) (hwn : ∀ e ∈ es, 0 ≤ e.2.2) :
    Fn c 5 thr41 [.int n, .list ((es.map embE).map encEN), .int s] (.bool true) true := by
  rw [encEN_emb]
  have hd := dij41_fn C Blen Brange Blist stBef stPus stPop stNei hn hs hl hes hwn
  obtain ⟨I, hnil⟩ := dRun_ok (n := n) (s := s) hwn hes (F041 n s es) (st041 s) (DI.init hs) (Nat.le_refl _)
  rw [hnil] at I
  generalize (dRun es (F041 n s es) (st041 s)).2.1 = P at I hd
  generalize (dRun es (F041 n s es) (st041 s)).1 = D at I hd
  obtain ⟨⟨D', hbf, hD'⟩, hfw⟩ := three hs hes hwn I
  have hD : D' = D := funext hD'
  subst hD
  have hes' : ∀ e ∈ es.map embE, e.1 < n ∧ e.2.1 < n := fun e he => by obtain ⟨x, hx, rfl⟩ := List.mem_map.mp he; exact hes x hx
  have hb : Fn c 1 bel41 [.int n, .list (es.map encE), .int s] (.list (mkD n D')) true := by
    have := bel41_fn (es := es.map embE) (R := some (emb D')) hc C Brange hn hs (by simpa using hl) hes' (by rw [D0_emb, bf_emb, hbf]; rfl)
    rw [encEN_emb, show gotU n (some (emb D')) = .list (mkU n (emb D')) from rfl, mkU_emb] at this
    exact this
  have hf : Fn c 1 fw41 [.int n, .list (es.map encE)] (.list (mkT n (gU (emb2 (fwI n es))))) true := by
    have := fw41_fn (es := es.map embE) (R := emb2 (fwI n es)) false hc C Brange hn (by simpa using hl) hes' (by rw [dg_emb, inF_emb, fk_emb]; rfl)
    rw [encEN_emb] at this
    exact this
  refine fn_go ["n", "edges", "source"] ["d"] ["n", "edges", "source", "d"] C ?_ rfl (by decide +kernel) (by decide +kernel) rfl rfl rfl [some ⟨.sh, .int n⟩, some ⟨.sh, .list (es.map encE)⟩, some ⟨.sh, .int s⟩, none] ?_
  · intro pm cd doc vals hv
    match vals, hv with | [a, b, c], _ => rfl
  walk_at "m:enter"
  rename_i FS
  refine s_asg (sk := .lo) FS (ev_tupitem (i := 0) (d := .list (mkD n D')) (ev_call C stDij rfl (evl_w (ev_name_w (by walk_at "m:at")) (evl_w (ev_name_w (by walk_at "m:at")) (evl_w (ev_name_w (by walk_at "m:at")) evl_nilU))) hd (Nat.le_of_ble_eq_true rfl)) ev_int (by decide) (by decide) rfl) .frlo (by walk_at "m:up") ?_
  have hrow : (List.range n).map (gU (emb2 (fwI n es)) s) = mkD n D' := List.map_congr_left fun v hv => by
    show optU ((fwI n es s v).map Num.i) = _
    rw [optU_emb, hfw v (by simpa using hv)]
  refine s_ret (u := true) (Ev.cast (ev_and (ev_cmp (ev_name_w (by walk_at "m:at")) (ev_call C stBel rfl (evl_w (ev_name_w (by walk_at "m:at")) (evl_w (ev_name_w (by walk_at "m:at")) (evl_w (ev_name_w (by walk_at "m:at")) evl_nilU))) hb (Nat.le_of_ble_eq_true rfl)) (cmp_eqv (Sm.shaped (n := 1) Sm.mkD) (Sm.shaped (n := 1) Sm.mkD)))
    (fun _ => ev_cmp (ev_name_w (by walk_at "m:at")) (Ev.cast (d' := .list (mkD n D')) (ev_at (i := s) (ev_call C stFw rfl (evl_w (ev_name_w (by walk_at "m:at")) (evl_w (ev_name_w (by walk_at "m:at")) evl_nilU)) hf (Nat.le_of_ble_eq_true rfl)) (ev_name_w (by walk_at "m:at")) (mkT_row hs) (by rw [mkT_len]; simp [sizeLine]; omega)) (by rw [hrow])) (cmp_eqv (Sm.shaped (n := 1) Sm.mkD) (Sm.shaped (n := 1) Sm.mkD)))) (d' := .bool true) (by rw [Sm.eqv (n := 1) Sm.mkD]; rfl)) ⟨rfl, fun _ => rfl⟩ (.inr (.inr (.inl rfl)))
noncomputable abbrev lst (n : Nat) (D : DN) : List (Option Num) := (List.range n).map D
theorem lst_map (n : Nat) (D : DN) : (lst n D).map optU = mkU n D := by unfold lst mkU; rw [List.map_map]; rfl
theorem thrF_fn {c : Cx} (hc : 1 ≤ c.lo) (C : CxOk c) (NB : NoneBooked c.hB) (Blen : Bi c "len" (.builtin "len")) (Brange : Bi c "range" (.type "range")) (Blist : Bi c "list" (.type "list")) (stPus : Stands c pus41) (stPop : Stands c pop41) (stNei : Stands c nei41) (stDij : Stands c dij41) (stBel : Stands c bel41) (stFw : Stands c fw41)
    {n s : Nat} (hn : n ≤ 5) (hs : s < n) {es : List EN} (hl : es.length ≤ 7) (hes : ∀ e ∈ es, e.1 < n ∧ e.2.1 < n) {m : Nat} {R : StN} (hR : runN es m (st0N s) = some R) {D' : DN} (hB : bfU es n (D0U s) = some (some D')) {T : TN} (hF : fkU true n n (es.foldl inU (dgU n)) = some T)
    (nn1 : noNew (.list (es.map encEN)) = true) (nn2 : noNew (.list (mkU n R.1)) = true) (ok1 : okL (lst n R.1) (lst n D') = true) (ok2 : okL (lst n R.1) (lst n (T s)) = true) :
    Fn c 5 thr41 [.int n, .list (es.map encEN), .int s] (.bool (eqL (lst n R.1) (lst n D') && eqL (lst n R.1) (lst n (T s)))) true := by
  refine fn_go ["n", "edges", "source"] ["d"] ["n", "edges", "source", "d"] C ?_ rfl (by decide +kernel) (by decide +kernel) rfl rfl rfl [some ⟨.sh, .int n⟩, some ⟨.sh, .list (es.map encEN)⟩, some ⟨.sh, .int s⟩, none] ?_
  · intro pm cd doc vals hv
    match vals, hv with | [a, b, c], _ => rfl
  walk_at "m:enter"
  rename_i FS
  refine s_asg (sk := .lo) FS (ev_tupitem (i := 0) (d := .list (mkU n R.1)) (ev_call C stDij rfl (evl_w (ev_name_w (by walk_at "m:at")) (evl_w (ev_name_w (by walk_at "m:at")) (evl_w (ev_name_w (by walk_at "m:at")) evl_nilU))) (dijN_fn hc C Blen Brange Blist stPus stPop stNei hn hs hl hes hR) (Nat.le_of_ble_eq_true rfl)) ev_int (by decide) (by decide) rfl) .frlo (by walk_at "m:up") ?_
  have hnn : noNewRb [some ⟨.sh, .int n⟩, some ⟨.sh, .list (es.map encEN)⟩, some ⟨.sh, .int s⟩, some ⟨.lo, .list (mkU n R.1)⟩] = true := by
    show (noNew (.int n) && (noNew (.list (es.map encEN)) && (noNew (.int s) && (noNew (.list (mkU n R.1)) && true)))) = true
    rw [nn1, nn2]; rfl
  refine s_ret (u := true) (ev_and (ev_eqL (xs := lst n R.1) (ys := lst n D') C NB (Ev.cast (ev_name_w (by walk_at "m:at")) (by rw [lst_map])) (fun L hL => Ev.cast (ev_call C.at stBel.at rfl (evl_w (ev_name_w (by walk_at "m:at")) (evl_w (ev_name_w (by walk_at "m:at")) (evl_w (ev_name_w (by walk_at "m:at")) evl_nilU))) (bel41_fn (show 1 ≤ L by omega) C.at Brange.at hn hs hl hes hB) (Nat.le_of_ble_eq_true rfl)) (by rw [lst_map]; rfl)) hnn ok1)
    (fun _ => ev_eqL (xs := lst n R.1) (ys := lst n (T s)) C NB (Ev.cast (ev_name_w (by walk_at "m:at")) (by rw [lst_map])) (fun L hL => Ev.cast (ev_at (i := s) (ev_call C.at stFw.at rfl (evl_w (ev_name_w (by walk_at "m:at")) (evl_w (ev_name_w (by walk_at "m:at")) evl_nilU)) (fw41_fn true (show 1 ≤ L by omega) C.at Brange.at hn hl hes hF) (Nat.le_of_ble_eq_true rfl)) (ev_name_w (by walk_at "m:at")) (mkT_row hs) (by rw [mkT_len]; simp [sizeLine]; omega)) (by rw [lst_map]; rfl)) hnn ok2)) ⟨rfl, fun _ => rfl⟩ (.inl rfl)
theorem thrN_fn {c : Cx} (hc : 1 ≤ c.lo) (C : CxOk c) (Blen : Bi c "len" (.builtin "len")) (Brange : Bi c "range" (.type "range")) (Blist : Bi c "list" (.type "list")) (stPus : Stands c pus41) (stPop : Stands c pop41) (stNei : Stands c nei41) (stDij : Stands c dij41) (stBel : Stands c bel41)
    {n s : Nat} (hn : n ≤ 5) (hs : s < n) {es : List EN} (hl : es.length ≤ 7) (hes : ∀ e ∈ es, e.1 < n ∧ e.2.1 < n) {m : Nat} {R : StN} (hR : runN es m (st0N s) = some R) (hB : bfU es n (D0U s) = some none) :
    Fn c 5 thr41 [.int n, .list (es.map encEN), .int s] (.bool false) true := by
  refine fn_go ["n", "edges", "source"] ["d"] ["n", "edges", "source", "d"] C ?_ rfl (by decide +kernel) (by decide +kernel) rfl rfl rfl [some ⟨.sh, .int n⟩, some ⟨.sh, .list (es.map encEN)⟩, some ⟨.sh, .int s⟩, none] ?_
  · intro pm cd doc vals hv
    match vals, hv with | [a, b, c], _ => rfl
  walk_at "m:enter"
  rename_i FS
  refine s_asg (sk := .lo) FS (ev_tupitem (i := 0) (d := .list (mkU n R.1)) (ev_call C stDij rfl (evl_w (ev_name_w (by walk_at "m:at")) (evl_w (ev_name_w (by walk_at "m:at")) (evl_w (ev_name_w (by walk_at "m:at")) evl_nilU))) (dijN_fn hc C Blen Brange Blist stPus stPop stNei hn hs hl hes hR) (Nat.le_of_ble_eq_true rfl)) ev_int (by decide) (by decide) rfl) .frlo (by walk_at "m:up") ?_
  refine s_ret (u := true) (ev_and (q := false) (k2 := .fr) (ev_eqLN (xs := lst n R.1) (Ev.cast (ev_name_w (by walk_at "m:at")) (by rw [lst_map])) (ev_call C stBel rfl (evl_w (ev_name_w (by walk_at "m:at")) (evl_w (ev_name_w (by walk_at "m:at")) (evl_w (ev_name_w (by walk_at "m:at")) evl_nilU))) (bel41_fn hc C Brange hn hs hl hes hB) (Nat.le_of_ble_eq_true rfl))) (fun h => by cases h)) ⟨rfl, fun _ => rfl⟩ (.inl rfl)
/-! the runs with floats -/
noncomputable def A2 : UInt64 := 0x4340000000000000
noncomputable def es2 (b c : UInt64) : List EN := [(0, 2, .f A2 false), (2, 1, .f b false), (1, 3, .f c false)]
noncomputable def w2 (b c : UInt64) : Bool := !(Float64.cmp (Float64.add (Float64.add A2 b) c) (Float64.add A2 (Float64.add b c)) != some Ordering.eq)
noncomputable def chk2 (b c : UInt64) : Bool := match runN (es2 b c) 8 (st0N 0), bfU (es2 b c) 4 (D0U 0), fkU true 4 4 ((es2 b c).foldl inU (dgU 4)) with
  | some R, some (some D'), some T => noNew (.list ((es2 b c).map encEN)) && noNew (.list (mkU 4 R.1)) && okL (lst 4 R.1) (lst 4 D') && okL (lst 4 R.1) (lst 4 (T 0)) && ((eqL (lst 4 R.1) (lst 4 D') && eqL (lst 4 R.1) (lst 4 (T 0))) == w2 b c)
  | _, _, _ => false
theorem chk2_ok : ((List.range 2).all fun x => (List.range 3).all fun y => chk2 (Float64.ofInt (1 + 2 * (x : Int))) (Float64.ofInt (1 + (y : Int)))) = true := by decide +kernel
noncomputable def es3 (x : Int) : List EN := [(0, 0, .i x), (0, 0, .f ninf false)]
noncomputable def chk3 (x : Int) : Bool := match runN (es3 x) 8 (st0N 0), bfU (es3 x) 1 (D0U 0) with
  | some R, some none => true
  | _, _ => false
theorem chk3_ok : ((List.range 5).all fun x => chk3 (x : Int)) = true := by decide +kernel
end Mine

set_option maxRecDepth 100000
namespace Mine
open PySem PySem.Spec PySem.Calls PyProof.Rows

local macro_rules | `(tactic| walk_at "m:at") => `(tactic| (with_reducible repeat' (first | exact At.here | apply At.there)))
local macro_rules | `(tactic| walk_at "m:enter") => `(tactic| (intro f hsc hxs hlv FS; obtain ⟨⟨scope, locals, globals, cells, qual, func, code, frame, builtins⟩, A, h₀, xs, lv⟩ := f; (simp only at hsc hxs hlv); subst hsc hxs hlv))
local macro_rules | `(tactic| walk_at "m:up") => `(tactic| (with_reducible repeat' (first | exact Upd.here | apply Upd.there | exact Nm.here | apply Nm.there)))

/-! edges != kept -/
theorem eqAt_num {A : Around} {s : Shared} {L1 L2 T1 T2 : Nat} {h1 h2 : Heap} {v1 v2 : Value} {w : Num} {as bs : List Addr} (hb : NoneBooked s.heap) (r1 : Reads L1 T1 h1 v1 (encU w) as) (r2 : Reads L2 T2 h2 v2 (encU w) bs) (ok : okE (some w) (some w) = true) : SeqAt.EqAt A s v1 v2 true := by
  cases w with
  | i x =>
    cases r1 with | int _ t =>
    cases r2 with | int _ u =>
    have := SeqAt.EqAt.int_int (A := A) (s := s) x t x u
    rwa [beq_self_eq_true] at this
  | f a q =>
    obtain ⟨t, rfl, _, ht, _⟩ := reads_flt r1
    obtain ⟨u, rfl, _, hu, _⟩ := reads_flt r2
    have hc : Float64.cmp a a = some Ordering.eq := by
      simp only [okE, Bool.or_eq_true, Bool.and_eq_true, beq_iff_eq, bne_iff_ne] at ok
      rcases ok with h | h
      · exact h.2
      · exact absurd rfl h.1
    have := eqAt_flt (A := A) (a := a) (b := a) hb ht hu (fun _ => hc) (fun h => absurd rfl h)
    rw [hc] at this
    exact this
theorem three_of {L T : Nat} {h : Heap} {vs : Array Value} {d1 d2 d3 : PyData} {as : List Addr} (r : ReadsAll L T h vs.toList [d1, d2, d3] as) : ∃ v1 v2 v3 a1 a2 a3, vs = #[v1, v2, v3] ∧ Reads L T h v1 d1 a1 ∧ Reads L T h v2 d2 a2 ∧ Reads L T h v3 d3 a3 := by
  obtain ⟨l⟩ := vs
  change ReadsAll L T h l [d1, d2, d3] as at r
  cases r with | cons r1 r2 =>
  cases r2 with | cons r2 r3 =>
  cases r3 with | cons r3 r4 =>
  cases r4
  exact ⟨_, _, _, _, _, _, rfl, r1, r2, r3⟩
theorem eqAt_edge {A : Around} {s : Shared} {L T : Nat} {v1 v2 : Value} {e : EN} {as bs : List Addr} (hb : NoneBooked s.heap) (hu : A.units + 1 < cLine) (r1 : Reads L T s.heap v1 (encEN e) as) (r2 : Reads L T s.heap v2 (encEN e) bs) (ok : okE (some e.2.2) (some e.2.2) = true) : SeqAt.EqAt A s v1 v2 true := by
  cases r1 with | tuple g1 g2 g3 g4 =>
  rename_i a o vs m
  cases r2 with | tuple q1 q2 q3 q4 =>
  rename_i a' o' ws m'
  by_cases hab : a = a'
  · subst hab; exact SeqAt.EqAt.same _
  · obtain ⟨x1, x2, x3, _, _, _, rfl, a1, a2, a3⟩ := three_of g4
    obtain ⟨y1, y2, y3, _, _, _, rfl, b1, b2, b3⟩ := three_of q4
    have key := SeqAt.RcAt.tuples (A := A) (s := s) (e := fun _ => true) ⟨_, g1, g2, _, g3⟩ ⟨_, q1, q2, _, q3⟩ (by omega) (fun j j1 j2 => ?_)
    · exact SeqAt.EqAt.of_refs hab key
    · match j, j1, j2 with
      | 0, _, _ => exact eqAt_num (w := .i _) hb a1 b1 rfl
      | 1, _, _ => exact eqAt_num (w := .i _) hb a2 b2 rfl
      | 2, _, _ => exact eqAt_num hb a3 b3 ok
theorem cmp_neE {c : Cx} {n : Nat} (C : CxOk c) (NB : NoneBooked c.hB) {es : List EN} (ok : ∀ e ∈ es, okE (some e.2.2) (some e.2.2) = true) : Cmp c n .NotEq (.list (es.map encEN)) (.list (es.map encEN)) false := by
  intro A s v1 v2 as1 as2 E Q W R r1 r2 h
  have hb := NoneBooked.at_ C NB W
  cases r1 with | list g1 g2 g3 g4 =>
  rename_i a o vs m bs
  cases r2 with | list q1 q2 q3 q4 =>
  rename_i a' o' ws m' bs'
  have l1 : vs.size = es.length := by simpa using readsAll_length g4
  have l2 : ws.size = es.length := by simpa using readsAll_length q4
  have hu := R.units
  have key := SeqAt.RcNeAt.lists (A := A) (s := s) (e := fun _ => true) ⟨_, g1, g2, _, g3⟩ ⟨_, q1, q2, _, q3⟩ (by omega) (by omega) (fun j j1 j2 => ?_)
  · refine key _ _ _ _ ?_
    have : (!(List.range vs.size).all fun _ => true) = false := by simp
    rw [this]; exact h
  · have hj : j < es.length := by omega
    have d1 : (es.map encEN)[j]? = some (encEN es[j]) := by rw [List.getElem?_map, List.getElem?_eq_getElem hj]; rfl
    obtain ⟨w1, c1, e1, e2, _⟩ := readsAll_item g4 d1
    obtain ⟨w2, c2, e3, e4, _⟩ := readsAll_item q4 d1
    have f1 : vs[j] = w1 := by have : vs.toList[j]? = some vs[j] := by simp [j1]
                               rw [e1] at this; exact (Option.some.inj this).symm
    have f2 : ws[j] = w2 := by have : ws.toList[j]? = some ws[j] := by simp [j2]
                               rw [e3] at this; exact (Option.some.inj this).symm
    rw [f1, f2]
    exact eqAt_edge hb (by show A.units + 1 + 1 < cLine; omega) e2 e4 (ok _ (List.getElem_mem hj))
/-! facts for the law -/
theorem noNew_il (ns : List Int) : noNew (.list (ns.map .int)) = true := by
  show noNews (ns.map .int) = true
  induction ns with
  | nil => rfl
  | cons x ns ih => show (noNew (.int x) && noNews (ns.map .int)) = true; rw [ih]; rfl
theorem big_ok {z : Int} (h1 : 0 ≤ z) (h2 : z < 100) : z.natAbs < 2 ^ 1023 :=
  Nat.lt_of_lt_of_le (show z.natAbs < 2 ^ 7 by omega) (Nat.pow_le_pow_right (by decide) (by decide))
theorem es3_lt {x : Int} {e : EN} (he : e ∈ es3 x) : e.1 < 1 ∧ e.2.1 < 1 := by
  simp only [es3, List.mem_cons, List.not_mem_nil, or_false] at he
  rcases he with rfl | rfl <;> exact ⟨Nat.zero_lt_one, Nat.zero_lt_one⟩
theorem es3_ok {x : Int} {e : EN} (he : e ∈ es3 x) : okE (some e.2.2) (some e.2.2) = true := by
  simp only [es3, List.mem_cons, List.not_mem_nil, or_false] at he
  rcases he with rfl | rfl
  · rfl
  · decide +kernel
theorem chk3_spec {x : Nat} (hx : x < 5) : ∃ R, runN (es3 x) 8 (st0N 0) = some R ∧ bfU (es3 x) 1 (D0U 0) = some none := by
  have hk := List.all_eq_true.mp chk3_ok x (by simpa using hx)
  unfold chk3 at hk
  generalize runN (es3 x) 8 (st0N 0) = a at hk ⊢
  generalize bfU (es3 x) 1 (D0U 0) = b at hk ⊢
  match a, b, hk with
  | some R, some none, _ => exact ⟨R, rfl, rfl⟩
theorem es2_lt {b c : UInt64} {e : EN} (he : e ∈ es2 b c) : e.1 < 4 ∧ e.2.1 < 4 := by
  simp only [es2, List.mem_cons, List.not_mem_nil, or_false] at he
  rcases he with rfl | rfl | rfl
  · exact ⟨show 0 < 4 by decide, show 2 < 4 by decide⟩
  · exact ⟨show 2 < 4 by decide, show 1 < 4 by decide⟩
  · exact ⟨show 1 < 4 by decide, show 3 < 4 by decide⟩
theorem ofInt_ok : ((List.range 4).all fun u => okE (some (.f (Float64.ofInt (1 + (u : Int))) false)) (some (.f (Float64.ofInt (1 + (u : Int))) false))) = true := by decide +kernel
theorem A2_ok : okE (some (.f A2 false)) (some (.f A2 false)) = true := by decide +kernel
theorem chk2_spec {x y : Nat} (hx : x < 2) (hy : y < 3) : ∃ fb fc, Float64.ofInt (1 + 2 * (x : Int)) = fb ∧ Float64.ofInt (1 + (y : Int)) = fc ∧ (∀ e ∈ es2 fb fc, okE (some e.2.2) (some e.2.2) = true) ∧ ∃ R D' T, runN (es2 fb fc) 8 (st0N 0) = some R ∧ bfU (es2 fb fc) 4 (D0U 0) = some (some D') ∧ fkU true 4 4 ((es2 fb fc).foldl inU (dgU 4)) = some T ∧
    noNew (.list ((es2 fb fc).map encEN)) = true ∧ noNew (.list (mkU 4 R.1)) = true ∧ okL (lst 4 R.1) (lst 4 D') = true ∧ okL (lst 4 R.1) (lst 4 (T 0)) = true ∧ (eqL (lst 4 R.1) (lst 4 D') && eqL (lst 4 R.1) (lst 4 (T 0))) = w2 fb fc := by
  have hk : chk2 (Float64.ofInt (1 + 2 * (x : Int))) (Float64.ofInt (1 + (y : Int))) = true := List.all_eq_true.mp (List.all_eq_true.mp chk2_ok x (by simpa using hx)) y (by simpa using hy)
  have okb := List.all_eq_true.mp ofInt_ok (2 * x) (by simp; omega)
  rw [show ((2 * x : Nat) : Int) = 2 * (x : Int) by omega] at okb
  have okc := List.all_eq_true.mp ofInt_ok y (by simp; omega)
  generalize Float64.ofInt (1 + 2 * (x : Int)) = fb at hk okb ⊢
  generalize Float64.ofInt (1 + (y : Int)) = fc at hk okc ⊢
  refine ⟨fb, fc, rfl, rfl, fun e he => ?_, ?_⟩
  · simp only [es2, List.mem_cons, List.not_mem_nil, or_false] at he
    rcases he with rfl | rfl | rfl
    · exact A2_ok
    · exact okb
    · exact okc
  unfold chk2 at hk
  generalize runN (es2 fb fc) 8 (st0N 0) = a at hk ⊢
  generalize bfU (es2 fb fc) 4 (D0U 0) = b at hk ⊢
  generalize fkU true 4 4 ((es2 fb fc).foldl inU (dgU 4)) = t at hk ⊢
  match a, b, t, hk with
  | some R, some (some D'), some T, hk =>
    simp only [Bool.and_eq_true, beq_iff_eq] at hk
    obtain ⟨⟨⟨⟨k1, k2⟩, k3⟩, k4⟩, k5⟩ := hk
    exact ⟨R, D', T, rfl, rfl, rfl, k1, k2, k3, k4, k5⟩
/-! the law -/
noncomputable def law41 : FnD := fnAt PySem.Challenge.pw_k21_0041 11
noncomputable abbrev X41 : List Str := ["script", "kind", "n", "source", "want", "edges", "a", "b", "c", "i", "ends", "kept", "got"]
noncomputable abbrev R41 (ns : List Int) (K : Int) (n s : Nat) (want : Bool) (es : List EN) (a b c i ends kept got : Option Slot) : Rho := [some ⟨.sh, .list (ns.map .int)⟩, some ⟨.sh, .int K⟩, some ⟨.sh, .int n⟩, some ⟨.sh, .int s⟩, some ⟨.sh, .bool want⟩, some ⟨.ow, .list (es.map encEN)⟩, a, b, c, i, ends, kept, got]
set_option maxHeartbeats 4000000 in
theorem law41_fn {c : Cx} (h0 : c.lo = 0) (C0 : CxOk c) (NB : NoneBooked c.hB) (Blen : Bi c "len" (.builtin "len")) (Brange : Bi c "range" (.type "range")) (Blist : Bi c "list" (.type "list")) (Bfloat : Bi c "float" (.type "float")) (Babs : Bi c "abs" (.builtin "abs"))
    (stBef : Stands c bef41) (stPus : Stands c pus41) (stPop : Stands c pop41) (stNei : Stands c nei41) (stDij : Stands c dij41) (stBel : Stands c bel41) (stFw : Stands c fw41) (stThr : Stands c thr41) (stCell : Stands c cell41) {ns : List Int} (hn : ns.length ≤ 63) :
    Fn c 7 law41 [.list (ns.map .int)] (.bool true) true := by
  refine fn_go ["script"] ["kind", "n", "source", "want", "edges", "a", "b", "c", "i", "ends", "kept", "got"] X41 C0 ?_ rfl (by decide +kernel) (by decide +kernel) rfl rfl rfl [some ⟨.sh, .list (ns.map .int)⟩, none, none, none, none, none, none, none, none, none, none, none, none] ?_
  · intro pm cd doc vals hv
    match vals, hv with | [a], _ => rfl
  walk_at "m:enter"
  rename_i FS0
  refine s_asg (sk := .sh) FS0 (ev_mod (ev_call C0 stCell rfl (evl_w (ev_name_w (by walk_at "m:at")) (evl_w ev_int evl_nilU)) (cell41_fn C0 Blen hn (by decide)) (Nat.le_of_ble_eq_true rfl)) ev_int (by decide)) (.flat rfl) (by walk_at "m:up") ?_
  generalize hK : cellD ns 0 0 % 4 = K
  refine s_asgSw h0 FS0 (by walk_at "m:up") (by show (noNew (.list (ns.map .int)) && (true && (true && true))) = true; rw [noNew_il]; rfl) ?_
  have hc : 1 ≤ (c.at 1).lo := Nat.le_refl _
  have C := C0.at (L := 1)
  have NB1 : NoneBooked (c.at 1).hB := NB
  have FS := FS0.at (L := 1)
  replace Blen := Blen.at (L := 1)
  replace Brange := Brange.at (L := 1)
  replace Blist := Blist.at (L := 1)
  replace Bfloat := Bfloat.at (L := 1)
  replace Babs := Babs.at (L := 1)
  replace stBef := stBef.at (L := 1)
  replace stPus := stPus.at (L := 1)
  replace stPop := stPop.at (L := 1)
  replace stNei := stNei.at (L := 1)
  replace stDij := stDij.at (L := 1)
  replace stBel := stBel.at (L := 1)
  replace stFw := stFw.at (L := 1)
  replace stThr := stThr.at (L := 1)
  replace stCell := stCell.at (L := 1)
  clear C0 NB FS0 h0
  generalize c.at 1 = c at *
  refine s_asg (sk := .sh) FS ev_int (.flat rfl) (by walk_at "m:up") ?_
  refine s_asg (sk := .sh) FS ev_bool (.flat rfl) (by walk_at "m:up") ?_
  refine s_asg (sk := .ow) FS (ev_list (k := .fr) evl_nil) .fr (by walk_at "m:up") ?_
  refine s_ifc (fun ρ => ∃ (n s : Nat) (es : List EN) (want : Bool) (o1 o2 o3 o4 o5 : Option Slot), Fn c 5 thr41 [.int n, .list (es.map encEN), .int s] (.bool want) true ∧ es.length ≤ 4 ∧ (∀ e ∈ es, okE (some e.2.2) (some e.2.2) = true) ∧ ρ = R41 ns K n s want es o1 o2 o3 o4 o5 none none)
    (tst_cmp (ev_name_w (by walk_at "m:at")) ev_int cmp_eq) (fun h => ?_) (fun h => ?_) ?_
  · -- kind 3
    obtain ⟨x, hx⟩ : ∃ x : Nat, cellD ns 1 0 % 5 = (x : Int) := ⟨(cellD ns 1 0 % 5).toNat, by omega⟩
    have hx5 : x < 5 := by omega
    refine s_asg (sk := .sh) FS ev_int (.flat rfl) (by walk_at "m:up") ?_
    refine s_asg (sk := .ow) FS (Ev.cast (d' := .list ((es3 x).map encEN)) (ev_list (k := .fr) (evl_fr (Ev.ofFlat (ev_tuple (evl_w ev_int (evl_w ev_int (evl_w (ev_mod (ev_call C stCell rfl (evl_w (ev_name_w (by walk_at "m:at")) (evl_w ev_int evl_nilU)) (cell41_fn C Blen hn (by decide)) (Nat.le_of_ble_eq_true rfl)) ev_int (by decide)) evl_nilU))) (Nat.le_of_ble_eq_true rfl)) rfl)
      (evl_fr (Ev.ofFlat (ev_tuple (evl_w ev_int (evl_w ev_int (evl_w (ev_vcall1 (.inr ⟨_, rfl⟩) C Bfloat rfl ev_str (vc_ninf false hc)) evl_nilU))) (Nat.le_of_ble_eq_true rfl)) rfl) evl_nil)) (Nat.le_of_ble_eq_true rfl)) (by rw [hx]; rfl)) .fr (by walk_at "m:up") ?_
    refine s_asg (sk := .sh) FS ev_bool (.flat rfl) (by walk_at "m:up") (s_end ?_)
    obtain ⟨R, hr, hb⟩ := chk3_spec hx5
    exact ⟨1, 0, es3 x, false, none, none, none, none, none, thrN_fn hc C Blen Brange Blist stPus stPop stNei stDij stBel (by decide) (by decide) (Nat.le_of_ble_eq_true rfl) (fun e he => es3_lt he) hr hb, Nat.le_of_ble_eq_true rfl, fun e he => es3_ok he, rfl⟩
  · refine ex_one (ex_if (tst_cmp (ev_name_w (by walk_at "m:at")) ev_int cmp_eq) (fun h => ?_) (fun h => ?_))
    · -- kind 2
      obtain ⟨x, hx⟩ : ∃ x : Nat, cellD ns 1 0 % 2 = (x : Int) := ⟨(cellD ns 1 0 % 2).toNat, by omega⟩
      obtain ⟨y, hy⟩ : ∃ y : Nat, cellD ns 2 0 % 3 = (y : Int) := ⟨(cellD ns 2 0 % 3).toNat, by omega⟩
      have hx2 : x < 2 := by omega
      have hy3 : y < 3 := by omega
      obtain ⟨fb, fc, efb, efc, oks, R, D', T, hr, hb, hf, k1, k2, k3, k4, k5⟩ := chk2_spec hx2 hy3
      refine s_asg (sk := .sh) FS (Ev.cast (d' := fltD A2 false) (ev_fconst false hc) rfl) (.flat rfl) (by walk_at "m:up") ?_
      refine s_asg (sk := .sh) FS (Ev.cast (d' := fltD fb false) (ev_vcall1 (.inr ⟨_, rfl⟩) C Bfloat rfl (ev_add ev_int (ev_mul ev_int (ev_mod (ev_call C stCell rfl (evl_w (ev_name_w (by walk_at "m:at")) (evl_w ev_int evl_nilU)) (cell41_fn C Blen hn (by decide)) (Nat.le_of_ble_eq_true rfl)) ev_int (by decide)) (mulOkL (by omega) (by omega)))) (vc_floatI false hc (big_ok (by omega) (by omega)))) (by rw [hx, efb])) (.flat rfl) (by walk_at "m:up") ?_
      refine s_asg (sk := .sh) FS (Ev.cast (d' := fltD fc false) (ev_vcall1 (.inr ⟨_, rfl⟩) C Bfloat rfl (ev_add ev_int (ev_mod (ev_call C stCell rfl (evl_w (ev_name_w (by walk_at "m:at")) (evl_w ev_int evl_nilU)) (cell41_fn C Blen hn (by decide)) (Nat.le_of_ble_eq_true rfl)) ev_int (by decide))) (vc_floatI false hc (big_ok (by omega) (by omega)))) (by rw [hy, efc])) (.flat rfl) (by walk_at "m:up") ?_
      refine s_asg (sk := .ow) FS (Ev.cast (d' := .list ((es2 fb fc).map encEN)) (ev_list (k := .fr) (evl_fr (Ev.ofFlat (ev_tuple (evl_w ev_int (evl_w ev_int (evl_w (ev_name_w (by walk_at "m:at")) evl_nilU))) (Nat.le_of_ble_eq_true rfl)) rfl)
        (evl_fr (Ev.ofFlat (ev_tuple (evl_w ev_int (evl_w ev_int (evl_w (ev_name_w (by walk_at "m:at")) evl_nilU))) (Nat.le_of_ble_eq_true rfl)) rfl) (evl_fr (Ev.ofFlat (ev_tuple (evl_w ev_int (evl_w ev_int (evl_w (ev_name_w (by walk_at "m:at")) evl_nilU))) (Nat.le_of_ble_eq_true rfl)) rfl) evl_nil))) (Nat.le_of_ble_eq_true rfl)) (by rfl)) .fr (by walk_at "m:up") ?_
      have hth := thrF_fn (s := 0) (n := 4) hc C NB1 Blen Brange Blist stPus stPop stNei stDij stBel stFw (by decide) (by decide) (es := es2 fb fc) (Nat.le_of_ble_eq_true rfl) (fun e he => es2_lt he) hr hb hf k1 k2 k3 k4
      rw [k5] at hth
      refine s_when (tst_cmp (ev_addU (a := .f (Float64.add A2 fb) false) (b := .f fc false) false hc (ev_addU (a := .f A2 false) (b := .f fb false) false hc (Ev.cast (ev_name_w (by walk_at "m:at")) (by rfl)) (Ev.cast (ev_name_w (by walk_at "m:at")) (by rfl)) rfl) (Ev.cast (ev_name_w (by walk_at "m:at")) (by rfl)) rfl) (ev_addU (a := .f A2 false) (b := .f (Float64.add fb fc) false) false hc (Ev.cast (ev_name_w (by walk_at "m:at")) (by rfl)) (ev_addU (a := .f fb false) (b := .f fc false) false hc (Ev.cast (ev_name_w (by walk_at "m:at")) (by rfl)) (Ev.cast (ev_name_w (by walk_at "m:at")) (by rfl)) rfl) rfl) cmp_neF) (fun h => ?_) (fun h => ?_)
      · have hw : w2 fb fc = false := by unfold w2; rw [h]; rfl
        rw [hw] at hth
        refine s_asg (sk := .sh) FS ev_bool (.flat rfl) (by walk_at "m:up") (s_end (s_end ?_))
        exact ⟨4, 0, es2 fb fc, false, _, _, _, none, none, hth, Nat.le_of_ble_eq_true rfl, oks, rfl⟩
      · have hw : w2 fb fc = true := by unfold w2; rw [h]; rfl
        rw [hw] at hth
        exact s_end ⟨4, 0, es2 fb fc, true, _, _, _, none, none, hth, Nat.le_of_ble_eq_true rfl, oks, rfl⟩
    · -- ints
      obtain ⟨n, hN⟩ : ∃ n : Nat, 1 + cellD ns 1 0 % 4 = (n : Int) := ⟨(1 + cellD ns 1 0 % 4).toNat, by omega⟩
      have hn5 : n ≤ 4 := by omega
      have hn1 : 1 ≤ n := by omega
      have hp : (0 : Int) < n := by omega
      obtain ⟨s, hS⟩ : ∃ s : Nat, cellD ns 2 0 % (n : Int) = (s : Int) := ⟨_, (Int.toNat_of_nonneg (Int.emod_nonneg _ (by omega))).symm⟩
      have hs : s < n := by have := Int.emod_lt_of_pos (cellD ns 2 0) hp; omega
      refine s_asg (sk := .sh) FS (Ev.cast (d' := .int n) (ev_add ev_int (ev_mod (ev_call C stCell rfl (evl_w (ev_name_w (by walk_at "m:at")) (evl_w ev_int evl_nilU)) (cell41_fn C Blen hn (by decide)) (Nat.le_of_ble_eq_true rfl)) ev_int (by decide))) (by rw [hN])) (.flat rfl) (by walk_at "m:up") ?_
      refine s_asg (sk := .sh) FS (Ev.cast (d' := .int s) (ev_mod (ev_call C stCell rfl (evl_w (ev_name_w (by walk_at "m:at")) (evl_w ev_int evl_nilU)) (cell41_fn C Blen hn (by decide)) (Nat.le_of_ble_eq_true rfl)) (ev_name_w (by walk_at "m:at")) hp) (by rw [hS])) (.flat rfl) (by walk_at "m:up") ?_
      refine s_forN FS (by walk_at "m:up") (it_range1 C Brange rfl (ev_mod (ev_call C stCell rfl (evl_w (ev_name_w (by walk_at "m:at")) (evl_w ev_int evl_nilU)) (cell41_fn C Blen hn (by decide)) (Nat.le_of_ble_eq_true rfl)) ev_int (by decide)) (by omega) (by omega))
        (fun j ρ => ∃ (es : Es) (o1 o2 : Option Slot), es.length = j ∧ (∀ e ∈ es, (e.1 < n ∧ e.2.1 < n) ∧ 0 ≤ e.2.2) ∧ ρ = R41 ns K n s true (es.map embE) none none none o1 o2 none none) ⟨[], none, none, rfl, nofun, rfl⟩ ?_ ?_
      · rintro j ρ' hj ⟨es, o1, o2, hlen, hes, rfl⟩
        have hj : j < 5 := by omega
        refine ⟨_, by walk_at "m:up", ?_⟩
        refine s_asg (sk := .lo) FS (ev_call C stCell rfl (evl_w (ev_name_w (by walk_at "m:at")) (evl_w (ev_add ev_int (ev_mul ev_int (ev_name_w (by walk_at "m:at")) (mulOkL (by omega) (by omega)))) evl_nilU)) (cell41_fn C Blen hn (by omega)) (Nat.le_of_ble_eq_true rfl)) (.flat rfl) (by walk_at "m:up") ?_
        generalize cellD ns (4 + 2 * (j : Int)) 0 = x
        have m1 := Int.emod_nonneg x (b := (n : Int)) (by omega)
        have m2 := Int.emod_nonneg (x / n) (b := (n : Int)) (by omega)
        have l1 := Int.emod_lt_of_pos x hp
        have l2 := Int.emod_lt_of_pos (x / n) hp
        obtain ⟨w, hw⟩ : ∃ w : Int, ((cellD ns (5 + 2 * (j : Int)) 0).natAbs : Int) = w := ⟨_, rfl⟩
        have hw0 : 0 ≤ w := by omega
        refine s_append FS (by walk_at "m:at") (Ev.cast (d' := encEN (embE ((x % n).toNat, (x / n % n).toNat, w))) (ev_tuple (evl_w (ev_mod (ev_name_w (by walk_at "m:at")) (ev_name_w (by walk_at "m:at")) hp) (evl_w (ev_mod (ev_fdiv (ev_name_w (by walk_at "m:at")) (ev_name_w (by walk_at "m:at")) hp (by omega)) (ev_name_w (by walk_at "m:at")) hp) (evl_w (ev_vcall1 (.inl ⟨_, rfl⟩) C Babs rfl (ev_call C stCell rfl (evl_w (ev_name_w (by walk_at "m:at")) (evl_w (ev_add ev_int (ev_mul ev_int (ev_name_w (by walk_at "m:at")) (mulOkL (by omega) (by omega)))) evl_nilU)) (cell41_fn C Blen hn (by omega)) (Nat.le_of_ble_eq_true rfl)) vc_abs) evl_nilU))) (Nat.le_of_ble_eq_true rfl)) ?_) (.inr rfl) (by simp [sizeLine]; omega) (by walk_at "m:up") (s_end ?_)
        · show _ = PyData.tuple [.int (((x % n).toNat : Nat) : Int), .int (((x / n % n).toNat : Nat) : Int), .int w]
          rw [Int.toNat_of_nonneg m1, Int.toNat_of_nonneg m2, hw]
        · refine ⟨es ++ [((x % n).toNat, (x / n % n).toNat, w)], some ⟨.lo, .int j⟩, some ⟨.lo, .int x⟩, by simp [hlen], ?_, by unfold R41; rw [List.map_append, List.map_append]; rfl⟩
          intro e he
          rcases List.mem_append.mp he with h | h
          · exact hes e h
          · rw [List.mem_singleton.mp h]; exact ⟨⟨by show (x % n).toNat < n; omega, by show (x / n % n).toNat < n; omega⟩, hw0⟩
      · rintro ρ' ⟨es, o1, o2, hlen, hes, rfl⟩
        have hlen : es.length ≤ 4 := by omega
        refine s_end ⟨n, s, es.map embE, true, none, none, none, o1, o2, thrI_fn hc C Blen Brange Blist stBef stPus stPop stNei stDij stBel stFw (by omega) hs (by omega) (fun e he => (hes e he).1) (fun e he => (hes e he).2), by simpa using hlen, fun e he => ?_, rfl⟩
        obtain ⟨x, hx, rfl⟩ := List.mem_map.mp he
        rfl
  rintro ρ' ⟨n, s, es, want, o1, o2, o3, o4, o5, hth, hlen, oks, rfl⟩
  refine s_asg (sk := .lo) FS (ev_vcall1 (.inr ⟨_, rfl⟩) C Blist rfl (ev_name_w (by walk_at "m:at")) (vc_list (flats_map (fun e => flat_EN e) _) (by simp [sizeLine]; omega))) .frlo (by walk_at "m:up") ?_
  refine s_asg (sk := .lo) FS (ev_call C stThr rfl (evl_w (ev_name_w (by walk_at "m:at")) (evl_w (ev_name_w (by walk_at "m:at")) (evl_w (ev_name_w (by walk_at "m:at")) evl_nilU))) hth (Nat.le_of_ble_eq_true rfl)) (.flat rfl) (by walk_at "m:up") ?_
  refine s_when (tst_cmp (ev_name_w (by walk_at "m:at")) (ev_name_w (by walk_at "m:at")) (cmp_neE C NB1 oks)) (fun h => by cases h) (fun _ => ?_)
  cases want with
  | true =>
    refine s_if (tst_bool (ev_name_w (by walk_at "m:at"))) (fun _ => ?_) (fun h => by cases h)
    refine s_when (tst_cmp (ev_name_w (by walk_at "m:at")) ev_bool cmp_isnot_bool) (fun h => by cases h) (fun _ => s_end ?_)
    exact s_ret (u := true) ev_bool ⟨rfl, fun _ => rfl⟩ (.inl rfl)
  | false =>
    refine s_if (tst_bool (ev_name_w (by walk_at "m:at"))) (fun h => by cases h) (fun _ => ?_)
    refine s_when (tst_cmp (ev_name_w (by walk_at "m:at")) ev_bool cmp_isnot_bool) (fun h => by cases h) (fun _ => s_end ?_)
    exact s_ret (u := true) ev_bool ⟨rfl, fun _ => rfl⟩ (.inl rfl)
end Mine

open PySem PySem.W PySem.Spec PyProof.Rows
set_option maxRecDepth 100000 in
set_option maxHeartbeats 8000000 in
open_top Mine.hd41 for PySem.Challenge.rw_k21_0041
set_option maxRecDepth 100000 in
set_option maxHeartbeats 8000000 in
theorem PySem.Challenge.cw_k21_0041_holds : PySem.Challenge.rw_k21_0041.Holds := by
  refine Mine.hd41 ?_
  intro w s₀ s₁ mg mb G Y fa o pm cd doc dV kV ho hd hcd hD hmg hg args vals as hpre hlay hrd hwl hlo
  clear hD
  have KX := PySem.W.kIn_of Y
  have NB : PySem.NoneBooked s₁.heap := ⟨_, .of_isNs (isNs_of_in (N := cStatics) KX (by kernel_rfl)), nsMap_none_of_in (x := sharingNotToldKey) KX (by kernel_rfl) (by kernel_rfl)⟩
  clear Y KX
  refine Ground.open G ?_
  intro T B D TE TW
  clear B D TE TW
  wrow_args hpre hlay hrd hwl hlo
  rename_i ns _ _ _ _ _ as' _ a vs _ _ _ _ r0 _ _ hlen _
  have hl : ns.length ≤ 63 := by omega
  refine Mine.law_end hg hmg (Mine.stands_ix T 9 rfl ⟨rfl, rfl, rfl, rfl⟩) (Mine.law41_fn rfl (Mine.cxOk_of T) NB (Mine.bi_of T rfl (by decide) (by decide +kernel)) (Mine.bi_of T rfl (by decide) (by decide +kernel)) (Mine.bi_of T rfl (by decide) (by decide +kernel)) (Mine.bi_of T rfl (by decide) (by decide +kernel)) (Mine.bi_of T rfl (by decide) (by decide +kernel)) (Mine.stands_ix T 0 rfl ⟨rfl, rfl, rfl, rfl⟩) (Mine.stands_ix T 1 rfl ⟨rfl, rfl, rfl, rfl⟩) (Mine.stands_ix T 2 rfl ⟨rfl, rfl, rfl, rfl⟩) (Mine.stands_ix T 3 rfl ⟨rfl, rfl, rfl, rfl⟩) (Mine.stands_ix T 4 rfl ⟨rfl, rfl, rfl, rfl⟩) (Mine.stands_ix T 5 rfl ⟨rfl, rfl, rfl, rfl⟩) (Mine.stands_ix T 6 rfl ⟨rfl, rfl, rfl, rfl⟩) (Mine.stands_ix T 7 rfl ⟨rfl, rfl, rfl, rfl⟩) (Mine.stands_ix T 8 rfl ⟨rfl, rfl, rfl, rfl⟩) hl) (by decide) (.cons (Mine.reads_il r0) .nil) ?_ ?_
  · intro c; rfl
  · wrow_post

