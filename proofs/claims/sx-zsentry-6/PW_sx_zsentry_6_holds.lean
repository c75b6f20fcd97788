import PyProof.Rows.All
import Wide.All
import OpenK.AllK
import Wide.FinOn
import PyProof.Rows.Many
import PyProof.Cells
import PyProof.Loops
import PyProof.Rows.RowBridgeG
import PyProof.Dict
import PyProof.DictList
import PyProof.DictKinds
import PyProof.Rows.StrTemp
import PyProof.Rows.TupSub
import PyProof.Rows.IntRules
import PyProof.Rows.StrRules
import PyProof.Rows.RuleB_pow
import PyProof.Rows.RuleB_mul
import PyProof.Rows.RuleB_mod
import PyProof.Rows.RuleB_and
import PyProof.Rows.RuleB_rshift
import PyProof.Rows.RuleB_lshift
import PyProof.Rows.RuleB_floordiv
import PyProof.Rows.RuleIs
import PyProof.Rows.RuleU_int
import PyProof.Rows.Lst
import PyProof.SliceList
import PyProof.ListOps
import PyProof.ForRange
import PyProof.ListCopy
import PyProof.Rows.SortWalk
import PyProof.Walks
import PyProof.WalksMore
import PyProof.Rows.TupAssign
import PyProof.DictTable
import PyProof.ForAppend
import PyProof.CompFree
import PyProof.Rows.SortShell
import KE.KItem
import PyProof.TupleIter
import PyProof.EnumStmt
import PyProof.EnumMake
import PyProof.ListNew
import PyProof.AttrMissHeap
import KE.KDictOf
import PyProof.GenCompD
import PyProof.WalksPairs
import PyProof.ConsumeS
import PyProof.TypeOfCall
import PyProof.IsRules
import PyProof.CodeObjX
import KE.KEqDat
import KE.KEqDeep
import PyProof.CallRoads
import PySem.Challenge.RW_sx_zsentry_6
set_option autoImplicit false
set_option linter.unusedVariables false
set_option linter.unusedSectionVars false
set_option Elab.async false
namespace Mine
open PySem PyProof.Rows

noncomputable abbrev PMap := Addr → Option Obj
noncomputable def Sub (G H : PMap) : Prop := ∀ b o, G b = some o → H b = some o
theorem Sub.refl (G : PMap) : Sub G G := fun _ _ e => e
theorem Sub.trans {G H K : PMap} (a : Sub G H) (b : Sub H K) : Sub G K := fun x o e => b x o (a x o e)

inductive Dat where
  | none
  | bool (b : Bool)
  | int (i : Int)
  | str (x : Str)
  | tup (ds : List Dat)
  | lst (ds : List Dat)
  | map (f : Int → Option Int)

noncomputable abbrev listObj (vs : List Value) (n : Nat) : Obj := { cls := .type "list", dict := none, data := .seq vs.toArray n, slots := #[] }
noncomputable abbrev tupObj (vs : List Value) (n : Nat) : Obj := { cls := .type "tuple", dict := none, data := .seq vs.toArray n, slots := #[] }

mutual
inductive Rep (G : PMap) : Value → Dat → Prop
  | none : Rep G .none .none
  | bool (b : Bool) : Rep G (.bool b) (.bool b)
  | int (i : Int) (t : Tok) : Rep G (.int i t) (.int i)
  | str (x : Str) (t : Tok) : Rep G (.str x t) (.str x)
  | tup {a : Addr} {vs : List Value} {n : Nat} {ds : List Dat} : G a = some (tupObj vs n) → Reps G vs ds → Rep G (.ref a) (.tup ds)
  | lst {a : Addr} {vs : List Value} {n : Nat} {ds : List Dat} : G a = some (listObj vs n) → Reps G vs ds → Rep G (.ref a) (.lst ds)
  | map {a : Addr} {o : Obj} {es : Array DictEntry} {ep : Nat} {f : Int → Option Int} : G a = some o → o.cls = .type "dict" → o.data = .dict es ep → IntKeys es →
      (∀ k, (findBy Value.isInt es k = Option.none ∧ f k = Option.none) ∨ ∃ i t, findBy Value.isInt es k = some (.int i t) ∧ f k = some i) → Rep G (.ref a) (.map f)
inductive Reps (G : PMap) : List Value → List Dat → Prop
  | nil : Reps G [] []
  | cons {v : Value} {vs : List Value} {d : Dat} {ds : List Dat} : Rep G v d → Reps G vs ds → Reps G (v :: vs) (d :: ds)
end

mutual
theorem Rep.mono {G G' : PMap} (hs : Sub G G') : ∀ {v : Value} {d : Dat}, Rep G v d → Rep G' v d
  | _, _, .none => .none
  | _, _, .bool b => .bool b
  | _, _, .int i t => .int i t
  | _, _, .str x t => .str x t
  | _, _, .tup h r => .tup (hs _ _ h) (Reps.mono hs r)
  | _, _, .lst h r => .lst (hs _ _ h) (Reps.mono hs r)
  | _, _, .map h a b c e => .map (hs _ _ h) a b c e
theorem Reps.mono {G G' : PMap} (hs : Sub G G') : ∀ {vs : List Value} {ds : List Dat}, Reps G vs ds → Reps G' vs ds
  | _, _, .nil => .nil
  | _, _, .cons h r => .cons (Rep.mono hs h) (Reps.mono hs r)
end

section
variable {G : PMap} {v : Value} {d : Dat} {vs ws : List Value} {ds es : List Dat}
theorem Reps.length (h : Reps G vs ds) : vs.length = ds.length := by
  induction vs generalizing ds with
  | nil => cases h; rfl
  | cons v vs ih => cases h with | cons _ r => rw [List.length_cons, List.length_cons, ih r]
theorem Reps.append (h : Reps G vs ds) (k : Reps G ws es) : Reps G (vs ++ ws) (ds ++ es) := by
  induction vs generalizing ds with
  | nil => cases h; exact k
  | cons v vs ih => cases h with | cons h r => exact .cons h (ih r)
theorem Reps.one (h : Rep G v d) : Reps G [v] [d] := .cons h .nil
theorem Reps.get (h : Reps G vs ds) {k : Nat} {d : Dat} (hk : ds[k]? = some d) : ∃ v, vs[k]? = some v ∧ Rep G v d := by
  induction vs generalizing ds k with
  | nil => cases h; simp at hk
  | cons v vs ih =>
    cases h with
    | cons h r =>
      cases k with
      | zero => simp at hk; subst hk; exact ⟨v, rfl, h⟩
      | succ k => exact ih r (by simpa using hk)
theorem Reps.getv (h : Reps G vs ds) {k : Nat} {v : Value} (hk : vs[k]? = some v) : ∃ d, ds[k]? = some d ∧ Rep G v d := by
  induction vs generalizing ds k with
  | nil => simp at hk
  | cons v vs ih =>
    cases h with
    | cons h r =>
      cases k with
      | zero => simp at hk; subst hk; exact ⟨_, rfl, h⟩
      | succ k => exact ih r (by simpa using hk)
theorem Reps.take (h : Reps G vs ds) (k : Nat) : Reps G (vs.take k) (ds.take k) := by
  induction vs generalizing ds k with
  | nil => cases h; simp; exact .nil
  | cons v vs ih =>
    cases h with
    | cons h r =>
      cases k with
      | zero => exact .nil
      | succ k => exact .cons h (ih r k)
theorem Reps.set (h : Reps G vs ds) {k : Nat} (hv : Rep G v d) : Reps G (vs.set k v) (ds.set k d) := by
  induction vs generalizing ds k with
  | nil => cases h; exact .nil
  | cons v vs ih =>
    cases h with
    | cons h r =>
      cases k with
      | zero => exact .cons hv r
      | succ k => exact .cons h (ih r)
end

/-- what a name holds: a settled datum, a list of the frame's own that may still change, a table int → True of its own -/
inductive Slot where
  | val (d : Dat)
  | lst (ds : List Dat)
  | set (ks : List Int)

noncomputable abbrev Sig := List (Str × Slot)

noncomputable def Slot.own : Slot → Bool
  | .val _ => false
  | _ => true

noncomputable def NsP (G : PMap) (a : Addr) (m : Str → Option Value) : Prop := ∃ o es ep, G a = some o ∧ o.data = .dict es ep ∧ StrKeys es ∧ ∀ name, nsFind es name = m name
theorem NsP.at {G : PMap} {h : Heap} {a : Addr} {m : Str → Option Value} (x : NsP G a m) (s : Sub G h.get?) : h.Ns a m := let ⟨o, es, ep, ho, r⟩ := x; ⟨o, es, ep, s _ _ ho, r⟩

structure Txt where
  prog : Program
  w : World
  H : PMap
  mg : Str → Option Value
  mb : Str → Option Value
  g : NsP H mainGlobals mg
  b : NsP H builtinsNs mb
  lim : ∃ mc, NsP H cStatics mc ∧ mc "sys.recursionlimit" = none
  sysm : ∃ o, H sysModules = some o

structure Act where
  T : Txt
  env : Env
  hg : env.globals = mainGlobals
  hb : env.builtins = builtinsNs
  /-- the one object of the text that may turn -/
  P : Option Addr
  X : Option Obj → Prop

/-- what a run may not touch: the heap at the entry, the settled part at the entry, the world without -/
structure Bs where
  B : PMap
  G₀ : PMap
  os : OsState

noncomputable def Room (k : Nat) (A : Around) : Prop := A.handled = none ∧ A.depth + 10 * k < recursionLimit ∧ A.units + 20 * k < cLine
theorem Room.le {k j : Nat} {A : Around} (h : Room k A) (hj : j ≤ k) : Room j A := ⟨h.1, by have := h.2.1; omega, by have := h.2.2; omega⟩

noncomputable def Loc (env : Env) (h : Heap) (x : Str) (v : Value) : Prop :=
  (env.kindOf x = some .local ∧ ∃ m, h.Ns env.locals m ∧ m x = some v) ∨
  ((env.kindOf x = some .cell ∨ env.kindOf x = some .free) ∧ ∃ c, env.cells.lookup x = some c ∧ h.IsCell c (some v))

noncomputable def OwnAt (G : PMap) (h : Heap) (a : Addr) : Slot → Prop
  | .val _ => True
  | .lst ds => ∃ vs n, h.get? a = some (listObj vs n) ∧ Reps G vs ds
  | .set ks => ∃ kvs : List (Int × Value), (∃ o, h.get? a = some o) ∧ (∀ prog w, h.DictOf (intKind prog w) a kvs) ∧ kvs.length ≤ ks.length ∧ ∀ k, (valueAt kvs k).isSome = decide (k ∈ ks)

/-- an address that is a frame's own -/
structure Priv (C : Act) (β : Bs) (G : PMap) (a : Addr) : Prop where
  g : G a = none
  b : β.B a = none
  p : C.P ≠ some a

noncomputable def CellK (env : Env) (x : Str) : Prop := env.kindOf x = some .cell ∨ env.kindOf x = some .free

structure OwnSlot (C : Act) (β : Bs) (G : PMap) (h : Heap) (x : Str) (a : Addr) (sl : Slot) : Prop where
  loc : Loc C.env h x (.ref a)
  at_ : OwnAt G h a sl
  priv : Priv C β G a
  offL : a ≠ C.env.locals
  offC : ∀ y c, CellK C.env y → C.env.cells.lookup y = some c → c ≠ a

noncomputable def SlotAt (C : Act) (β : Bs) (G : PMap) (h : Heap) (ad : Str → Addr) (x : Str) : Slot → Prop
  | .val d => ∃ v, Loc C.env h x v ∧ Rep G v d
  | .lst ds => OwnSlot C β G h x (ad x) (.lst ds)
  | .set ks => OwnSlot C β G h x (ad x) (.set ks)
theorem slotAt_own {C : Act} {β : Bs} {G : PMap} {h : Heap} {ad : Str → Addr} {x : Str} {sl : Slot} (ho : sl.own = true) : SlotAt C β G h ad x sl ↔ OwnSlot C β G h x (ad x) sl := by
  cases sl with
  | val d => cases ho
  | lst ds => exact Iff.rfl
  | set ks => exact Iff.rfl

structure Inv (C : Act) (β : Bs) (σ : Sig) (G : PMap) (s : Shared) : Prop where
  ns : ∃ m, s.heap.Ns C.env.locals m
  kind : C.env.scope.kind = .function
  text : Sub C.T.H G
  g0 : Sub β.G₀ G
  sub : Sub G s.heap.get?
  base : Sub β.B s.heap.get?
  old : ∀ b o, G b = some o → β.G₀ b = some o ∨ β.B b = none
  os : s.os = β.os
  gens : AllBare s.gens
  tab : ∀ p, C.P = some p → C.X (s.heap.get? p) ∧ s.heap.get? p ≠ none
  off : ∀ p, C.P = some p → β.B p = none ∧ G p = none
  privL : Priv C β G C.env.locals
  privC : ∀ x c, C.env.kindOf x = some .cell → C.env.cells.lookup x = some c → Priv C β G c
  cells : ∀ x c, CellK C.env x → C.env.cells.lookup x = some c → c ≠ C.env.locals ∧ C.P ≠ some c ∧ ∃ v, s.heap.IsCell c v
  apart : ∀ x y c, CellK C.env x → CellK C.env y → C.env.cells.lookup x = some c → C.env.cells.lookup y = some c → x = y
  vals : ∃ ad : Str → Addr, (∀ x sl, σ.lookup x = some sl → SlotAt C β G s.heap ad x sl) ∧
    (∀ x y sl sl', σ.lookup x = some sl → σ.lookup y = some sl' → sl.own = true → sl'.own = true → x ≠ y → ad x ≠ ad y)

theorem Loc.keep {env : Env} {h h' : Heap} {x : Str} {v : Value} (hk : ∀ o, h.get? env.locals = some o → h'.get? env.locals = some o)
    (hc : ∀ c o, CellK env x → env.cells.lookup x = some c → h.get? c = some o → h'.get? c = some o) (l : Loc env h x v) : Loc env h' x v := by
  rcases l with ⟨h1, m, ⟨o, es, ep, ho, r⟩, h3⟩ | ⟨h1, c, h2, o, ho, hd⟩
  · exact .inl ⟨h1, m, ⟨o, es, ep, hk _ ho, r⟩, h3⟩
  · exact .inr ⟨h1, c, h2, o, hc _ _ h1 h2 ho, hd⟩

theorem Loc.uniq {env : Env} {h : Heap} {x : Str} {v v' : Value} (a : Loc env h x v) (b : Loc env h x v') : v = v' := by
  rcases a with ⟨k1, m, ⟨o, es, ep, ho, hd, _, hf⟩, h3⟩ | ⟨k1, c, h2, o, ho, hd⟩ <;> rcases b with ⟨k2, m', ⟨o', es', ep', ho', hd', _, hf'⟩, h3'⟩ | ⟨k2, c', h2', o', ho', hd'⟩
  · rw [ho] at ho'; cases ho'; rw [hd] at hd'; cases hd'
    rw [← hf] at h3; rw [← hf'] at h3'; rw [h3] at h3'; exact Option.some.inj h3'
  · rw [k1] at k2; rcases k2 with e | e <;> cases e
  · rw [k2] at k1; rcases k1 with e | e <;> cases e
  · rw [h2] at h2'; cases h2'; rw [ho] at ho'; cases ho'; rw [hd] at hd'; cases hd'; rfl

theorem OwnAt.keep {G G' : PMap} {h h' : Heap} {a : Addr} {sl : Slot} (hs : Sub G G') (hk : ∀ o, h.get? a = some o → h'.get? a = some o) (x : OwnAt G h a sl) : OwnAt G' h' a sl := by
  cases sl with
  | val d => trivial
  | lst ds => obtain ⟨vs, n, h1, h2⟩ := x; exact ⟨vs, n, hk _ h1, h2.mono hs⟩
  | set ks =>
    obtain ⟨kvs, ⟨o, ho⟩, h1, h2, h3⟩ := x
    exact ⟨kvs, ⟨o, hk _ ho⟩, fun p w => let ⟨o, es, ep, ho, r⟩ := h1 p w; ⟨o, es, ep, hk _ ho, r⟩, h2, h3⟩

/-- an expression's run: nothing that stands is changed (but the text's one table), the settled part grows by new objects alone -/
structure Step (P : Option Addr) (X : Option Obj → Prop) (G : PMap) (s : Shared) (G' : PMap) (s' : Shared) : Prop where
  sub : Sub G G'
  keep : ∀ b o, s.heap.get? b = some o → P ≠ some b → s'.heap.get? b = some o
  dom : ∀ b, s'.heap.get? b = none → s.heap.get? b = none
  fresh : ∀ b o, G' b = some o → G b = some o ∨ s.heap.get? b = none
  sub' : Sub G' s'.heap.get?
  os : s'.os = s.os
  gens : AllBare s.gens → AllBare s'.gens
  tab : ∀ p, P = some p → X (s.heap.get? p) → X (s'.heap.get? p)

theorem Step.refl {P : Option Addr} {X : Option Obj → Prop} {G : PMap} {s : Shared} (h : Sub G s.heap.get?) : Step P X G s G s :=
  ⟨.refl _, fun _ _ e _ => e, fun _ e => e, fun _ _ e => .inl e, h, rfl, id, fun _ _ x => x⟩
theorem Step.trans {P : Option Addr} {X : Option Obj → Prop} {G G' G'' : PMap} {s s' s'' : Shared} (x : Step P X G s G' s') (y : Step P X G' s' G'' s'') : Step P X G s G'' s'' where
  sub := x.sub.trans y.sub
  keep := fun b o e n => y.keep b o (x.keep b o e n) n
  dom := fun b e => x.dom b (y.dom b e)
  fresh := fun b o e => (y.fresh b o e).elim (x.fresh b o) fun h => .inr (x.dom b h)
  sub' := y.sub'
  os := y.os.trans x.os
  gens := fun h => y.gens (x.gens h)
  tab := fun p hp h => y.tab p hp (x.tab p hp h)

/-- a call's run: all that stands is kept -/
noncomputable abbrev Grow (G : PMap) (s : Shared) (G' : PMap) (s' : Shared) : Prop := Step none (fun _ => True) G s G' s'
theorem Grow.step {P : Option Addr} {X : Option Obj → Prop} {G G' : PMap} {s s' : Shared} (x : Grow G s G' s') (hp : ∀ p, P = some p → s.heap.get? p ≠ none) : Step P X G s G' s' where
  sub := x.sub
  keep := fun b o e _ => x.keep b o e (by simp)
  dom := x.dom
  fresh := x.fresh
  sub' := x.sub'
  os := x.os
  gens := x.gens
  tab := fun p hp' hx => by
    cases h : s.heap.get? p with
    | none => exact absurd h (hp p hp')
    | some o => rw [x.keep p o h (by simp)]; rw [h] at hx; exact hx

theorem Priv.step {C : Act} {β : Bs} {G G' : PMap} {s s' : Shared} {a : Addr} (x : Priv C β G a) (st : Step C.P C.X G s G' s') (ha : ∃ o, s.heap.get? a = some o) : Priv C β G' a := by
  refine ⟨?_, x.b, x.p⟩
  cases h : G' a with
  | none => rfl
  | some o =>
    rcases st.fresh _ _ h with e | e
    · rw [x.g] at e; cases e
    · obtain ⟨o, ho⟩ := ha; rw [ho] at e; cases e

theorem Inv.L {C : Act} {β : Bs} {σ : Sig} {G : PMap} {s : Shared} (I : Inv C β σ G s) : ∃ o, s.heap.get? C.env.locals = some o := let ⟨_, o, _, _, ho, _⟩ := I.ns; ⟨o, ho⟩

theorem OwnAt.ex {G : PMap} {h : Heap} {a : Addr} {sl : Slot} (ho : sl.own = true) (x : OwnAt G h a sl) : ∃ o, h.get? a = some o := by
  cases sl with
  | val d => cases ho
  | lst ds => obtain ⟨vs, n, h1, _⟩ := x; exact ⟨_, h1⟩
  | set ks => obtain ⟨kvs, h1, _⟩ := x; exact h1

theorem OwnSlot.keep {C : Act} {β : Bs} {G G' : PMap} {h h' : Heap} {a : Addr} {x : Str} {sl : Slot} (hs : Sub G G')
    (hk : ∀ o, h.get? C.env.locals = some o → h'.get? C.env.locals = some o)
    (hc : ∀ c o, CellK C.env x → C.env.cells.lookup x = some c → h.get? c = some o → h'.get? c = some o)
    (h1 : ∀ o, h.get? a = some o → h'.get? a = some o) (h2 : Priv C β G' a) (s : OwnSlot C β G h x a sl) : OwnSlot C β G' h' x a sl :=
  ⟨s.loc.keep hk hc, s.at_.keep hs h1, h2, s.offL, s.offC⟩

theorem SlotAt.keep {C : Act} {β : Bs} {G G' : PMap} {h h' : Heap} {ad : Str → Addr} {x : Str} {sl : Slot} (hs : Sub G G')
    (hk : ∀ o, h.get? C.env.locals = some o → h'.get? C.env.locals = some o)
    (hc : ∀ c o, CellK C.env x → C.env.cells.lookup x = some c → h.get? c = some o → h'.get? c = some o)
    (ho : sl.own = true → OwnSlot C β G h x (ad x) sl → (∀ o, h.get? (ad x) = some o → h'.get? (ad x) = some o) ∧ Priv C β G' (ad x))
    (s : SlotAt C β G h ad x sl) : SlotAt C β G' h' ad x sl := by
  by_cases hw : sl.own = true
  · rw [slotAt_own hw] at s ⊢
    obtain ⟨h1, h2⟩ := ho hw s
    exact s.keep hs hk hc h1 h2
  · cases sl with
    | val d => obtain ⟨v, h1, h2⟩ := s; exact ⟨v, h1.keep hk hc, h2.mono hs⟩
    | lst ds => exact absurd rfl hw
    | set ks => exact absurd rfl hw

theorem Inv.step {C : Act} {β : Bs} {σ : Sig} {G G' : PMap} {s s' : Shared} (I : Inv C β σ G s) (st : Step C.P C.X G s G' s') : Inv C β σ G' s' := by
  have kL : ∀ o, s.heap.get? C.env.locals = some o → s'.heap.get? C.env.locals = some o := fun o e => st.keep _ o e I.privL.p
  have kC : ∀ x c o, CellK C.env x → C.env.cells.lookup x = some c → s.heap.get? c = some o → s'.heap.get? c = some o :=
    fun x c o hk hc e => st.keep _ o e (I.cells x c hk hc).2.1
  obtain ⟨ad, v1, v2⟩ := I.vals
  refine ⟨?_, I.kind, I.text.trans st.sub, I.g0.trans st.sub, st.sub', ?_, ?_, st.os.trans I.os, st.gens I.gens, ?_, ?_, I.privL.step st I.L, ?_, ?_, I.apart, ad, ?_, v2⟩
  · obtain ⟨m, o, es, ep, ho, r⟩ := I.ns; exact ⟨m, o, es, ep, kL _ ho, r⟩
  · intro b o e
    exact st.keep b o (I.base b o e) fun hp => by rw [(I.off b hp).1] at e; cases e
  · intro b o e
    rcases st.fresh b o e with h | h
    · exact I.old b o h
    · refine .inr ?_
      cases hb : β.B b with
      | none => rfl
      | some o' => rw [I.base b o' hb] at h; cases h
  · intro p hp
    exact ⟨st.tab p hp (I.tab p hp).1, fun e => (I.tab p hp).2 (st.dom p e)⟩
  · intro p hp
    refine ⟨(I.off p hp).1, ?_⟩
    cases h : G' p with
    | none => rfl
    | some o =>
      rcases st.fresh _ _ h with e | e
      · rw [(I.off p hp).2] at e; cases e
      · exact absurd e (I.tab p hp).2
  · intro x c hk hc
    obtain ⟨_, _, v, o, ho, _⟩ := I.cells x c (.inl hk) hc
    exact (I.privC x c hk hc).step st ⟨o, ho⟩
  · intro x c hk hc
    obtain ⟨h1, h2, v, o, ho, hd⟩ := I.cells x c hk hc
    exact ⟨h1, h2, v, o, kC x c o hk hc ho, hd⟩
  · intro x sl hx
    refine (v1 x sl hx).keep st.sub kL (fun c o hk hc e => kC x c o hk hc e) fun ho S => ?_
    exact ⟨fun o e => st.keep _ o e S.priv.p, S.priv.step st (S.at_.ex ho)⟩
/-- a write at one address of the frame's own, the names seen anew -/
theorem Inv.write {C : Act} {β : Bs} {σ σ' : Sig} {G : PMap} {s : Shared} {h' : Heap} {tk : Nat} {a : Addr} (I : Inv C β σ G s) (hp : Priv C β G a) (hs : Heap.SameBut a s.heap h')
    (hns : ∃ m, h'.Ns C.env.locals m) (hcell : ∀ x c, CellK C.env x → C.env.cells.lookup x = some c → ∃ v, h'.IsCell c v)
    (hv : ∃ ad : Str → Addr, (∀ x sl, σ'.lookup x = some sl → SlotAt C β G h' ad x sl) ∧
      (∀ x y sl sl', σ'.lookup x = some sl → σ'.lookup y = some sl' → sl.own = true → sl'.own = true → x ≠ y → ad x ≠ ad y)) : Inv C β σ' G { s with heap := h', toks := tk } := by
  have ne : ∀ (b : Addr) (o : Obj) (H : PMap), H a = none → H b = some o → b ≠ a := fun b o H h1 h2 e => by rw [e, h1] at h2; cases h2
  refine ⟨hns, I.kind, I.text, I.g0, ?_, ?_, I.old, I.os, I.gens, ?_, I.off, I.privL, I.privC, ?_, I.apart, hv⟩
  · intro b o e; exact (hs.2 b (ne b o G hp.g e)).trans (I.sub b o e)
  · intro b o e; exact (hs.2 b (ne b o β.B hp.b e)).trans (I.base b o e)
  · intro p hq
    have : p ≠ a := fun e => hp.p (e ▸ hq)
    show C.X (h'.get? p) ∧ h'.get? p ≠ none
    rw [hs.2 p this]; exact I.tab p hq
  · intro x c hk hc
    obtain ⟨h1, h2, _⟩ := I.cells x c hk hc
    exact ⟨h1, h2, hcell x c hk hc⟩

theorem lookup_cons_self {α : Type} (x : Str) (v : α) (l : List (Str × α)) : ((x, v) :: l).lookup x = some v := by simp
theorem lookup_cons_ne {α : Type} {x y : Str} (v : α) (l : List (Str × α)) (h : y ≠ x) : ((x, v) :: l).lookup y = l.lookup y := by
  rw [List.lookup_cons]; have : (y == x) = false := beq_eq_false_iff_ne.mpr h
  rw [this]

/-- storing at a name: the heap is the old one but at the name's own place -/
theorem Inv.setAt {C : Act} {β : Bs} {σ : Sig} {G : PMap} {s : Shared} {h' : Heap} {tk : Nat} {x : Str} {v : Value} {sl : Slot} {pl : Addr} (I : Inv C β σ G s)
    (hpl : Priv C β G pl) (hs : Heap.SameBut pl s.heap h') (hns : ∃ m, h'.Ns C.env.locals m) (hcell : ∀ x c, CellK C.env x → C.env.cells.lookup x = some c → ∃ v, h'.IsCell c v)
    (hown : ∀ y a sl', y ≠ x → σ.lookup y = some sl' → sl'.own = true → OwnSlot C β G s.heap y a sl' → a ≠ pl)
    (locx : Loc C.env h' x v) (locy : ∀ y u, y ≠ x → Loc C.env s.heap y u → Loc C.env h' y u)
    (hv : (∃ d, sl = .val d ∧ Rep G v d) ∨ (sl.own = true ∧ ∃ a, v = .ref a ∧ OwnAt G h' a sl ∧ Priv C β G a ∧ a ≠ C.env.locals ∧ (∀ y c, CellK C.env y → C.env.cells.lookup y = some c → c ≠ a) ∧
      ∀ y b sl', y ≠ x → σ.lookup y = some sl' → sl'.own = true → OwnSlot C β G s.heap y b sl' → b ≠ a)) :
    Inv C β ((x, sl) :: σ) G { s with heap := h', toks := tk } := by
  obtain ⟨ad, v1, v2⟩ := I.vals
  have slots : ∀ (ad' : Str → Addr) y sl', y ≠ x → ad' y = ad y → σ.lookup y = some sl' → SlotAt C β G h' ad' y sl' := by
    intro ad' y sl' hy ha hl
    have S := v1 y sl' hl
    by_cases hw : sl'.own = true
    · rw [slotAt_own hw] at S ⊢
      rw [ha]
      exact ⟨locy y _ hy S.loc, S.at_.keep (.refl _) (fun o e => (hs.2 _ (hown y _ sl' hy hl hw S)).trans e), S.priv, S.offL, S.offC⟩
    · cases sl' with
      | val d => obtain ⟨u, h1, h2⟩ := S; exact ⟨u, locy y u hy h1, h2⟩
      | lst ds => exact absurd rfl hw
      | set ks => exact absurd rfl hw
  refine I.write hpl hs hns hcell ?_
  rcases hv with ⟨d, rfl, hr⟩ | ⟨ho, a, rfl, h2, h3, h4, h5, h6⟩
  · refine ⟨ad, fun y sl' hl => ?_, fun y z sl1 sl2 hy hz o1 o2 hne => ?_⟩
    · by_cases hy : y = x
      · subst hy; rw [lookup_cons_self] at hl; cases hl; exact ⟨v, locx, hr⟩
      · rw [lookup_cons_ne _ _ hy] at hl; exact slots ad y sl' hy rfl hl
    · by_cases hy' : y = x
      · subst hy'; rw [lookup_cons_self] at hy; cases hy; cases o1
      · by_cases hz' : z = x
        · subst hz'; rw [lookup_cons_self] at hz; cases hz; cases o2
        · rw [lookup_cons_ne _ _ hy'] at hy; rw [lookup_cons_ne _ _ hz'] at hz
          exact v2 y z sl1 sl2 hy hz o1 o2 hne
  · refine ⟨fun y => if y = x then a else ad y, fun y sl' hl => ?_, fun y z sl1 sl2 hy hz o1 o2 hne => ?_⟩
    · by_cases hy : y = x
      · subst hy; rw [lookup_cons_self] at hl; cases hl
        rw [slotAt_own ho, if_pos rfl]
        exact ⟨locx, h2, h3, h4, h5⟩
      · rw [lookup_cons_ne _ _ hy] at hl; exact slots _ y sl' hy (if_neg hy) hl
    · dsimp only
      by_cases hy' : y = x
      · by_cases hz' : z = x
        · exact absurd (hy'.trans hz'.symm) hne
        · rw [if_pos hy', if_neg hz']
          rw [lookup_cons_ne _ _ hz'] at hz
          exact (h6 z _ sl2 hz' hz o2 ((slotAt_own o2).mp (v1 z sl2 hz))).symm
      · rw [if_neg hy']
        rw [lookup_cons_ne _ _ hy'] at hy
        by_cases hz' : z = x
        · rw [if_pos hz']; exact h6 y _ sl1 hy' hy o1 ((slotAt_own o1).mp (v1 y sl1 hy))
        · rw [if_neg hz']; rw [lookup_cons_ne _ _ hz'] at hz; exact v2 y z sl1 sl2 hy hz o1 o2 hne

/-- a value to be stored: a settled datum, or a fresh object that no name holds -/
inductive Given (C : Act) (β : Bs) (σ : Sig) (G : PMap) (s : Shared) : Value → Slot → Prop
  | val {v : Value} {d : Dat} : Rep G v d → Given C β σ G s v (.val d)
  | own {a : Addr} {sl : Slot} : sl.own = true → OwnAt G s.heap a sl → Priv C β G a → a ≠ C.env.locals → (∀ y c, CellK C.env y → C.env.cells.lookup y = some c → c ≠ a) →
      (∀ y b sl', σ.lookup y = some sl' → sl'.own = true → OwnSlot C β G s.heap y b sl' → b ≠ a) → Given C β σ G s (.ref a) sl

theorem Given.toV {C : Act} {β : Bs} {σ : Sig} {G : PMap} {s : Shared} {h' : Heap} {pl : Addr} {v : Value} {sl : Slot} {x : Str} (g : Given C β σ G s v sl) (hs : Heap.SameBut pl s.heap h') (hpl : ∀ a, v = .ref a → sl.own = true → a ≠ pl) :
    (∃ d, sl = .val d ∧ Rep G v d) ∨ (sl.own = true ∧ ∃ a, v = .ref a ∧ OwnAt G h' a sl ∧ Priv C β G a ∧ a ≠ C.env.locals ∧ (∀ y c, CellK C.env y → C.env.cells.lookup y = some c → c ≠ a) ∧
      ∀ y b sl', y ≠ x → σ.lookup y = some sl' → sl'.own = true → OwnSlot C β G s.heap y b sl' → b ≠ a) := by
  cases g with
  | val h => exact .inl ⟨_, rfl, h⟩
  | own h1 h2 h3 h4 h5 h6 => exact .inr ⟨h1, _, rfl, h2.keep (.refl _) (fun o e => (hs.2 _ (hpl _ rfl h1)).trans e), h3, h4, h5, fun y b sl' _ => h6 y b sl'⟩

theorem wpAny_storeLocal {C : Act} {β : Bs} {σ : Sig} {G : PMap} {s : Shared} {A : Around} {x : Str} {v : Value} {sl : Slot} {Q : Unit → Shared → Prop} {E : Value → Shared → Prop} (I : Inv C β σ G s)
    (hk : C.env.kindOf x = some .local) (g : Given C β σ G s v sl)
    (h : ∀ h' tk, Inv C β ((x, sl) :: σ) G { s with heap := h', toks := tk } → Heap.SameBut C.env.locals s.heap h' → (Loc C.env h' x v ∧ ∀ y u, y ≠ x → Loc C.env s.heap y u → Loc C.env h' y u) → Q () { s with heap := h', toks := tk }) :
    wpAny (model C.T.prog C.T.w) A (storeName C.env x v) Q E s := by
  obtain ⟨m, hn⟩ := I.ns
  refine wpAny_storeName_local hk hn (fun h' hn' hs => ?_) (by rw [I.kind]; rfl)
  have kc : ∀ y c o, CellK C.env y → C.env.cells.lookup y = some c → s.heap.get? c = some o → h'.get? c = some o := fun y c o hk hc e => (hs.2 c (I.cells y c hk hc).1).trans e
  have locx : Loc C.env h' x v := .inl ⟨hk, _, hn', by simp⟩
  have locy : ∀ y u, y ≠ x → Loc C.env s.heap y u → Loc C.env h' y u := by
    rintro y u hy (⟨h1, m', hm', h3⟩ | ⟨h1, c, h2, o, ho, hd⟩)
    · refine .inl ⟨h1, _, hn', ?_⟩
      rw [if_neg hy]
      obtain ⟨o, es, ep, ho, hd, _, hf⟩ := hm'
      obtain ⟨o', es', ep', ho', hd', _, hf'⟩ := hn
      rw [ho] at ho'; cases ho'; rw [hd] at hd'; cases hd'
      rw [← hf', hf]; exact h3
    · exact .inr ⟨h1, c, h2, o, kc y c o h1 h2 ho, hd⟩
  refine h h' _ (I.setAt I.privL hs ⟨_, hn'⟩ (fun y c hk hc => ?_) (fun y a sl' _ _ _ S => S.offL) locx locy (g.toV hs fun a e ho => ?_)) hs ⟨locx, locy⟩
  · obtain ⟨_, _, u, o, ho, hd⟩ := I.cells y c hk hc
    exact ⟨u, o, kc y c o hk hc ho, hd⟩
  · cases g with
    | val h => cases ho
    | own h1 h2 h3 h4 h5 h6 => cases e; exact h4

theorem wpAny_store {C : Act} {β : Bs} {σ : Sig} {G : PMap} {s : Shared} {A : Around} {x : Str} {v : Value} {sl : Slot} {Q : Unit → Shared → Prop} {E : Value → Shared → Prop} (I : Inv C β σ G s)
    (hk : C.env.kindOf x = some .local ∨ (C.env.kindOf x = some .cell ∧ ∃ c, C.env.cells.lookup x = some c)) (g : Given C β σ G s v sl)
    (h : ∀ h' tk, Inv C β ((x, sl) :: σ) G { s with heap := h', toks := tk } → Q () { s with heap := h', toks := tk }) : wpAny (model C.T.prog C.T.w) A (storeName C.env x v) Q E s := by
  rcases hk with hk | ⟨hk, c, hc⟩
  · exact wpAny_storeLocal I hk g fun h' tk I' _ _ => h h' tk I'
  · obtain ⟨e1, e2, u, hu⟩ := I.cells x c (.inl hk) hc
    refine wpAny_storeName_cell I.kind hk hc hu fun h' hc' hs => h h' _ ?_
    have hL : ∀ o, s.heap.get? C.env.locals = some o → h'.get? C.env.locals = some o := fun o e => (hs.2 _ (Ne.symm e1)).trans e
    refine I.setAt (I.privC x c hk hc) hs ?_ (fun y c' hk' hc'' => ?_) (fun y a sl' _ _ _ S => (S.offC x c (.inl hk) hc).symm) (.inr ⟨.inl hk, c, hc, hc'⟩) ?_ (g.toV hs fun a e ho => ?_)
    · obtain ⟨m, o, es, ep, ho, r⟩ := I.ns; exact ⟨m, o, es, ep, hL _ ho, r⟩
    · by_cases e : c' = c
      · exact ⟨_, e ▸ hc'⟩
      · obtain ⟨_, _, u, o, ho, hd⟩ := I.cells y c' hk' hc''
        exact ⟨u, o, (hs.2 _ e).trans ho, hd⟩
    · intro y u hy l
      refine l.keep hL fun c' o hk' hc'' e => (hs.2 _ fun e' => hy ?_).trans e
      exact I.apart y x c hk' (.inl hk) (e' ▸ hc'') hc
    · cases g with
      | val h => cases ho
      | own h1 h2 h3 h4 h5 h6 => cases e; exact (h5 x c (.inl hk) hc).symm

/-- a change of an object of the frame's own -/
theorem Inv.setOwn {C : Act} {β : Bs} {σ : Sig} {G : PMap} {s : Shared} {h' : Heap} {tk : Nat} {x : Str} {a : Addr} {sl sl' : Slot} (I : Inv C β σ G s) (hx : σ.lookup x = some sl) (ho : sl.own = true) (S : OwnSlot C β G s.heap x a sl)
    (hs : Heap.SameBut a s.heap h') (ho' : sl'.own = true) (hat : OwnAt G h' a sl') : Inv C β ((x, sl') :: σ) G { s with heap := h', toks := tk } := by
  have kL : ∀ o, s.heap.get? C.env.locals = some o → h'.get? C.env.locals = some o := fun o e => (hs.2 _ (Ne.symm S.offL)).trans e
  have kC : ∀ y c o, CellK C.env y → C.env.cells.lookup y = some c → s.heap.get? c = some o → h'.get? c = some o := fun y c o hk hc e => (hs.2 _ (S.offC y c hk hc)).trans e
  have other : ∀ y b sl', y ≠ x → σ.lookup y = some sl' → sl'.own = true → OwnSlot C β G s.heap y b sl' → b ≠ a := by
    intro y b sl2 hy hl hw T
    obtain ⟨ad, v1, v2⟩ := I.vals
    have := ((slotAt_own hw).mp (v1 y sl2 hl)).loc.uniq T.loc
    cases this
    have := ((slotAt_own ho).mp (v1 x sl hx)).loc.uniq S.loc
    cases this
    exact v2 y x sl2 sl hl hx hw ho hy
  refine I.setAt S.priv hs ?_ (fun y c hk hc => ?_) other (S.loc.keep kL fun c o hk hc e => kC x c o hk hc e) (fun y u _ l => l.keep kL fun c o hk hc e => kC y c o hk hc e) (.inr ⟨ho', a, rfl, hat, S.priv, S.offL, S.offC, other⟩)
  · obtain ⟨m, o, es, ep, ho, r⟩ := I.ns; exact ⟨m, o, es, ep, kL _ ho, r⟩
  · obtain ⟨_, _, v, o, ho, hd⟩ := I.cells y c hk hc; exact ⟨v, o, kC y c o hk hc ho, hd⟩

/-- a name whose object is the frame's own is settled -/
theorem Inv.freeze {C : Act} {β : Bs} {σ : Sig} {G : PMap} {s : Shared} {x : Str} {ds : List Dat} (I : Inv C β σ G s) (hx : σ.lookup x = some (.lst ds)) :
    ∃ G', Sub G G' ∧ Inv C β ((x, .val (.lst ds)) :: σ) G' s := by
  obtain ⟨ad, v1, v2⟩ := I.vals
  have S : OwnSlot C β G s.heap x (ad x) (.lst ds) := v1 x _ hx
  obtain ⟨vs, n, hg, hr⟩ := S.at_
  have sub : Sub G (fun b => if b = ad x then some (listObj vs n) else G b) := fun b o e => by
    have : b ≠ ad x := fun h => by rw [h, S.priv.g] at e; cases e
    show (if b = ad x then _ else _) = _
    rw [if_neg this]; exact e
  have priv : ∀ a, a ≠ ad x → Priv C β G a → Priv C β (fun b => if b = ad x then some (listObj vs n) else G b) a := fun a ha p => ⟨by show (if a = ad x then _ else _) = _; rw [if_neg ha]; exact p.g, p.b, p.p⟩
  refine ⟨_, sub, I.ns, I.kind, I.text.trans sub, I.g0.trans sub, ?_, I.base, ?_, I.os, I.gens, I.tab, ?_, priv _ (Ne.symm S.offL) I.privL, ?_, I.cells, I.apart, ad, ?_, ?_⟩
  · intro b o e
    by_cases hb : b = ad x
    · simp only [hb, if_true] at e; cases e; rw [hb]; exact hg
    · simp only [hb, if_false] at e; exact I.sub b o e
  · intro b o e
    by_cases hb : b = ad x
    · rw [hb]; exact .inr S.priv.b
    · simp only [hb, if_false] at e; exact I.old b o e
  · intro p hp
    refine ⟨(I.off p hp).1, ?_⟩
    have : p ≠ ad x := fun e => S.priv.p (e ▸ hp)
    show (if p = ad x then _ else _) = _
    rw [if_neg this]; exact (I.off p hp).2
  · intro y c hk hc
    exact priv _ (S.offC y c (.inl hk) hc) (I.privC y c hk hc)
  · intro y sl hl
    by_cases hy : y = x
    · subst hy; rw [lookup_cons_self] at hl; cases hl
      exact ⟨_, S.loc, .lst (by show (if ad y = ad y then _ else _) = _; rw [if_pos rfl]) (hr.mono sub)⟩
    · rw [lookup_cons_ne _ _ hy] at hl
      refine (v1 y sl hl).keep sub (fun _ e => e) (fun _ _ _ _ e => e) fun ho T => ⟨fun _ e => e, ?_⟩
      exact priv _ (v2 y x sl _ hl hx ho rfl hy) T.priv
  · intro y z sl1 sl2 hy hz o1 o2 hne
    by_cases hy' : y = x
    · subst hy'; rw [lookup_cons_self] at hy; cases hy; cases o1
    · by_cases hz' : z = x
      · subst hz'; rw [lookup_cons_self] at hz; cases hz; cases o2
      · rw [lookup_cons_ne _ _ hy'] at hy; rw [lookup_cons_ne _ _ hz'] at hz
        exact v2 y z sl1 sl2 hy hz o1 o2 hne

/-- fewer names -/
theorem Inv.weaken {C : Act} {β : Bs} {σ σ' : Sig} {G : PMap} {s : Shared} (I : Inv C β σ G s) (hw : ∀ x sl, σ'.lookup x = some sl → σ.lookup x = some sl) : Inv C β σ' G s := by
  obtain ⟨ad, v1, v2⟩ := I.vals
  exact ⟨I.ns, I.kind, I.text, I.g0, I.sub, I.base, I.old, I.os, I.gens, I.tab, I.off, I.privL, I.privC, I.cells, I.apart, ad, fun x sl h => v1 x sl (hw x sl h), fun x y sl sl' h1 h2 => v2 x y sl sl' (hw _ _ h1) (hw _ _ h2)⟩

noncomputable def PMap.add (G : PMap) (a : Addr) (o : Obj) : PMap := fun b => if b = a then some o else G b
theorem PMap.add_self (G : PMap) (a : Addr) (o : Obj) : G.add a o a = some o := if_pos rfl
theorem PMap.add_ne (G : PMap) {a b : Addr} (o : Obj) (h : b ≠ a) : G.add a o b = G b := if_neg h

theorem get?_size {h : Heap} : h.get? h.objs.size = none := by
  cases e : h.get? h.objs.size with
  | none => rfl
  | some o => exact absurd (Heap.lt_size e) (Nat.lt_irrefl _)

theorem Grow.toks {G : PMap} {s : Shared} {tk : Nat} (h : Sub G s.heap.get?) : Grow G s G { s with toks := tk } :=
  ⟨.refl _, fun _ _ e _ => e, fun _ e => e, fun _ _ e => .inl e, h, rfl, id, fun _ _ x => x⟩
theorem Grow.alloc {G : PMap} {s : Shared} {o : Obj} {tk : Nat} (h : Sub G s.heap.get?) : Grow G s G { s with heap := s.heap.push o, toks := tk } where
  sub := .refl _
  keep := fun _ _ e _ => Heap.get?_push_of_some _ e
  dom := fun b e => by
    cases hb : s.heap.get? b with
    | none => rfl
    | some o' => have := Heap.get?_push_of_some o hb; rw [show (s.heap.push o).get? b = none from e] at this; cases this
  fresh := fun _ _ e => .inl e
  sub' := fun b o' e => Heap.get?_push_of_some _ (h b o' e)
  os := rfl
  gens := id
  tab := fun _ hp => by cases hp
theorem Grow.allocG {G : PMap} {s : Shared} {o : Obj} {tk : Nat} (h : Sub G s.heap.get?) (ho : o.isFreed = false) : Grow G s (G.add s.heap.objs.size o) { s with heap := s.heap.push o, toks := tk } := by
  have hn : G s.heap.objs.size = none := by
    cases e : G s.heap.objs.size with
    | none => rfl
    | some o' => have := h _ _ e; rw [get?_size] at this; cases this
  have A := Grow.alloc (o := o) (tk := tk) h
  refine ⟨fun b o' e => ?_, A.keep, A.dom, fun b o' e => ?_, fun b o' e => ?_, rfl, id, A.tab⟩
  · by_cases hb : b = s.heap.objs.size
    · rw [hb, hn] at e; cases e
    · rw [PMap.add_ne _ _ hb]; exact e
  · by_cases hb : b = s.heap.objs.size
    · rw [hb]; exact .inr get?_size
    · rw [PMap.add_ne _ _ hb] at e; exact .inl e
  · by_cases hb : b = s.heap.objs.size
    · rw [hb, PMap.add_self] at e; cases e; rw [hb]; exact Heap.get?_push_size _ ho
    · rw [PMap.add_ne _ _ hb] at e; exact Heap.get?_push_of_some _ (h b o' e)

noncomputable abbrev Stp (C : Act) := Step C.P C.X
theorem Inv.grow {C : Act} {β : Bs} {σ : Sig} {G G' : PMap} {s s' : Shared} (I : Inv C β σ G s) (g : Grow G s G' s') : Stp C G s G' s' := g.step fun p hp => (I.tab p hp).2

/-- expressions -/
noncomputable def Ev (C : Act) (k : Nat) (σ : Sig) (e : Expr) (d : Dat) : Prop :=
  ∀ (β : Bs) (A : Around) (G : PMap) (s : Shared) (Q : Value → Shared → Prop) (E : Value → Shared → Prop), Room k A → Inv C β σ G s →
    (∀ G' s' v, Stp C G s G' s' → Rep G' v d → Q v s') → wpAny (model C.T.prog C.T.w) A (eval e C.env) Q E s
/-- a list, read where it stands -/
noncomputable def EvB (C : Act) (k : Nat) (σ : Sig) (e : Expr) (ds : List Dat) : Prop :=
  ∀ (β : Bs) (A : Around) (G : PMap) (s : Shared) (Q : Value → Shared → Prop) (E : Value → Shared → Prop), Room k A → Inv C β σ G s →
    (∀ G' s' a vs n, Stp C G s G' s' → C.P ≠ some a → s'.heap.get? a = some (listObj vs n) → Reps G' vs ds → Q (.ref a) s') → wpAny (model C.T.prog C.T.w) A (eval e C.env) Q E s
/-- a new list -/
noncomputable def EvF (C : Act) (k : Nat) (σ : Sig) (e : Expr) (ds : List Dat) : Prop :=
  ∀ (β : Bs) (A : Around) (G : PMap) (s : Shared) (Q : Value → Shared → Prop) (E : Value → Shared → Prop), Room k A → Inv C β σ G s →
    (∀ G' s' a vs n, Stp C G s G' s' → s.heap.get? a = none → G' a = none → s'.heap.get? a = some (listObj vs n) → Reps G' vs ds → Q (.ref a) s') → wpAny (model C.T.prog C.T.w) A (eval e C.env) Q E s
/-- tests -/
noncomputable def Tr (C : Act) (k : Nat) (σ : Sig) (e : Expr) (b : Bool) : Prop :=
  ∀ (β : Bs) (A : Around) (G : PMap) (s : Shared) (Q : Bool → Shared → Prop) (E : Value → Shared → Prop), Room k A → Inv C β σ G s →
    (∀ G' s', Stp C G s G' s' → Q b s') → wpAny (model C.T.prog C.T.w) A (isTrue e C.env (eval e C.env)) Q E s
/-- the items of a display, the arguments of a call -/
noncomputable def EvL (C : Act) (k : Nat) (σ : Sig) (es : List Expr) (ds : List Dat) : Prop :=
  ∀ (β : Bs) (A : Around) (G : PMap) (s : Shared) (pos : Pos) (Q : List Value → Shared → Prop) (E : Value → Shared → Prop), Room k A → Inv C β σ G s →
    (∀ G' s' vs, Stp C G s G' s' → Reps G' vs ds → Q vs s') → wpAny (model C.T.prog C.T.w) A (spliced (backTo pos (starEach es C.env))) Q E s

section
variable {C : Act} {β : Bs} {k : Nat} {σ : Sig}

theorem EvF.ev {e : Expr} {ds : List Dat} (h : EvF C k σ e ds) : Ev C k σ e (.lst ds) := by
  intro β A G s Q E hr I hq
  refine h β A G s Q E hr I fun G' s' a vs n st h0 hg ha hd => ?_
  have sub : Sub G' (G'.add a (listObj vs n)) := fun b o e => by
    have : b ≠ a := fun h => by rw [h, hg] at e; cases e
    rw [PMap.add_ne _ _ this]; exact e
  refine hq (G'.add a (listObj vs n)) s' _ ?_ (.lst (PMap.add_self ..) (hd.mono sub))
  refine ⟨st.sub.trans sub, st.keep, st.dom, fun b o e => ?_, fun b o e => ?_, st.os, st.gens, st.tab⟩
  · by_cases hb : b = a
    · rw [hb]; exact .inr h0
    · rw [PMap.add_ne _ _ hb] at e; exact st.fresh b o e
  · by_cases hb : b = a
    · rw [hb, PMap.add_self] at e; cases e; rw [hb]; exact ha
    · rw [PMap.add_ne _ _ hb] at e; exact st.sub' b o e

theorem Ev.b {e : Expr} {ds : List Dat} (h : Ev C k σ e (.lst ds)) : EvB C k σ e ds := by
  intro β A G s Q E hr I hq
  refine h β A G s Q E hr I fun G' s' v st hv => ?_
  cases hv with
  | lst ha hd =>
    refine hq G' s' _ _ _ st (fun hp => ?_) (st.sub' _ _ ha) hd
    rw [((I.step st).off _ hp).2] at ha; cases ha

theorem ev_int {i : Int} {kk : Nat} {pos : Pos} : Ev C k σ (.Constant (.int i) kk pos) (.int i) :=
  fun β A G s Q E _ I h => wpAny_Constant_int (h G _ _ (I.grow (Grow.toks I.sub)) (.int _ _))
theorem ev_str {x : Str} {kk : Nat} {pos : Pos} : Ev C k σ (.Constant (.str x) kk pos) (.str x) :=
  fun β A G s Q E _ I h => wpAny_Constant_str (h G _ _ (I.grow (Grow.toks I.sub)) (.str _ _))
theorem ev_bool {b : Bool} {kk : Nat} {pos : Pos} : Ev C k σ (.Constant (.bool b) kk pos) (.bool b) :=
  fun β A G s Q E _ I h => wpAny_Constant_bool (h G _ _ (Step.refl I.sub) (.bool _))

theorem loadLoc {A : Around} {G : PMap} {s : Shared} {x : Str} {v : Value} {Q : Value → Shared → Prop} {E : Value → Shared → Prop} (I : Inv C β σ G s) (l : Loc C.env s.heap x v) (hq : Q v s)
    (hn : (x == ("__classdict__" : Str)) = false) : wpAny (model C.T.prog C.T.w) A (loadName C.env x) Q E s := by
  rcases l with ⟨h1, m, h2, h3⟩ | ⟨h1 | h1, c, h2, h3⟩
  · exact wpAny_loadName_local I.kind h1 h2 h3 hq
  · exact wpAny_loadName_cell I.kind h1 h2 h3 hq
  · exact wpAny_loadName_free I.kind h1 h2 h3 hq hn

/-- names that the machine does not keep for itself -/
noncomputable def plainName (x : Str) : Bool := x != ("__classdict__" : Str) && x != ("__debug__" : Str)
theorem plainName.c {x : Str} (h : plainName x = true) : (x == ("__classdict__" : Str)) = false := by unfold plainName at h; simp only [bne, Bool.and_eq_true, Bool.not_eq_true'] at h; exact h.1
theorem plainName.d {x : Str} (h : plainName x = true) : (x == ("__debug__" : Str)) = false := by unfold plainName at h; simp only [bne, Bool.and_eq_true, Bool.not_eq_true'] at h; exact h.2

theorem ev_name {x : Str} {pos : Pos} {d : Dat} (hx : σ.lookup x = some (.val d)) (hn : plainName x = true) : Ev C k σ (.Name x pos) d := by
  intro β A G s Q E _ I h
  obtain ⟨ad, v1, _⟩ := I.vals
  obtain ⟨v, l, hr⟩ := v1 x _ hx
  exact wpAny_Name (loadLoc I l (h G s v (Step.refl I.sub) hr) (plainName.c hn)) (plainName.d hn)
theorem evB_own {x : Str} {pos : Pos} {ds : List Dat} (hx : σ.lookup x = some (.lst ds)) (hn : plainName x = true) : EvB C k σ (.Name x pos) ds := by
  intro β A G s Q E _ I h
  obtain ⟨ad, v1, _⟩ := I.vals
  have S : OwnSlot C β G s.heap x (ad x) (.lst ds) := v1 x _ hx
  obtain ⟨vs, n, ha, hd⟩ := S.at_
  exact wpAny_Name (loadLoc I S.loc (h G s _ vs n (Step.refl I.sub) S.priv.p ha hd) (plainName.c hn)) (plainName.d hn)

/-- binary operators on values -/
noncomputable def BinR (op : Operator) (d1 d2 d : Dat) : Prop :=
  ∀ (prog : Program) (w : World) (A : Around) (G : PMap) (s : Shared) (v1 v2 : Value) (Q : Value → Shared → Prop) (E : Value → Shared → Prop), Sub G s.heap.get? → Rep G v1 d1 → Rep G v2 d2 →
    (∀ G' s' v, Grow G s G' s' → Rep G' v d → Q v s') → wpAny (model prog w) A (binaryOp op v1 v2) Q E s
theorem ev_bin {l r : Expr} {op : Operator} {pos : Pos} {d1 d2 d : Dat} (h1 : Ev C k σ l d1) (h2 : Ev C k σ r d2) (hb : BinR op d1 d2 d) : Ev C k σ (.BinOp l op r pos) d := by
  intro β A G s Q E hr I h
  refine wpAny_BinOp (h1 β A G s _ E hr I fun G1 s1 v1 st1 r1 => h2 β A G1 s1 _ E hr (I.step st1) fun G2 s2 v2 st2 r2 => ?_)
  exact hb _ _ A G2 s2 v1 v2 Q E st2.sub' (r1.mono st2.sub) r2 fun G3 s3 v g r3 => h G3 s3 v ((st1.trans st2).trans (((I.step st1).step st2).grow g)) r3

theorem bin_add {a b : Int} : BinR .Add (.int a) (.int b) (.int (a + b)) := fun prog w A G s v1 v2 Q E hs r1 r2 h => by
  cases r1; cases r2; exact add_int (h G _ _ (Grow.toks hs) (.int _ _))
theorem bin_sub {a b : Int} : BinR .Sub (.int a) (.int b) (.int (a - b)) := fun prog w A G s v1 v2 Q E hs r1 r2 h => by
  cases r1; cases r2; exact sub_int (h G _ _ (Grow.toks hs) (.int _ _))
theorem bin_mul {a b : Int} (hm : IntMulOk a b) : BinR .Mult (.int a) (.int b) (.int (a * b)) := fun prog w A G s v1 v2 Q E hs r1 r2 h => by
  cases r1; cases r2; exact mul_int (h G _ _ (Grow.toks hs) (.int _ _)) hm
theorem bin_mod {a b : Int} (hb : 0 < b) : BinR .Mod (.int a) (.int b) (.int (a % b)) := fun prog w A G s v1 v2 Q E hs r1 r2 h => by
  cases r1; cases r2
  have e : a.fmod b = a % b := Int.fmod_eq_emod_of_nonneg a (by omega)
  exact mod_int (by omega) (e ▸ h G _ _ (Grow.toks hs) (.int _ _))
theorem bin_and {a b : Int} : BinR .BitAnd (.int a) (.int b) (.int (Builtin.bitAnd a b)) := fun prog w A G s v1 v2 Q E hs r1 r2 h => by
  cases r1; cases r2; exact and_int (h G _ _ (Grow.toks hs) (.int _ _))
theorem bin_shr {a b : Int} (hb : 0 ≤ b) : BinR .RShift (.int a) (.int b) (.int (a.fdiv (2 ^ b.toNat))) := fun prog w A G s v1 v2 Q E hs r1 r2 h => by
  cases r1; cases r2; exact rshift_int hb (h G _ _ (Grow.toks hs) (.int _ _))
theorem bin_shl {a b : Int} (hb : 0 ≤ b) (hz : (Builtin.Int.intBits a : Int) + b ≤ 2 ^ 27) : BinR .LShift (.int a) (.int b) (.int (a * 2 ^ b.toNat)) := fun prog w A G s v1 v2 Q E hs r1 r2 h => by
  cases r1; cases r2; exact lshift_int hb hz (h G _ _ (Grow.toks hs) (.int _ _))
theorem bin_pow {a b : Int} (hb : 0 ≤ b) (hz : (Builtin.Int.intBits a : Int) * b ≤ 2 ^ 27) : BinR .Pow (.int a) (.int b) (.int (a ^ b.toNat)) := fun prog w A G s v1 v2 Q E hs r1 r2 h => by
  cases r1; cases r2; exact pow_int hb hz (h G _ _ (Grow.toks hs) (.int _ _))
theorem bin_fdiv {a b : Int} (hb : 0 < b) (hp : Builtin.divisionGoesByPylong a b = false) : BinR .FloorDiv (.int a) (.int b) (.int (a / b)) := fun prog w A G s v1 v2 Q E hs r1 r2 h => by
  cases r1; cases r2
  have e : a.fdiv b = a / b := Int.fdiv_eq_ediv_of_nonneg a (by omega)
  exact floordiv_int (by omega) (e ▸ h G _ _ (Grow.toks hs) (.int _ _)) (.inl hp)

theorem Grow.kept {G : PMap} {s : Shared} {h' : Heap} {tk : Nat} (h : Sub G s.heap.get?) (hk : ∀ b o, s.heap.get? b = some o → h'.get? b = some o) : Grow G s G { s with heap := h', toks := tk } where
  sub := .refl _
  keep := fun b o e _ => hk b o e
  dom := fun b e => by
    cases hb : s.heap.get? b with
    | none => rfl
    | some o' => have := hk _ _ hb; rw [show h'.get? b = none from e] at this; cases this
  fresh := fun _ _ e => .inl e
  sub' := fun b o' e => hk _ _ (h b o' e)
  os := rfl
  gens := id
  tab := fun _ hp => by cases hp

theorem isList_of {h : Heap} {a : Addr} {vs : List Value} {n : Nat} (x : h.get? a = some (listObj vs n)) : h.IsList a vs.toArray := ⟨_, x, rfl, n, rfl⟩
theorem isTup_of {h : Heap} {a : Addr} {vs : List Value} {n : Nat} (x : h.get? a = some (tupObj vs n)) : IsTup h a vs.toArray := ⟨_, x, rfl, n, rfl⟩

/-- two lists joined -/
theorem evF_cat {l r : Expr} {pos : Pos} {ds es : List Dat} (h1 : EvB C k σ l ds) (h2 : EvB C k σ r es) (hz : ds.length + es.length ≤ 16777216) : EvF C k σ (.BinOp l .Add r pos) (ds ++ es) := by
  intro β A G s Q E hr I h
  refine wpAny_BinOp (h1 β A G s _ E hr I fun G1 s1 a1 vs1 n1 st1 p1 e1 r1 => h2 β A G1 s1 _ E hr (I.step st1) fun G2 s2 a2 vs2 n2 st2 p2 e2 r2 => ?_)
  have e1' := st2.keep _ _ e1 p1
  have I2 := (I.step st1).step st2
  refine P.add_list e1' e2 ?_ (by rw [List.size_toArray, List.size_toArray, r1.length, r2.length, sizeLine_eq]; exact hz)
  have hn : s2.heap.get? s2.heap.objs.size = none := get?_size
  refine h G2 _ _ (vs1 ++ vs2) 0 ((st1.trans st2).trans (I2.grow (Grow.alloc I2.sub))) ((st1.trans st2).dom _ hn) ?_ ?_ ((r1.mono st2.sub).append r2)
  · cases e : G2 s2.heap.objs.size with
    | none => rfl
    | some o => have := I2.sub _ _ e; rw [hn] at this; cases this
  · have : (vs1 ++ vs2).toArray = vs1.toArray ++ vs2.toArray := by simp
    show (s2.heap.push _).get? _ = some { cls := .type "list", dict := none, data := .seq (vs1 ++ vs2).toArray 0, slots := #[] }
    rw [this]; exact Heap.get?_push_size _ rfl

/-- displays -/
theorem evL_nil : EvL C k σ [] [] := fun β A G s pos Q E _ I h => wpAny_items_nil (h G s [] (Step.refl I.sub) .nil)
theorem evL_cons {e : Expr} {es : List Expr} {d : Dat} {ds : List Dat} (h1 : Ev C k σ e d) (h2 : EvL C k σ es ds)
    (he : ∀ env, starEach (e :: es) env = (false, eval e env) :: starEach es env) : EvL C k σ (e :: es) (d :: ds) :=
  fun β A G s pos Q E hr I h => wpAny_items_cons (h1 β A G s _ E hr I fun G1 s1 v st1 r1 => h2 β A G1 s1 pos _ E hr (I.step st1) fun G2 s2 vs st2 r2 => h G2 s2 _ (st1.trans st2) (.cons (r1.mono st2.sub) r2)) (he _)
theorem evF_list {es : List Expr} {ds : List Dat} {pos : Pos} (h1 : EvL C k σ es ds) (hz : ds.length ≤ 16777216) : EvF C k σ (.List es pos) ds := by
  intro β A G s Q E hr I h
  refine wpAny_List (h1 β A G s pos _ E hr I fun G1 s1 vs st1 r1 => ⟨by rw [r1.length, sizeLine_eq]; exact hz, ?_⟩)
  have I1 := I.step st1
  have hn : s1.heap.get? s1.heap.objs.size = none := get?_size
  refine h G1 _ _ vs 0 (st1.trans (I1.grow (Grow.alloc I1.sub))) (st1.dom _ hn) ?_ (Heap.get?_push_size _ rfl) r1
  cases e : G1 s1.heap.objs.size with
  | none => rfl
  | some o => have := I1.sub _ _ e; rw [hn] at this; cases this
theorem ev_tup {es : List Expr} {ds : List Dat} {kk : Nat} {pos : Pos} (h1 : EvL C k σ es ds) (hz : ds.length ≤ 16777216) : Ev C k σ (.Tuple es kk pos) (.tup ds) := by
  intro β A G s Q E hr I h
  refine wpAny_Tuple (h1 β A G s pos _ E hr I fun G1 s1 vs st1 r1 => ⟨by rw [r1.length, sizeLine_eq]; exact hz, ?_⟩)
  have I1 := I.step st1
  have g := Grow.allocG (o := tupObj vs 0) (tk := s1.toks) I1.sub rfl
  exact h _ _ _ (st1.trans (I1.grow g)) (.tup (PMap.add_self ..) (r1.mono g.sub))

/-- subscripts -/
noncomputable def isSlice : Expr → Bool
  | .Slice .. => true
  | _ => false
theorem subscripted_of {e : Expr} (h : isSlice e = false) (o i : Value) : subscripted e false o i = operate [o, i] (getItem o i) := by
  cases e <;> first | rfl | cases h

theorem ev_idx {e i : Expr} {pos : Pos} {ds : List Dat} {j : Int} {d : Dat} (h1 : EvB C k σ e ds) (h2 : Ev C k σ i (.int j)) (h0 : 0 ≤ j) (hx : ds[j.toNat]? = some d) (hz : ds.length ≤ 16777216) (hs : isSlice i = false) :
    Ev C k σ (.Subscript e i pos) d := by
  intro β A G s Q E hr I h
  refine Subscript_ (h1 β A G s _ E hr I fun G1 s1 a vs n st1 p1 e1 r1 => h2 β A G1 s1 _ E hr (I.step st1) fun G2 s2 v2 st2 r2 => ?_)
  cases r2
  obtain ⟨v, hv, hr'⟩ := r1.get hx
  have hl : j.toNat < ds.length := (List.getElem?_eq_some_iff.mp hx).1
  have e1' := st2.keep _ _ e1 p1
  exact tail_any (isList_of e1').typeIs slot_list_getitem.lookup (wpAny_getItem_list (isList_of e1') h0 (by omega) (by simpa using hv) (h G2 s2 v (st1.trans st2) (hr'.mono st2.sub))) (subscripted_of hs _ _)
theorem ev_idxT {e i : Expr} {pos : Pos} {ds : List Dat} {j : Int} {d : Dat} (h1 : Ev C k σ e (.tup ds)) (h2 : Ev C k σ i (.int j)) (h0 : 0 ≤ j) (hx : ds[j.toNat]? = some d) (hz : ds.length ≤ 16777216) (hs : isSlice i = false) :
    Ev C k σ (.Subscript e i pos) d := by
  intro β A G s Q E hr I h
  refine Subscript_ (h1 β A G s _ E hr I fun G1 s1 v1 st1 r1 => h2 β A G1 s1 _ E hr (I.step st1) fun G2 s2 v2 st2 r2 => ?_)
  cases r2
  cases r1 with
  | tup e1 r1 =>
    obtain ⟨v, hv, hr'⟩ := r1.get hx
    have hl : j.toNat < ds.length := (List.getElem?_eq_some_iff.mp hx).1
    have e1' := (st1.trans st2).sub' _ _ (st2.sub _ _ e1)
    have hlen := r1.length
    exact tail_any (isTup_of e1').typeIs slot_tuple_getitem.lookup (getItem_tuple (isTup_of e1') (by omega) (by omega) (seqIndex_of h0 (by rw [List.size_toArray]; omega)) (by simpa using hv) (h G2 s2 v (st1.trans st2) (hr'.mono st2.sub))) (subscripted_of hs _ _)
theorem ev_idxM {e i : Expr} {pos : Pos} {f : Int → Option Int} {j x : Int} (h1 : Ev C k σ e (.map f)) (h2 : Ev C k σ i (.int j)) (hx : f j = some x) (hs : isSlice i = false) :
    Ev C k σ (.Subscript e i pos) (.int x) := by
  intro β A G s Q E hr I h
  refine Subscript_ (h1 β A G s _ E hr I fun G1 s1 v1 st1 r1 => h2 β A G1 s1 _ E hr (I.step st1) fun G2 s2 v2 st2 r2 => ?_)
  cases r2
  cases r1 with
  | map e1 hc hd hk hm =>
    have e1' := (st1.trans st2).sub' _ _ (st2.sub _ _ e1)
    have M : s2.heap.IntMap _ _ := ⟨_, _, _, e1', hc, hd, hk, fun _ => rfl⟩
    rcases hm j with ⟨_, h2⟩ | ⟨i', t, h1, h2⟩
    · rw [hx] at h2; cases h2
    · rw [hx] at h2; cases h2
      have I2 := (I.step st1).step st2
      exact tail_any M.typeIs slot_dict_getitem.lookup (wpAny_getItem_intMap M h1 (h G2 _ _ ((st1.trans st2).trans (I2.grow (Grow.toks I2.sub))) (.int _ _))) (subscripted_of hs _ _)

theorem slicePick_upto' (items : Array Value) (b : Nat) : slicePick items none (some (b : Int)) none = (items.toList.take b).toArray := by
  by_cases hb : b ≤ items.size
  · exact slicePick_upto items b hb
  · have e : slicePick items none (some (b : Int)) none = slicePick items none (some (items.size : Int)) none := by
      unfold slicePick
      have : sliceBounds none (some (b : Int)) none items.size = sliceBounds none (some (items.size : Int)) none items.size := by
        simp only [sliceBounds, Option.getD_none]
        have h2 : ¬ ((b : Int) < 0) := by omega
        have h3 : ¬ ((items.size : Int) < 0) := by omega
        simp only [h2, h3, if_false, show (1 : Int) > 0 by decide, if_true]
        congr 1
        congr 1; omega
      rw [this]
    rw [e, slicePick_upto items items.size (Nat.le_refl _), List.take_of_length_le (by simp), List.take_of_length_le (by simp; omega)]

theorem evF_upto {e u : Expr} {p pos : Pos} {ds : List Dat} {j : Int} (h1 : EvB C k σ e ds) (h2 : Ev C k σ u (.int j)) (h0 : 0 ≤ j) (hz : ds.length ≤ 16777216) :
    EvF C k σ (.Subscript e (.Slice none (some u) none p) pos) (ds.take j.toNat) := by
  intro β A G s Q E hr I h
  refine Subscript_ (h1 β A G s _ E hr I fun G1 s1 a vs n st1 p1 e1 r1 => wpAny_Slice ?_)
  rw [evalPart_none]
  refine wpAny_pure (h2 β A G1 s1 _ E hr (I.step st1) fun G2 s2 v2 st2 r2 => ?_)
  obtain ⟨tj, rfl⟩ : ∃ tj, v2 = .int j tj := by cases r2; exact ⟨_, rfl⟩
  refine wpAny_pure ?_
  have e1' := st2.keep _ _ e1 p1
  have I2 := (I.step st1).step st2
  have hl := (isList_of e1').push { cls := .type "slice", data := .fields #[Value.none, .int j tj, .none] }
  have ej : ((j.toNat : Nat) : Int) = j := by omega
  refine tail_any (ops := _) hl.typeIs slot_list_getitem.lookup (wpAny_getItem_list_slice hl (Heap.IsSliceOf.new ..) .none (.int _ _) .none (by simp) ?_ (by rw [List.size_toArray, r1.length, sizeLine_eq]; exact hz)) rfl
  have g1 := Grow.alloc (o := { cls := .type "slice", data := .fields #[Value.none, .int j tj, .none] }) (tk := s2.toks) I2.sub
  have I3 := I2.step (I2.grow g1)
  have g2 := Grow.alloc (o := { cls := .type "list", data := .seq (slicePick vs.toArray none (some j) none) }) (tk := s2.toks) I3.sub
  have hn := get?_size (h := s2.heap.push { cls := .type "slice", data := .fields #[Value.none, .int j tj, .none] })
  refine h G2 _ _ (vs.take j.toNat) 0 (((st1.trans st2).trans (I2.grow g1)).trans (I3.grow g2)) (((st1.trans st2).trans (I2.grow g1)).dom _ hn) ?_ ?_ ((r1.take _).mono st2.sub)
  · cases e : G2 _ with
    | none => rfl
    | some o => have := I3.sub _ _ e; rw [hn] at this; cases this
  · have : slicePick vs.toArray none (some j) none = (vs.take j.toNat).toArray := by
      have q := slicePick_upto' vs.toArray j.toNat
      rw [ej] at q
      simpa using q
    rw [this]; exact Heap.get?_push_size _ rfl

/-- conditional expressions -/
theorem ev_if {t b o : Expr} {pos : Pos} {c : Bool} {d : Dat} (h1 : Tr C k σ t c) (h2 : c = true → Ev C k σ b d) (h3 : c = false → Ev C k σ o d) : Ev C k σ (.IfExp t b o pos) d := by
  intro β A G s Q E hr I h
  refine wpAny_IfExp (h1 β A G s _ E hr I fun G1 s1 st1 => ?_)
  cases c with
  | true => exact h2 rfl β A G1 s1 Q E hr (I.step st1) fun G2 s2 v st2 r => h G2 s2 v (st1.trans st2) r
  | false => exact h3 rfl β A G1 s1 Q E hr (I.step st1) fun G2 s2 v st2 r => h G2 s2 v (st1.trans st2) r

/-- comparisons -/
noncomputable def CmpR (op : CmpOp) (d1 d2 : Dat) (b : Bool) : Prop :=
  ∀ (prog : Program) (w : World) (A : Around) (G : PMap) (s : Shared) (v1 v2 : Value) (Q : Value → Shared → Prop) (E : Value → Shared → Prop), Room 1 A → Sub G s.heap.get? → Rep G v1 d1 → Rep G v2 d2 →
    (∀ s', Grow G s G s' → Q (.bool b) s') → wpAny (model prog w) A (compareOp op v1 v2) Q E s
theorem ev_cmp {l r : Expr} {op : CmpOp} {pos : Pos} {d1 d2 : Dat} {b : Bool} (h1 : Ev C k σ l d1) (h2 : Ev C k σ r d2) (hb : CmpR op d1 d2 b) (hk : 1 ≤ k) (hm : behindInMarks op r = false) : Ev C k σ (.Compare l [op] [r] pos) (.bool b) := by
  intro β A G s Q E hr I h
  refine wpAny_Compare1 (h1 β A G s _ E hr I fun G1 s1 v1 st1 r1 => h2 β A G1 s1 _ E hr (I.step st1) fun G2 s2 v2 st2 r2 => ?_) hm
  exact hb _ _ A G2 s2 v1 v2 Q E (hr.le hk) st2.sub' (r1.mono st2.sub) r2 fun s3 g => h G2 s3 _ ((st1.trans st2).trans (((I.step st1).step st2).grow g)) (.bool _)
theorem tr_cmp {l r : Expr} {op : CmpOp} {pos : Pos} {d1 d2 : Dat} {b : Bool} (h1 : Ev C k σ l d1) (h2 : Ev C k σ r d2) (hb : CmpR op d1 d2 b) (hk : 1 ≤ k) (hm : behindInMarks op r = false) : Tr C k σ (.Compare l [op] [r] pos) b := by
  intro β A G s Q E hr I h
  refine wpAny_isTrue_Compare1 (h1 β A G s _ E hr I fun G1 s1 v1 st1 r1 => h2 β A G1 s1 _ E hr (I.step st1) fun G2 s2 v2 st2 r2 => ?_) hm
  exact hb _ _ A G2 s2 v1 v2 _ E (hr.le hk) st2.sub' (r1.mono st2.sub) r2 fun s3 g => wpAny_truthy_bool (h G2 s3 ((st1.trans st2).trans (((I.step st1).step st2).grow g)))
theorem cmp_eq {a b : Int} : CmpR .Eq (.int a) (.int b) (a == b) := fun prog w A G s v1 v2 Q E _ hs r1 r2 h => by
  cases r1; cases r2; exact eq_int (h s (Step.refl hs))
theorem cmp_ne {a b : Int} : CmpR .NotEq (.int a) (.int b) (a != b) := fun prog w A G s v1 v2 Q E _ hs r1 r2 h => by
  cases r1; cases r2; exact ne_int (h s (Step.refl hs))
theorem cmp_lt {a b : Int} : CmpR .Lt (.int a) (.int b) (decide (a < b)) := fun prog w A G s v1 v2 Q E _ hs r1 r2 h => by
  cases r1; cases r2; exact lt_int (h s (Step.refl hs))
theorem cmp_eqs {a b : Str} : CmpR .Eq (.str a) (.str b) (a == b) := fun prog w A G s v1 v2 Q E _ hs r1 r2 h => by
  cases r1; cases r2; exact eq_str (h s (Step.refl hs))
theorem cmp_isnot {a b : Bool} : CmpR .IsNot (.bool a) (.bool b) (a != b) := fun prog w A G s v1 v2 Q E _ hs r1 r2 h => by
  cases r1; cases r2; exact isnot_bool (h s (Step.refl hs))

/-- not, and, or as tests -/
theorem tr_not {x : Expr} {pos : Pos} {b : Bool} (h1 : Tr C k σ x b) : Tr C k σ (.UnaryOp .Not x pos) (!b) := by
  intro β A G s Q E hr I h
  exact wpAny_isTrue_Not (h1 β A G s _ E hr I fun G1 s1 st1 => h G1 s1 st1)
theorem tr_and {x y : Expr} {pos : Pos} {a b : Bool} (h1 : Tr C k σ x a) (h2 : a = true → Tr C k σ y b) : Tr C k σ (.BoolOp .And [x, y] pos) (a && b) := by
  intro β A G s Q E hr I h
  refine wpAny_isTrue_BoolOp (wpAny_allTrue_And_cons (h1 β A G s _ E hr I fun G1 s1 st1 => ?_))
  cases a with
  | false => exact h G1 s1 st1
  | true =>
    refine wpAny_allTrue_And_cons (h2 rfl β A G1 s1 _ E hr (I.step st1) fun G2 s2 st2 => ?_)
    cases b with
    | false => exact h G2 s2 (st1.trans st2)
    | true => exact wpAny_allTrue_And_nil (h G2 s2 (st1.trans st2))
theorem tr_or {x y : Expr} {pos : Pos} {a b : Bool} (h1 : Tr C k σ x a) (h2 : a = false → Tr C k σ y b) : Tr C k σ (.BoolOp .Or [x, y] pos) (a || b) := by
  intro β A G s Q E hr I h
  refine wpAny_isTrue_BoolOp (wpAny_allTrue_Or_cons (h1 β A G s _ E hr I fun G1 s1 st1 => ?_))
  cases a with
  | true => exact h G1 s1 st1
  | false =>
    refine wpAny_allTrue_Or_cons (h2 rfl β A G1 s1 _ E hr (I.step st1) fun G2 s2 st2 => ?_)
    cases b with
    | true => exact h G2 s2 (st1.trans st2)
    | false => exact wpAny_allTrue_Or_nil (h G2 s2 (st1.trans st2))

/-- names of the text and of the machine -/
theorem Inv.globals {G : PMap} {s : Shared} (I : Inv C β σ G s) : s.heap.Ns C.env.globals C.T.mg := by rw [C.hg]; exact C.T.g.at (I.text.trans I.sub)
theorem Inv.builtins {G : PMap} {s : Shared} (I : Inv C β σ G s) : s.heap.Ns C.env.builtins C.T.mb := by rw [C.hb]; exact C.T.b.at (I.text.trans I.sub)
theorem Inv.nolimit {G : PMap} {s : Shared} (I : Inv C β σ G s) : s.heap.NoLimit := let ⟨mc, h1, h2⟩ := C.T.lim; ⟨mc, h1.at (I.text.trans I.sub), h2⟩
theorem Txt.nolimit (T : Txt) {G : PMap} {h : Heap} (h1 : Sub T.H G) (h2 : Sub G h.get?) : h.NoLimit := let ⟨mc, a, b⟩ := T.lim; ⟨mc, a.at (h1.trans h2), b⟩

theorem ev_global {x : Str} {pos : Pos} {v : Value} {d : Dat} (hk : C.env.kindOf x = some .globalImplicit) (hn : plainName x = true) (hv : C.T.mg x = some v) (hr : Rep C.T.H v d) : Ev C k σ (.Name x pos) d := by
  intro β A G s Q E _ I h
  exact Calls.Name_function_global I.kind hk (Calls.loadGlobal_global I.globals hv (h G s v (Step.refl I.sub) (hr.mono I.text))) (plainName.d hn)

/-- a call of a def of the text -/
noncomputable def Fn (T : Txt) (k : Nat) (f : Str) (args : List Dat) (d : Dat) : Prop :=
  ∃ a o fd, T.mg f = some (.ref a) ∧ T.H a = some o ∧ o.data = .func fd ∧
    ∀ (A : Around) (G : PMap) (s : Shared) (vs : List Value) (Q : Value → Shared → Prop) (E : Value → Shared → Prop), Room k A → Sub T.H G → Sub G s.heap.get? → AllBare s.gens → Reps G vs args →
      (∀ G' s' v, Grow G s G' s' → Rep G' v d → Q v s') → wpAny (model T.prog T.w) A (call (.ref a) vs) Q E s

noncomputable def plainArg : Expr → Bool
  | .Starred .. => false
  | _ => true
theorem starEach_plain {e : Expr} {es : List Expr} (h : plainArg e = true) (env : Env) : starEach (e :: es) env = (false, eval e env) :: starEach es env := by
  cases e <;> first | rfl | cases h

theorem evalArgs_L {f : Value} {e : Expr} {es : List Expr} {ds : List Dat} {A : Around} {G : PMap} {s : Shared} {pos : Pos} {Q : Args → Shared → Prop} {E : Value → Shared → Prop} (hp : plainArg e = true) (h1 : EvL C k σ (e :: es) ds) (hr : Room k A) (I : Inv C β σ G s)
    (h : ∀ G' s' vs, Stp C G s G' s' → Reps G' vs ds → Q ⟨vs, []⟩ s') : wpAny (model C.T.prog C.T.w) A (evalArgs f true (backTo pos (starEach (e :: es) C.env)) []) Q E s := by
  have he := starEach_plain (es := es) hp C.env
  have h2 := h1 β A G s pos (fun vs s' => Q ⟨vs, []⟩ s') E hr I h
  rw [he] at h2 ⊢
  exact Calls.evalArgs_plain h2
theorem backTo_plain : ∀ {es : List Expr} (pos : Pos) (env : Env), es.all plainArg = true → (backTo pos (starEach es env)).any (·.1) = false
  | [], _, _, _ => rfl
  | e :: es, pos, env, h => by
    simp only [List.all_cons, Bool.and_eq_true] at h
    rw [starEach_plain h.1 env]
    have := backTo_plain pos env h.2
    simpa [backTo] using this

theorem ev_call {f : Str} {p pos : Pos} {e : Expr} {es : List Expr} {ds : List Dat} {d : Dat} {j : Nat} (hk : C.env.kindOf f = some .globalImplicit) (hn : plainName f = true) (ha : EvL C k σ (e :: es) ds) (hf : Fn C.T j f ds d) (hj : j ≤ k) (hp : plainArg e = true) :
    Ev C k σ (.Call (.Name f p) (e :: es) [] pos) d := by
  intro β A G s Q E hr I h
  obtain ⟨a, o, fd, h1, h2, h3, h4⟩ := hf
  refine wpAny_Call_NameR (Calls.Name_function_global I.kind hk (Calls.loadGlobal_global I.globals h1 ?_) (plainName.d hn))
  refine Calls.callWith_function (o := o) (fd := fd) (evalArgs_L hp ha hr I fun G1 s1 vs st1 r1 => ⟨⟨?_, h3⟩, ?_⟩)
  · exact (I.step st1).sub _ _ ((I.step st1).text _ _ h2)
  · have I1 := I.step st1
    exact h4 A G1 s1 vs Q E (hr.le hj) I1.text I1.sub I1.gens r1 fun G2 s2 v g r => h G2 s2 v (st1.trans (I1.grow g)) r

/-- a built-in by its name -/
theorem callBuiltin {f : Str} {id : String} {p pos : Pos} {A : Around} {G : PMap} {s : Shared} {es : List Expr} {Q : Value → Shared → Prop} {E : Value → Shared → Prop} (I : Inv C β σ G s) (hk : C.env.kindOf f = some .globalImplicit) (hn : plainName f = true) (hg : C.T.mg f = none) {v : Value} (hb : C.T.mb f = some v)
    (h : wpAny (model C.T.prog C.T.w) A (callWith pos v [] (backTo pos (starEach es C.env)) []) Q E s) : wpAny (model C.T.prog C.T.w) A (eval (.Call (.Name f p) es [] pos) C.env) Q E s :=
  wpAny_Call_NameR (Calls.Name_function_global I.kind hk (Calls.loadGlobal_builtin I.globals hg I.builtins hb h) (plainName.d hn))

/-- one argument, read where it stands -/
theorem evalArgs_B {f : Value} {e : Expr} {ds : List Dat} {A : Around} {G : PMap} {s : Shared} {pos : Pos} {Q : Args → Shared → Prop} {E : Value → Shared → Prop} (hp : plainArg e = true) (h1 : EvB C k σ e ds) (hr : Room k A) (I : Inv C β σ G s)
    (h : ∀ G' s' a vs n, Stp C G s G' s' → C.P ≠ some a → s'.heap.get? a = some (listObj vs n) → Reps G' vs ds → Q ⟨[.ref a], []⟩ s') : wpAny (model C.T.prog C.T.w) A (evalArgs f true (backTo pos (starEach [e] C.env)) []) Q E s := by
  rw [starEach_plain hp C.env]
  exact Calls.evalArgs_plain (Calls.spliced_cons (h1 β A G s _ E hr I fun G1 s1 a vs n st1 p1 e1 r1 => Calls.spliced_nil (h G1 s1 a vs n st1 p1 e1 r1)))

theorem ev_len {p pos : Pos} {e : Expr} {ds : List Dat} (hk : C.env.kindOf "len" = some .globalImplicit) (hg : C.T.mg "len" = none) (hb : C.T.mb "len" = some (.builtin "len")) (h1 : EvB C k σ e ds) (hz : ds.length ≤ 16777216) (hp : plainArg e = true) :
    Ev C k σ (.Call (.Name "len" p) [e] [] pos) (.int ds.length) := by
  intro β A G s Q E hr I h
  refine callBuiltin (id := "len") I hk (by decide +kernel) hg hb ?_
  refine Calls.callWith_builtin (backTo_plain _ _ (by simp [hp])) (evalArgs_B hp h1 hr I fun G1 s1 a vs n st1 p1 e1 r1 => ?_)
  have hl := r1.length
  refine len_list (isList_of e1) (by rw [List.size_toArray]; omega) ?_
  have I1 := I.step st1
  rw [List.size_toArray, hl]
  exact h G1 _ _ (st1.trans (I1.grow (Grow.toks I1.sub))) (.int _ _)
end

noncomputable def Wr (C : Act) (x : Str) : Prop := C.env.kindOf x = some .local ∨ (C.env.kindOf x = some .cell ∧ ∃ c, C.env.cells.lookup x = some c)

/-- statements: N behind the last one, K at a continue, R at a return -/
noncomputable def Ex (C : Act) (k : Nat) (σ : Sig) (ss : List Stmt) (N K : Sig → Prop) (R : Dat → Prop) : Prop :=
  ∀ (β : Bs) (A : Around) (G : PMap) (s : Shared) (Q : Flow → Shared → Prop) (E : Value → Shared → Prop), Room k A → Inv C β σ G s →
    (∀ G' s' σ', Inv C β σ' G' s' → N σ' → Q .next s') → (∀ G' s' σ', Inv C β σ' G' s' → K σ' → Q .cont s') → (∀ G' s' v d, Inv C β [] G' s' → Rep G' v d → R d → Q (.ret v) s') →
    wpAny (model C.T.prog C.T.w) A (execs ss C.env) Q E s
/-- one statement -/
noncomputable def Ex1 (C : Act) (k : Nat) (σ : Sig) (st : Stmt) (N K : Sig → Prop) (R : Dat → Prop) : Prop :=
  ∀ (β : Bs) (A : Around) (G : PMap) (s : Shared) (Q : Flow → Shared → Prop) (E : Value → Shared → Prop), Room k A → Inv C β σ G s →
    (∀ G' s' σ', Inv C β σ' G' s' → N σ' → Q .next s') → (∀ G' s' σ', Inv C β σ' G' s' → K σ' → Q .cont s') → (∀ G' s' v d, Inv C β [] G' s' → Rep G' v d → R d → Q (.ret v) s') →
    wpAny (model C.T.prog C.T.w) A (exec st C.env) Q E s

section
variable {C : Act} {k : Nat} {σ : Sig} {N K : Sig → Prop} {R : Dat → Prop}

theorem ex_nil (h : N σ) : Ex C k σ [] N K R := fun β A G s Q E hr I h1 h2 h3 => wpAny_execs_nil (h1 G s σ I h)
theorem ex_cons {st : Stmt} {ss : List Stmt} (h : Ex1 C k σ st (fun σ' => Ex C k σ' ss N K R) K R) : Ex C k σ (st :: ss) N K R := by
  intro β A G s Q E hr I h1 h2 h3
  refine wpAny_execs_cons (h β A G s _ E hr I (fun G' s' σ' I' hn => ?_) (fun G' s' σ' I' hk => ?_) fun G' s' v d I' r hd => ?_)
  · exact hn β A G' s' Q E hr I' h1 h2 h3
  · exact h2 G' s' σ' I' hk
  · exact h3 G' s' v d I' r hd
theorem Ex.weaken {σ' : Sig} {ss : List Stmt} (h : Ex C k σ' ss N K R) (hw : ∀ x sl, σ'.lookup x = some sl → σ.lookup x = some sl) : Ex C k σ ss N K R :=
  fun β A G s Q E hr I h1 h2 h3 => h β A G s Q E hr (I.weaken hw) h1 h2 h3
theorem Ex.freeze {x : Str} {ds : List Dat} {ss : List Stmt} (hx : σ.lookup x = some (.lst ds)) (h : Ex C k ((x, .val (.lst ds)) :: σ) ss N K R) : Ex C k σ ss N K R := by
  intro β A G s Q E hr I h1 h2 h3
  obtain ⟨G', _, I'⟩ := I.freeze hx
  exact h β A G' s Q E hr I' h1 h2 h3
theorem Ex.mono {ss : List Stmt} {N' K' : Sig → Prop} {R' : Dat → Prop} (h : Ex C k σ ss N K R) (hN : ∀ σ', N σ' → N' σ') (hK : ∀ σ', K σ' → K' σ') (hR : ∀ d, R d → R' d) : Ex C k σ ss N' K' R' :=
  fun β A G s Q E hr I h1 h2 h3 => h β A G s Q E hr I (fun G' s' σ' I' hn => h1 G' s' σ' I' (hN _ hn)) (fun G' s' σ' I' hn => h2 G' s' σ' I' (hK _ hn)) (fun G' s' v d I' r hd => h3 G' s' v d I' r (hR _ hd))

noncomputable def plainRhs : Expr → Bool
  | .ListComp .. | .SetComp .. | .DictComp .. => false
  | _ => true
theorem swaps_plain {e : Expr} (h : plainRhs e = true) (t : Option Expr) (l : Nat) (env : Env) : swapsWith e t l env = pure false := by
  cases e <;> first | rfl | cases h

theorem ex_assign {x : Str} {p pos : Pos} {e : Expr} {d : Dat} {ss : List Stmt} (hx : Wr C x) (he : Ev C k σ e d) (hp : plainRhs e = true) (h : Ex C k ((x, .val d) :: σ) ss N K R) : Ex C k σ (.Assign [.Name x p] e pos :: ss) N K R := by
  refine ex_cons fun β A G s Q E hr I h1 h2 h3 => wpAny_Assign_Name (he β A G s _ E hr I fun G1 s1 v st1 r1 => ?_) (swaps_plain hp ..)
  exact wpAny_store (I.step st1) hx (.val r1) fun h' tk I' => h1 G1 _ _ I' h

theorem given_fresh {β : Bs} {G G' : PMap} {s s' : Shared} {a : Addr} {sl : Slot} (I : Inv C β σ G s) (st : Stp C G s G' s') (h0 : s.heap.get? a = none) (hg : G' a = none) (ho : sl.own = true) (hat : OwnAt G' s'.heap a sl) : Given C β σ G' s' (.ref a) sl := by
  have ne : ∀ b o, s.heap.get? b = some o → b ≠ a := fun b o e h => by rw [h, h0] at e; cases e
  refine .own ho hat ⟨hg, ?_, fun hp => (I.tab a hp).2 h0⟩ ?_ (fun y c hk hc => ?_) fun y b sl' hl hw S => ?_
  · cases e : β.B a with
    | none => rfl
    | some o => have := I.base _ _ e; rw [h0] at this; cases this
  · obtain ⟨o, ho⟩ := I.L; exact (ne _ o ho).symm
  · obtain ⟨_, _, v, o, ho, _⟩ := I.cells y c hk hc; exact ne _ o ho
  · obtain ⟨ad, v1, _⟩ := I.vals
    have S0 := (slotAt_own hw).mp (v1 y sl' hl)
    obtain ⟨ad', v1', _⟩ := (I.step st).vals
    have L0 : Loc C.env s'.heap y (.ref (ad y)) := S0.loc.keep (fun o e => st.keep _ o e I.privL.p) fun c o hk hc e => st.keep _ o e (I.cells y c hk hc).2.1
    have := L0.uniq S.loc
    cases this
    obtain ⟨o, ho⟩ := S0.at_.ex hw
    exact ne _ o ho

theorem ex_assignF {x : Str} {p pos : Pos} {e : Expr} {ds : List Dat} {ss : List Stmt} (hx : Wr C x) (he : EvF C k σ e ds) (hp : plainRhs e = true) (h : Ex C k ((x, .lst ds) :: σ) ss N K R) : Ex C k σ (.Assign [.Name x p] e pos :: ss) N K R := by
  refine ex_cons fun β A G s Q E hr I h1 h2 h3 => wpAny_Assign_Name (he β A G s _ E hr I fun G1 s1 a vs n st1 h0 hg ha r1 => ?_) (swaps_plain hp ..)
  exact wpAny_store (I.step st1) hx (given_fresh (sl := .lst ds) I st1 h0 hg rfl ⟨vs, n, ha, r1⟩) fun h' tk I' => h1 G1 _ _ I' h

theorem ex_if {t : Expr} {b o : List Stmt} {pos : Pos} {c : Bool} {ss : List Stmt} (ht : Tr C k σ t c) (h1 : c = true → Ex C k σ b (fun σ' => Ex C k σ' ss N K R) K R) (h2 : c = false → Ex C k σ o (fun σ' => Ex C k σ' ss N K R) K R) : Ex C k σ (.If t b o pos :: ss) N K R := by
  refine ex_cons fun β A G s Q E hr I q1 q2 q3 => wpAny_If (ht β A G s _ E hr I fun G1 s1 st1 => ?_)
  cases c with
  | true => exact h1 rfl β A G1 s1 Q E hr (I.step st1) q1 q2 q3
  | false => exact h2 rfl β A G1 s1 Q E hr (I.step st1) q1 q2 q3
theorem ex_ret {e : Expr} {pos : Pos} {d : Dat} {ss : List Stmt} (he : Ev C k σ e d) (hd : R d) : Ex C k σ (.Return (some e) pos :: ss) N K R := by
  refine ex_cons fun β A G s Q E hr I q1 q2 q3 => wpAny_Return_some (he β A G s _ E hr I fun G1 s1 v st1 r1 => ?_)
  exact q3 G1 s1 v d ((I.step st1).weaken (fun x sl h => by cases h)) r1 hd
theorem ex_cont {pos : Pos} {ss : List Stmt} (h : K σ) : Ex C k σ (.Continue pos :: ss) N K R :=
  ex_cons fun β A G s Q E hr I q1 q2 q3 => wpAny_Continue (q2 G s σ I h)

/-- an object of the machine's (an iterator) that the body does not see -/
structure Off (C : Act) (β : Bs) (σ : Sig) (G : PMap) (s : Shared) (i : Addr) : Prop where
  priv : Priv C β G i
  offL : i ≠ C.env.locals
  offC : ∀ y c, CellK C.env y → C.env.cells.lookup y = some c → c ≠ i
  own : ∀ y a sl, σ.lookup y = some sl → sl.own = true → OwnSlot C β G s.heap y a sl → a ≠ i

theorem Off.fresh {β : Bs} {G : PMap} {s : Shared} {i : Addr} (I : Inv C β σ G s) (h0 : s.heap.get? i = none) : Off C β σ G s i := by
  have ne : ∀ b o, s.heap.get? b = some o → b ≠ i := fun b o e h => by rw [h, h0] at e; cases e
  refine ⟨⟨?_, ?_, fun hp => (I.tab i hp).2 h0⟩, ?_, fun y c hk hc => ?_, fun y a sl hl hw S => ?_⟩
  · cases e : G i with
    | none => rfl
    | some o => have := I.sub _ _ e; rw [h0] at this; cases this
  · cases e : β.B i with
    | none => rfl
    | some o => have := I.base _ _ e; rw [h0] at this; cases this
  · obtain ⟨o, ho⟩ := I.L; exact (ne _ o ho).symm
  · obtain ⟨_, _, v, o, ho, _⟩ := I.cells y c hk hc; exact ne _ o ho
  · obtain ⟨o, ho⟩ := S.at_.ex hw; exact ne _ o ho

/-- what an iterator does to its own object leaves all names as they are -/
theorem Inv.writeOff {β : Bs} {G : PMap} {s : Shared} {h' : Heap} {tk : Nat} {i : Addr} (I : Inv C β σ G s) (O : Off C β σ G s i) (hs : ∀ b o, b ≠ i → s.heap.get? b = some o → h'.get? b = some o) :
    Inv C β σ G { s with heap := h', toks := tk } ∧ Off C β σ G { s with heap := h', toks := tk } i := by
  have ne : ∀ (b : Addr) (o : Obj) (H : PMap), H i = none → H b = some o → b ≠ i := fun b o H h1 h2 e => by rw [e, h1] at h2; cases h2
  have kL : ∀ o, s.heap.get? C.env.locals = some o → h'.get? C.env.locals = some o := fun o e => hs _ o (Ne.symm O.offL) e
  have kC : ∀ x c o, CellK C.env x → C.env.cells.lookup x = some c → s.heap.get? c = some o → h'.get? c = some o := fun x c o hk hc e => hs _ o (O.offC x c hk hc) e
  obtain ⟨ad, v1, v2⟩ := I.vals
  refine ⟨⟨?_, I.kind, I.text, I.g0, fun b o e => hs b o (ne b o G O.priv.g e) (I.sub b o e), fun b o e => hs b o (ne b o β.B O.priv.b e) (I.base b o e), I.old, I.os, I.gens, ?_, I.off, I.privL, I.privC, ?_, I.apart, ad, ?_, v2⟩, O.priv, O.offL, O.offC, ?_⟩
  · obtain ⟨m, o, es, ep, ho, r⟩ := I.ns; exact ⟨m, o, es, ep, kL _ ho, r⟩
  · intro p hp
    obtain ⟨h1, h2⟩ := I.tab p hp
    cases e : s.heap.get? p with
    | none => exact absurd e h2
    | some o =>
      have : h'.get? p = some o := hs p o (fun h => O.priv.p (h ▸ hp)) e
      show C.X (h'.get? p) ∧ h'.get? p ≠ none
      rw [this]; rw [e] at h1; exact ⟨h1, by simp⟩
  · intro x c hk hc
    obtain ⟨h1, h2, v, o, ho, hd⟩ := I.cells x c hk hc
    exact ⟨h1, h2, v, o, kC x c o hk hc ho, hd⟩
  · intro x sl hx
    exact (v1 x sl hx).keep (.refl _) kL (fun c o hk hc e => kC x c o hk hc e) fun ho S => ⟨fun o e => hs _ o (O.own x _ sl hx ho S) e, S.priv⟩
  · intro y a sl hl hw S
    have S0 := (slotAt_own hw).mp (v1 y sl hl)
    have := (S0.loc.keep kL fun c o hk hc e => kC y c o hk hc e).uniq S.loc
    cases this
    exact O.own y _ sl hl hw S0

theorem Inv.rebase {β : Bs} {G : PMap} {s : Shared} {i : Addr} {o : Obj} (I : Inv C β σ G s) (O : Off C β σ G s i) (hi : s.heap.get? i = some o) : Inv C ⟨β.B.add i o, G, s.os⟩ σ G s := by
  have pr : ∀ a, a ≠ i → Priv C β G a → Priv C ⟨β.B.add i o, G, s.os⟩ G a := fun a ha p => ⟨p.g, (PMap.add_ne _ _ ha).trans p.b, p.p⟩
  obtain ⟨ad, v1, v2⟩ := I.vals
  refine ⟨I.ns, I.kind, I.text, .refl _, I.sub, ?_, fun b o e => .inl e, rfl, I.gens, I.tab, ?_, pr _ (Ne.symm O.offL) I.privL, fun x c hk hc => pr _ (O.offC x c (.inl hk) hc) (I.privC x c hk hc), I.cells, I.apart, ad, ?_, v2⟩
  · intro b o' e
    have e' : β.B.add i o b = some o' := e
    by_cases hb : b = i
    · rw [hb, PMap.add_self] at e'; cases e'; rw [hb]; exact hi
    · rw [PMap.add_ne _ _ hb] at e'; exact I.base b o' e'
  · intro p hp
    have : p ≠ i := fun h => O.priv.p (h ▸ hp)
    exact ⟨(PMap.add_ne _ _ this).trans (I.off p hp).1, (I.off p hp).2⟩
  · intro x sl hx
    by_cases hw : sl.own = true
    · have S := (slotAt_own hw).mp (v1 x sl hx)
      exact (slotAt_own hw).mpr ⟨S.loc, S.at_, pr _ (O.own x _ sl hx hw S) S.priv, S.offL, S.offC⟩
    · have := v1 x sl hx
      cases sl with
      | val d => exact this
      | lst ds => exact absurd rfl hw
      | set ks => exact absurd rfl hw

theorem Inv.unbase {β : Bs} {G G' : PMap} {s s' : Shared} {σ' : Sig} {i : Addr} {o : Obj} (I : Inv C β σ G s) (O : Off C β σ G s i) (I' : Inv C ⟨β.B.add i o, G, s.os⟩ σ' G' s') :
    Inv C β σ' G' s' ∧ Off C β σ' G' s' i ∧ s'.heap.get? i = some o ∧ Sub G G' := by
  have none_of : ∀ a, β.B.add i o a = none → a ≠ i ∧ β.B a = none := fun a h => by
    by_cases ha : a = i
    · rw [ha, PMap.add_self] at h; cases h
    · rw [PMap.add_ne _ _ ha] at h; exact ⟨ha, h⟩
  have pr : ∀ a, Priv C ⟨β.B.add i o, G, s.os⟩ G' a → Priv C β G' a ∧ a ≠ i := fun a p => ⟨⟨p.g, (none_of a p.b).2, p.p⟩, (none_of a p.b).1⟩
  have gi : G' i = none := by
    cases e : G' i with
    | none => rfl
    | some o' =>
      rcases I'.old i o' e with h | h
      · have h' : G i = some o' := h
        rw [O.priv.g] at h'; cases h'
      · exact absurd rfl (none_of i h).1
  obtain ⟨ad, v1, v2⟩ := I'.vals
  refine ⟨⟨I'.ns, I'.kind, I'.text, I.g0.trans I'.g0, I'.sub, ?_, ?_, ?_, I'.gens, I'.tab, ?_, (pr _ I'.privL).1, fun x c hk hc => (pr _ (I'.privC x c hk hc)).1, I'.cells, I'.apart, ad, ?_, v2⟩, ⟨⟨gi, O.priv.b, O.priv.p⟩, O.offL, O.offC, ?_⟩, I'.base _ _ (PMap.add_self ..), I'.g0⟩
  · intro b o' e
    refine I'.base b o' ?_
    have : b ≠ i := fun h => by rw [h, O.priv.b] at e; cases e
    exact (PMap.add_ne _ _ this).trans e
  · intro b o' e
    rcases I'.old b o' e with h | h
    · exact I.old b o' h
    · exact .inr (none_of b h).2
  · exact (show s'.os = s.os from I'.os).trans I.os
  · intro p hp; exact ⟨(none_of p (I'.off p hp).1).2, (I'.off p hp).2⟩
  · intro x sl hx
    by_cases hw : sl.own = true
    · have S := (slotAt_own hw).mp (v1 x sl hx)
      exact (slotAt_own hw).mpr ⟨S.loc, S.at_, (pr _ S.priv).1, S.offL, S.offC⟩
    · have := v1 x sl hx
      cases sl with
      | val d => exact this
      | lst ds => exact absurd rfl hw
      | set ks => exact absurd rfl hw
  · intro y a sl hl hw S
    have S0 := (slotAt_own hw).mp (v1 y sl hl)
    have := S0.loc.uniq S.loc
    cases this
    exact (pr _ S0.priv).2

/-- a loop over written data -/
noncomputable def Iter (C : Act) (k : Nat) (x : Str) (body : List Stmt) (R : Dat → Prop) (N : Sig → Prop) : List Dat → Sig → Prop
  | [], σ => N σ
  | d :: ds, σ => Ex C k ((x, .val d) :: σ) body (Iter C k x body R N ds) (Iter C k x body R N ds) R

theorem loop_walk {β : Bs} {A : Around} {G : PMap} {s : Shared} {x : Str} {p : Pos} {body : List Stmt} {ds : List Dat} {Q : Flow → Shared → Prop} {E' : Result → Shared → Prop} {i : Addr} {fp : List Addr} {n : Nat} {Pv : Nat → Value → Prop} {St : Nat → Heap → Prop}
    (W : Walks C.T.prog C.T.w A i fp [i] n Pv St) (hn : n = ds.length) (hfp : ∀ b ∈ fp, b = i ∨ ∃ o, G b = some o) (hP : ∀ j v, j < n → Pv j v → ∃ d, ds[j]? = some d ∧ Rep G v d)
    (hx : Wr C x) (hr : Room k A) (I : Inv C β σ G s) (O : Off C β σ G s i) (hi : ∃ o, s.heap.get? i = some o) (h0 : St 0 s.heap) (hex : ∀ j h, St j h → ∃ o, h.get? i = some o)
    (hI : Iter C k x body R N ds σ)
    (h1 : ∀ G' s' σ', Inv C β σ' G' s' → N σ' → Q .next s') (h3 : ∀ G' s' v d, Inv C β [] G' s' → Rep G' v d → R d → Q (.ret v) s') (hE : ∀ f s', Q f s' → E' (.ok f) s') :
    codeAny (model C.T.prog C.T.w) A (.forLoop (.Name x p) (.ref i) body [] C.env) E' s := by
  refine codeAny_forLoop (fun m s' => ∃ G' σ' j, Inv C β σ' G' s' ∧ Off C β σ' G' s' i ∧ Sub G G' ∧ St j s'.heap ∧ j ≤ n ∧ m = n + 1 - j ∧ Iter C k x body R N (ds.drop j) σ') ?_ (n + 1) ⟨G, σ, 0, I, O, .refl _, h0, Nat.zero_le _, rfl, by simpa using hI⟩
  rintro m s' ⟨G', σ', j, I', O', sub, st, hj, rfl, it⟩
  by_cases hlt : j < n
  · refine W.item j s' _ _ hlt st fun v h' tk hv st' hk => ?_
    obtain ⟨d, hd, hrep⟩ := hP j v hlt hv
    obtain ⟨I1, O1⟩ := I'.writeOff (tk := tk) O' (h' := h') (fun b o hb e => hk b o (by simp [hb]) e)
    obtain ⟨oi, hoi⟩ := hex _ _ st'
    have I1' := I1.rebase O1 hoi
    refine wpAny_assign_Name (wpAny_store I1' hx (.val (hrep.mono sub)) fun h'' tk' I2 => ?_)
    have hdrop : ds.drop j = d :: ds.drop (j + 1) := by
      rw [List.drop_eq_getElem_cons (by omega)]
      rw [List.getElem?_eq_getElem (by omega)] at hd
      rw [Option.some.inj hd]
    rw [hdrop] at it
    have fin : ∀ G3 s3 σ3, Inv C ⟨β.B.add i oi, G', s'.os⟩ σ3 G3 s3 → Iter C k x body R N (ds.drop (j + 1)) σ3 → ∃ m, m < n + 1 - j ∧ ∃ G' σ' j, Inv C β σ' G' s3 ∧ Off C β σ' G' s3 i ∧ Sub G G' ∧ St j s3.heap ∧ j ≤ n ∧ m = n + 1 - j ∧ Iter C k x body R N (ds.drop j) σ' := by
      intro G3 s3 σ3 I3 it3
      obtain ⟨I4, O4, hi4, sub4⟩ := I1.unbase O1 I3
      refine ⟨n + 1 - (j + 1), by omega, G3, σ3, j + 1, I4, O4, sub.trans sub4, W.frame _ _ _ st' fun b hb o e => ?_, hlt, rfl, it3⟩
      rcases hfp b hb with rfl | ⟨o', ho'⟩
      · rw [hoi] at e; cases e; exact hi4
      · have e1 := I1.sub _ _ (sub _ _ ho')
        rw [show h'.get? b = some o' from e1] at e; cases e
        exact I4.sub _ _ (sub4 _ _ (sub _ _ ho'))
    refine it ⟨β.B.add i oi, G', s'.os⟩ A G' _ _ _ hr I2 (fun G3 s3 σ3 I3 it3 => fin G3 s3 σ3 I3 it3) (fun G3 s3 σ3 I3 it3 => fin G3 s3 σ3 I3 it3) fun G3 s3 v3 d3 I3 r3 hd3 => ?_
    exact hE _ _ (h3 G3 s3 v3 d3 (I1.unbase O1 I3).1 r3 hd3)
  · have : j = n := by omega
    subst this
    refine W.done s' _ _ st fun h' tk hk => wpAny_execs_nil ?_
    obtain ⟨I1, O1⟩ := I'.writeOff (tk := tk) O' (h' := h') (fun b o hb e => hk b o (by simp [hb]) e)
    rw [List.drop_of_length_le (by omega)] at it
    exact hE _ _ (h1 G' _ σ' I1 it)

noncomputable def notSet : Expr → Bool
  | .Set .. => false
  | _ => true
theorem folded_plain {e : Expr} (h : notSet e = true) (env : Env) (x : Value) : foldedSetIterable e env x = pure x := by
  cases e <;> first | rfl | cases h

theorem ex_for {x : Str} {p pos : Pos} {e : Expr} {body ss : List Stmt} {ds : List Dat} (hx : Wr C x) (he : Ev C k σ e (.lst ds)) (hs : notSet e = true)
    (h : Iter C k x body R (fun σ' => Ex C k σ' ss N K R) ds σ) : Ex C k σ (.For (.Name x p) e body [] pos :: ss) N K R := by
  refine ex_cons fun β A G s Q E hr I q1 q2 q3 => wpAny_For (he β A G s _ E hr I fun G1 s1 v st1 r1 => ?_) (folded_plain hs _)
  cases r1 with
  | lst ha hd =>
    rename_i a vs n
    have I1 := I.step st1
    have hl : s1.heap.get? a = some (listObj vs n) := I1.sub _ _ ha
    refine wpAny_pyIter_list (isList_of hl) ?_
    have hne : a ≠ s1.heap.objs.size := Nat.ne_of_lt (Heap.lt_size hl)
    have g := Grow.alloc (o := { cls := .type "list_iterator", data := .fields #[.ref a, .int 0 0] }) (tk := s1.toks) I1.sub
    have I2 := I1.step (I1.grow g)
    have O1 := Off.fresh I1 get?_size
    obtain ⟨_, O2⟩ := I1.writeOff (tk := s1.toks) O1 (h' := s1.heap.push { cls := .type "list_iterator", data := .fields #[.ref a, .int 0 0] }) (fun b o _ e => Heap.get?_push_of_some _ e)
    refine loop_walk (ds := ds) (Walks.list hr.1 s1.heap.objs.size a hne vs.toArray) (by rw [List.size_toArray, hd.length]) (fun b hb => ?_) (fun j v _ hv => ?_) hx hr I2 O2 ⟨_, Heap.get?_push_size _ rfl⟩ ⟨⟨_, Heap.get?_push_size _ rfl, rfl, rfl⟩, (isList_of hl).push _⟩ (fun j h st => ?_) h (fun G' s' σ' I' hn => q1 G' s' σ' I' hn) q3 (fun f s' hq => hq)
    · simp at hb
      rcases hb with rfl | rfl
      · exact .inl rfl
      · exact .inr ⟨_, ha⟩
    · obtain ⟨d, h1, h2⟩ := hd.getv (k := j) (v := v) (by simpa using hv)
      exact ⟨d, h1, h2⟩
    · obtain ⟨⟨o, ho, _⟩, _⟩ := st; exact ⟨o, ho⟩

/-- range(n) -/
noncomputable def rangeD (n : Nat) : List Dat := (List.range n).map fun j : Nat => Dat.int (j : Int)
theorem rangeD_get {n j : Nat} (h : j < n) : (rangeD n)[j]? = some (.int j) := by simp [rangeD, h]
theorem rangeD_length (n : Nat) : (rangeD n).length = n := by simp [rangeD]

structure HasRange (C : Act) : Prop where
  k : C.env.kindOf "range" = some .globalImplicit
  g : C.T.mg "range" = none
  b : C.T.mb "range" = some (.type "range")

theorem iter_range {β : Bs} {A : Around} {G : PMap} {s : Shared} {e : Expr} {rp rpos : Pos} {m : Nat} {Q : Value → Shared → Prop} {E : Value → Shared → Prop} (H : HasRange C) (he : Ev C k σ e (.int m)) (hp : plainArg e = true) (hm : (m : Int) < 2 ^ 62) (hr : Room k A) (I : Inv C β σ G s)
    (h : ∀ G' s' i, Inv C β σ G' s' → Off C β σ G' s' i → Stp C G s G' s' → s.heap.get? i = none → IsRangeIter s'.heap i (0 + ((0 : Nat) : Int) * 1) ((m : Int) - ((0 : Nat) : Int)) 1 → Q (.ref i) s') :
    wpAny (model C.T.prog C.T.w) A (eval (.Call (.Name "range" rp) [e] [] rpos) C.env) (fun x s₁ => wpAny (model C.T.prog C.T.w) A (pyIter x) Q E s₁) E s := by
  refine callBuiltin (id := "range") I H.k (by decide +kernel) H.g H.b ?_
  rw [starEach_plain hp C.env]
  refine PySem.callWith_type rfl (Calls.evalArgs_plain (Calls.spliced_cons (he β A G s _ E hr I fun G1 s1 v st1 r1 => Calls.spliced_nil ?_)))
  obtain ⟨tm, rfl⟩ : ∃ tm, v = .int (m : Int) tm := by cases r1; exact ⟨_, rfl⟩
  have I1 := I.step st1
  refine call_range_1 ?_
  have g1 := Grow.alloc (o := { cls := .type "range", data := .fields #[.int 0 s1.toks, .int (m : Int) tm, .int 1 (s1.toks + 1)] }) (tk := s1.toks + 1 + 1) I1.sub
  have I2 := I1.step (I1.grow g1)
  refine wpAny_pyIter_range (IsRange.new ..) (small_one (by decide) (by decide) (by omega) hm) ?_
  have hsz : Builtin.Range.rangeSize 0 (m : Int) 1 = (m : Int) := by rw [rangeSize_one]; split <;> omega
  rw [hsz]
  have g2 := Grow.alloc (o := { cls := .type "range_iterator", data := .fields #[rawInt 0, rawInt (m : Int), rawInt 1] }) (tk := s1.toks + 1 + 1) I2.sub
  have I3 := I2.step (I2.grow g2)
  obtain ⟨_, O3⟩ := I2.writeOff (tk := s1.toks + 1 + 1) (Off.fresh I2 get?_size) (h' := Heap.push _ { cls := .type "range_iterator", data := .fields #[rawInt 0, rawInt (m : Int), rawInt 1] }) (fun b o _ e => Heap.get?_push_of_some _ e)
  refine h G1 _ _ I3 O3 ((st1.trans (I1.grow g1)).trans (I2.grow g2)) ((st1.trans (I1.grow g1)).dom _ get?_size) ?_
  have := Heap.get?_push_size (Heap.push s1.heap { cls := .type "range", data := .fields #[.int 0 s1.toks, .int (m : Int) tm, .int 1 (s1.toks + 1)] }) (o := { cls := .type "range_iterator", data := .fields #[rawInt 0, rawInt (m : Int), rawInt 1] }) rfl
  simpa [IsRangeIter] using this

theorem ex_forR {x : Str} {p pos rp rpos : Pos} {e : Expr} {body ss : List Stmt} {m : Nat} (H : HasRange C) (hx : Wr C x) (he : Ev C k σ e (.int m)) (hp : plainArg e = true) (hm : (m : Int) < 2 ^ 62)
    (h : Iter C k x body R (fun σ' => Ex C k σ' ss N K R) (rangeD m) σ) : Ex C k σ (.For (.Name x p) (.Call (.Name "range" rp) [e] [] rpos) body [] pos :: ss) N K R := by
  refine ex_cons fun β A G s Q E hr I q1 q2 q3 => wpAny_For (iter_range H he hp hm hr I fun G1 s1 i I1 O1 st1 h0 hit => ?_) (folded_plain rfl _)
  refine loop_walk (ds := rangeD m) (Walks.range hr.1 i 0 1 m) (rangeD_length m).symm (fun b hb => .inl (by simpa using hb)) (fun j v hj hv => ?_) hx hr I1 O1 ⟨_, hit⟩ hit (fun j h st => ⟨_, st⟩) h (fun G' s' σ' I' hn => q1 G' s' σ' I' hn) q3 (fun f s' hq => hq)
  obtain ⟨t, rfl⟩ := hv
  refine ⟨_, rangeD_get hj, ?_⟩
  have : (0 : Int) + (j : Int) * 1 = (j : Int) := by omega
  rw [this]; exact .int _ _

/-- while -/
theorem ex_while {t : Expr} {body ss : List Stmt} {pos : Pos} (J : Nat → Sig → Prop) (n : Nat) (h0 : J n σ)
    (h : ∀ n σ, J n σ → ∃ b, Tr C k σ t b ∧ (b = true → Ex C k σ body (fun σ' => ∃ m, m < n ∧ J m σ') (fun σ' => ∃ m, m < n ∧ J m σ') R) ∧ (b = false → Ex C k σ ss N K R)) :
    Ex C k σ (.While t body [] pos :: ss) N K R := by
  refine ex_cons fun β A G s Q E hr I q1 q2 q3 => wpAny_While ?_
  refine codeAny_whileLoop (fun m s' => ∃ G' σ', Inv C β σ' G' s' ∧ J m σ') ?_ n ⟨G, σ, I, h0⟩
  rintro m s' ⟨G', σ', I', hJ⟩
  obtain ⟨b, ht, hb, hs⟩ := h m σ' hJ
  refine ht β A G' s' _ _ hr I' fun G1 s1 st1 => ?_
  cases b with
  | true =>
    refine hb rfl β A G1 s1 _ _ hr (I'.step st1) (fun G2 s2 σ2 I2 ⟨m2, h2, j2⟩ => ⟨m2, h2, G2, σ2, I2, j2⟩) (fun G2 s2 σ2 I2 ⟨m2, h2, j2⟩ => ⟨m2, h2, G2, σ2, I2, j2⟩) fun G2 s2 v d I2 r2 hd => q3 G2 s2 v d I2 r2 hd
  | false => exact wpAny_execs_nil (q1 G1 s1 σ' (I'.step st1) (hs rfl))
end

noncomputable def CodeRecP (G : PMap) (cd : Value) (q : Str) : Prop := ∃ c o vs t, cd = .ref c ∧ G c = some o ∧ o.data = .fields vs ∧ vs[1]? = some (.str q t)
theorem CodeRecP.at {G : PMap} {h : Heap} {cd : Value} {q : Str} (x : CodeRecP G cd q) (s : Sub G h.get?) : h.CodeRec cd q := let ⟨c, o, vs, t, e, g, r⟩ := x; ⟨c, o, vs, t, e, s _ _ g, r⟩

theorem bindL_out {kd : Str → Option NameKind} {x : Str} : ∀ {binds : List (Str × Value)} {m : Str → Option Value}, x ∉ binds.map (·.1) → bindL kd binds m x = m x
  | [], _, _ => rfl
  | (n, v) :: r, m, h => by
    simp only [List.map_cons, List.mem_cons, not_or] at h
    unfold bindL
    rw [bindL_out h.2]
    split
    · exact if_neg h.1
    · rfl
theorem bindC_out {kd : Str → Option NameKind} {x : Str} : ∀ {binds : List (Str × Value)} {m : Str → Option Value}, x ∉ binds.map (·.1) → bindC kd binds m x = m x
  | [], _, _ => rfl
  | (n, v) :: r, m, h => by
    simp only [List.map_cons, List.mem_cons, not_or] at h
    unfold bindC
    rw [bindC_out h.2]
    split
    · rfl
    · exact if_neg h.1
theorem bindL_in {kd : Str → Option NameKind} {x : Str} {v : Value} (hk : kd x = some .local) : ∀ {binds : List (Str × Value)} {m : Str → Option Value}, (binds.map (·.1)).Nodup → (x, v) ∈ binds → bindL kd binds m x = some v
  | (n, u) :: r, m, hn, h => by
    simp only [List.map_cons, List.nodup_cons] at hn
    unfold bindL
    rcases List.mem_cons.mp h with e | h
    · cases e
      rw [bindL_out hn.1, if_pos hk]; exact if_pos rfl
    · exact bindL_in hk hn.2 h
theorem bindC_in {kd : Str → Option NameKind} {x : Str} {v : Value} (hk : kd x ≠ some .local) : ∀ {binds : List (Str × Value)} {m : Str → Option Value}, (binds.map (·.1)).Nodup → (x, v) ∈ binds → bindC kd binds m x = some v
  | (n, u) :: r, m, hn, h => by
    simp only [List.map_cons, List.nodup_cons] at hn
    unfold bindC
    rcases List.mem_cons.mp h with e | h
    · cases e
      rw [bindC_out hn.1, if_neg hk]; exact if_pos rfl
    · exact bindC_in hk hn.2 h

noncomputable def argSig (ps : List Str) (args : List Dat) : Sig := ps.zip (args.map Slot.val)

theorem zip_reps {G : PMap} {x : Str} {sl : Slot} : ∀ {ps : List Str} {vs : List Value} {args : List Dat}, Reps G vs args → (argSig ps args).lookup x = some sl → ∃ v d, sl = .val d ∧ (x, v) ∈ ps.zip vs ∧ Rep G v d
  | [], _, _, _, h => by simp [argSig] at h
  | p :: ps, _, _, .nil, h => by simp [argSig] at h
  | p :: ps, v :: vs, d :: ds, .cons h1 h2, h => by
    by_cases hx : x = p
    · subst hx
      simp only [argSig, List.map_cons, List.zip_cons_cons, lookup_cons_self] at h
      cases h
      exact ⟨v, d, rfl, by simp, h1⟩
    · simp only [argSig, List.map_cons, List.zip_cons_cons] at h
      rw [lookup_cons_ne _ _ hx] at h
      obtain ⟨v', d', e1, e2, e3⟩ := zip_reps (ps := ps) h2 h
      exact ⟨v', d', e1, by simp [e2], e3⟩

theorem lookup_of_mem_cells {x : Str} {names : List (Str × NameKind)} (n : Nat) (h : names.lookup x = some .cell) : ∃ c, (cellsFrom n names []).lookup x = some c := by
  have key : ∀ (names : List (Str × NameKind)) (n : Nat) (acc : List (Str × Addr)), names.lookup x = some .cell ∨ (acc.lookup x).isSome = true → ((cellsFrom n names acc).lookup x).isSome = true := by
    intro names
    induction names with
    | nil => intro n acc h; rcases h with h | h; cases h; exact h
    | cons y r ih =>
      obtain ⟨y, kd⟩ := y
      intro n acc h
      unfold cellsFrom
      by_cases hk : (kd == .cell) = true
      · rw [if_pos hk]
        refine ih _ _ ?_
        by_cases hy : x = y
        · refine .inr ?_; rw [hy, lookup_cons_self]; rfl
        · rw [lookup_cons_ne _ _ hy] at h
          rw [lookup_cons_ne _ _ hy]; exact h
      · rw [if_neg hk]
        refine ih _ _ ?_
        rcases h with h | h
        · by_cases hy : x = y
          · rw [hy, lookup_cons_self] at h; cases h; exact absurd rfl hk
          · rw [lookup_cons_ne _ _ hy] at h; exact .inl h
        · exact .inr h
  exact Option.isSome_iff_exists.mp (key names n [] (.inl h))

theorem fn_of {T : Txt} {k : Nat} {f : Str} {a : Addr} {o : Obj} {fd : FuncData} {body : List Stmt} {args : List Dat} {d : Dat} (ps : List Str)
    (hg : T.mg f = some (.ref a)) (ho : T.H a = some o) (hd : o.data = .func fd) (hcd : CodeRecP T.H fd.code fd.qualname) (hbody : fd.body = .stmts body) (hclo : fd.closure = []) (hglob : fd.globals = mainGlobals) (hbu : fd.builtins = builtinsNs)
    (hlen : ps.length = args.length) (hbind : ∀ vs : List Value, vs.length = ps.length → bindArgs fd ⟨vs, []⟩ = pure (ps.zip vs)) (hnd : ps.Nodup) (hkind : ∀ x ∈ ps, fd.scope.names.lookup x = some .local ∨ fd.scope.names.lookup x = some .cell)
    (hco : fd.scope.isCoroutine = false) (hgen : fd.scope.isGenerator = false) (hk : fd.scope.kind = .function)
    (h : ∀ C : Act, C.T = T → C.env.scope = fd.scope → (∀ x, fd.scope.names.lookup x = some .cell → ∃ c, C.env.cells.lookup x = some c) → Ex C k (argSig ps args) body (fun _ => False) (fun _ => False) (fun d' => d' = d)) :
    Fn T (k + 1) f args d := by
  refine ⟨a, o, fd, hg, ho, hd, fun A G s vs Q E hr hT hG hb hreps hq => wpAny_call ?_⟩
  have hvl : vs.length = ps.length := hreps.length.trans hlen.symm
  have hzip : (ps.zip vs).map (·.1) = ps := by rw [List.map_fst_zip]; omega
  refine codeAny_call_cells (body := body) (binds := ps.zip vs) (by have := hr.2.1; omega) (hG _ _ (hT _ _ ho)) hd (T.nolimit hT hG) (hcd.at (hT.trans hG)) hbody (hbind vs hvl) hclo ?_ ?_ hco hgen hk
  · intro x hx
    have hx' : x.1 ∈ ps := by rw [← hzip]; exact List.mem_map_of_mem hx
    rcases hkind _ hx' with e | e
    · exact .inl e
    · obtain ⟨c, hc⟩ := lookup_of_mem_cells (s.heap.objs.size + 1) e
      exact .inr ⟨e, by rw [hc]; rfl⟩
  · intro s₁ X
    let C : Act := { T := T, env := callEnvC fd s.heap.objs.size a, hg := hglob, hb := hbu, P := none, X := fun _ => True }
    have hres : ∀ b, s.heap.objs.size ≤ b → s.heap.get? b = none := fun b hb => by
      cases e : s.heap.get? b with
      | none => rfl
      | some o => exact absurd (Heap.lt_size e) (Nat.not_lt.mpr hb)
    have hresG : ∀ b, s.heap.objs.size ≤ b → G b = none := fun b hb => by
      cases e : G b with
      | none => rfl
      | some o => have := hG _ _ e; rw [hres b hb] at this; cases this
    obtain ⟨h₁, tk, hs₁⟩ := X.toInCall.same
    have hkinds : C.env.kindOf = fun x => fd.scope.names.lookup x := rfl
    have I : Inv C ⟨s.heap.get?, G, s.os⟩ (argSig ps args) G s₁ := by
      have hz : s.heap.objs.size ≤ C.env.locals := Nat.le_refl _
      have privc : ∀ x c, C.env.cells.lookup x = some c → s.heap.objs.size < c := fun x c hc => X.above x c (mem_of_lookup hc)
      have noP : ∀ {Z : Prop} {p : Addr}, C.P = some p → Z := fun hp => by cases hp
      refine ⟨⟨_, X.toInCall.ns⟩, hk, hT, .refl _, (fun b o e => X.toInCall.keep _ _ (hG _ _ e)), X.toInCall.keep, (fun b o e => .inl e), (by rw [hs₁]), (by rw [hs₁]; exact hb), (fun p hp => noP hp), (fun p hp => noP hp), ⟨hresG _ hz, hres _ hz, fun hp => noP hp⟩, ?_, ?_, ?_, fun _ => 0, ?_, ?_⟩
      · intro x c hkx hc
        have := privc x c hc
        exact ⟨hresG _ (Nat.le_of_lt this), hres _ (Nat.le_of_lt this), fun hp => by cases hp⟩
      · intro x c hkx hc
        exact ⟨Nat.ne_of_gt (privc x c hc), (fun hp => noP hp), _, X.cell x c hc⟩
      · intro x y c _ _ hx hy
        exact name_of_addr X.apart (mem_of_lookup hx) (mem_of_lookup hy)
      · intro x sl hx
        obtain ⟨v, d, rfl, hm, hr⟩ := zip_reps hreps hx
        have hx' : x ∈ ps := by rw [← hzip]; exact List.mem_map_of_mem (f := (·.1)) hm
        refine ⟨v, ?_, hr⟩
        rcases hkind x hx' with e | e
        · exact .inl ⟨e, _, X.toInCall.ns, bindL_in (kd := C.env.kindOf) e (by rw [hzip]; exact hnd) hm⟩
        · obtain ⟨c, hc⟩ := lookup_of_mem_cells (s.heap.objs.size + 1) e
          have := X.cell x c hc
          rw [bindC_in (by show fd.scope.names.lookup x ≠ _; rw [e]; simp) (by rw [hzip]; exact hnd) hm] at this
          exact .inr ⟨.inl e, c, hc, this⟩
      · intro x y sl sl' hx hy ho
        obtain ⟨v, d, rfl, _⟩ := zip_reps hreps hx
        cases ho
    have hr' : Room k (A.deeper C.env) := ⟨hr.1, by have := hr.2.1; show A.depth + 1 + _ < _; omega, by have := hr.2.2; show A.units + 3 + _ < _; omega⟩
    refine h C rfl rfl (fun x hx => lookup_of_mem_cells _ hx) ⟨s.heap.get?, G, s.os⟩ (A.deeper C.env) G s₁ _ _ hr' I (fun _ _ _ _ f => f.elim) (fun _ _ _ _ f => f.elim) fun G' s' v d' I' r' e => ?_
    subst e
    refine hq G' s' v ⟨I'.g0, fun b o e _ => I'.base b o e, fun b e => ?_, I'.old, I'.sub, I'.os, fun _ => I'.gens, fun p hp => by cases hp⟩ r'
    cases hb : s.heap.get? b with
    | none => rfl
    | some o => have := I'.base b o hb; rw [e] at this; cases this

section
variable {C : Act} {k : Nat} {σ : Sig} {N K : Sig → Prop} {R : Dat → Prop}

/-- x.append(e), x a list of the frame's own -/
theorem ex_append {x : Str} {px apos pos pos' : Pos} {e : Expr} {ds : List Dat} {d : Dat} {ss : List Stmt} (hx : σ.lookup x = some (.lst ds)) (hn : plainName x = true) (he : Ev C k σ e d) (hz : ds.length ≤ 16777216) (hp : plainArg e = true) (hline : (apos.endLine == pos.line) = true)
    (h : Ex C k ((x, .lst (ds ++ [d])) :: σ) ss N K R) : Ex C k σ (.Expr (.Call (.Attribute (.Name x px) "append" apos) [e] [] pos) pos' :: ss) N K R := by
  refine ex_cons fun β A G s Q E hr I q1 q2 q3 => wpAny_Expr ?_ ?_ (swaps_plain rfl ..)
  · have ht : backTo pos (starEach [e] C.env) = [(false, eval e C.env)] := by rw [starEach_plain hp]; rfl
    refine wpAny_Call_append rfl (by rw [ht]; rfl) hline ht ?_
    obtain ⟨ad, v1, _⟩ := I.vals
    have S : OwnSlot C β G s.heap x (ad x) (.lst ds) := v1 x _ hx
    obtain ⟨vs, n, ha, hd⟩ := S.at_
    refine wpAny_Name (loadLoc I S.loc ⟨ad x, vs.toArray, rfl, ⟨_, n, ha, rfl, rfl, rfl⟩, ?_⟩ (plainName.c hn)) (plainName.d hn)
    refine he β A G s _ E hr I fun G1 s1 v st1 r1 => ?_
    have I1 := I.step st1
    obtain ⟨ad', v1', _⟩ := I1.vals
    have S1 : OwnSlot C β G1 s1.heap x (ad' x) (.lst ds) := v1' x _ hx
    have eq : ad x = ad' x := by
      have L0 : Loc C.env s1.heap x (.ref (ad x)) := S.loc.keep (fun o e => st1.keep _ o e I.privL.p) fun c o hk hc e => st1.keep _ o e (I.cells x c hk hc).2.1
      exact Value.ref.inj (L0.uniq S1.loc)
    rw [eq]
    obtain ⟨vs1, n1, ha1, hd1⟩ := S1.at_
    have hz' : vs1.toArray.size ≤ sizeLine := by rw [List.size_toArray, hd1.length, sizeLine_eq]; exact hz
    refine call_meets F.slot_list_append (isList_of ha1).typeIs F.entry_list_append (F.args_list_append_2 _ _) (list_append (ad' x) vs1.toArray n1 v hz') ⟨ha1, ?_⟩
    obtain ⟨n', hnew⟩ : ∃ n', (s1.heap.update (ad' x) (Obj.mapSeq fun xs => xs.push v)).get? (ad' x) = some (listObj (vs1 ++ [v]) n') := by
      have := IsL.update (h := s1.heap) ha1 (fun xs => xs.push v)
      rw [show vs1.toArray.push v = (vs1 ++ [v]).toArray by simp] at this
      exact ⟨_, this⟩
    exact q1 G1 _ _ (I1.setOwn (sl' := .lst (ds ++ [d])) hx rfl S1 (Heap.SameBut.update ..) rfl ⟨vs1 ++ [v], n', hnew, hd1.append (.one r1)⟩) h
  · show (C.env.scope.kind == .module && _) = false
    rw [I.kind]; rfl
end

/-- an iterable: what its iterator hands out -/
structure Walk (T : Txt) (A : Around) (G : PMap) (s : Shared) (i : Addr) (ds : List Dat) (fp : List Addr) (n : Nat) (Pv : Nat → Value → Prop) (St : Nat → Heap → Prop) : Prop where
  W : Walks T.prog T.w A i fp [i] n Pv St
  len : n = ds.length
  fp : ∀ b ∈ fp, b = i ∨ ∃ o, G b = some o
  P : ∀ j v, j < n → Pv j v → ∃ d, ds[j]? = some d ∧ Rep G v d
  st : St 0 s.heap
  ex : ∀ j h, St j h → ∃ o, h.get? i = some o

noncomputable def Src (C : Act) (k : Nat) (σ : Sig) (e : Expr) (ds : List Dat) : Prop :=
  ∀ (β : Bs) (A : Around) (G : PMap) (s : Shared) (Q : Value → Shared → Prop) (E : Value → Shared → Prop), Room k A → Inv C β σ G s →
    (∀ G' s' i fp n Pv St, Stp C G s G' s' → s.heap.get? i = none → G' i = none → Walk C.T A G' s' i ds fp n Pv St → Q (.ref i) s') →
    wpAny (model C.T.prog C.T.w) A (eval e C.env) (fun x s₁ => wpAny (model C.T.prog C.T.w) A (pyIter x) Q E s₁) E s

section
variable {C : Act} {k : Nat} {σ : Sig} {N K : Sig → Prop} {R : Dat → Prop}

theorem src_list {e : Expr} {ds : List Dat} (he : Ev C k σ e (.lst ds)) : Src C k σ e ds := by
  intro β A G s Q E hr I h
  refine he β A G s _ E hr I fun G1 s1 v st1 r1 => ?_
  cases r1 with
  | lst ha hd =>
    rename_i a vs n
    have I1 := I.step st1
    have hl : s1.heap.get? a = some (listObj vs n) := I1.sub _ _ ha
    refine wpAny_pyIter_list (isList_of hl) ?_
    have hne : a ≠ s1.heap.objs.size := Nat.ne_of_lt (Heap.lt_size hl)
    have g := Grow.alloc (o := { cls := .type "list_iterator", data := .fields #[.ref a, .int 0 0] }) (tk := s1.toks) I1.sub
    refine h G1 _ _ _ _ _ _ (st1.trans (I1.grow g)) (st1.dom _ get?_size) ?_ ⟨Walks.list hr.1 s1.heap.objs.size a hne vs.toArray, by rw [List.size_toArray, hd.length], fun b hb => ?_, fun j v _ hv => ?_, ⟨⟨_, Heap.get?_push_size _ rfl, rfl, rfl⟩, (isList_of hl).push _⟩, fun j h st => ?_⟩
    · exact (Off.fresh I1 get?_size).priv.g
    · simp at hb
      rcases hb with rfl | rfl
      · exact .inl rfl
      · exact .inr ⟨_, ha⟩
    · obtain ⟨d, h1, h2⟩ := hd.getv (k := j) (v := v) (by simpa using hv)
      exact ⟨d, h1, h2⟩
    · obtain ⟨⟨o, ho, _⟩, _⟩ := st; exact ⟨o, ho⟩

theorem src_range {e : Expr} {rp rpos : Pos} {m : Nat} (H : HasRange C) (he : Ev C k σ e (.int m)) (hp : plainArg e = true) (hm : (m : Int) < 2 ^ 62) : Src C k σ (.Call (.Name "range" rp) [e] [] rpos) (rangeD m) := by
  intro β A G s Q E hr I h
  refine iter_range H he hp hm hr I fun G1 s1 i I1 O1 st1 h0 hit => ?_
  refine h G1 s1 i _ _ _ _ st1 h0 O1.priv.g ⟨Walks.range hr.1 i 0 1 m, (rangeD_length m).symm, fun b hb => .inl (by simpa using hb), fun j v hj hv => ?_, hit, fun j h st => ⟨_, st⟩⟩
  obtain ⟨t, rfl⟩ := hv
  refine ⟨_, rangeD_get hj, ?_⟩
  have : (0 : Int) + (j : Int) * 1 = (j : Int) := by omega
  rw [this]; exact .int _ _

/-- the tests of a clause -/
noncomputable def Tst (C : Act) (k : Nat) (σ : Sig) (ifs : List Expr) (b : Bool) : Prop :=
  ∀ (β : Bs) (A : Around) (G : PMap) (s : Shared) (Q : Bool → Shared → Prop) (E : Value → Shared → Prop), Room k A → Inv C β σ G s →
    (∀ G' s', Stp C G s G' s' → Q b s') →
    wpAny (model C.T.prog C.T.w) A (forIn ifs true fun c r => if r = true then do let ok ← isTrue c C.env (eval c C.env); pure (ForInStep.yield ok) else pure (ForInStep.yield r)) Q E s
theorem tst_nil : Tst C k σ [] true := fun β A G s Q E hr I h => wpAny_tests_nil (h G s (Step.refl I.sub))
theorem tst_one {c : Expr} {b : Bool} (h1 : Tr C k σ c b) : Tst C k σ [c] b := fun β A G s Q E hr I h => wpAny_tests_one (h1 β A G s _ E hr I h)

/-- a change at one place that stood not at the beginning -/
theorem Step.touch {P : Option Addr} {X : Option Obj → Prop} {G G' : PMap} {s s' : Shared} {h' : Heap} {tk : Nat} {a : Addr} (st : Step P X G s G' s') (h0 : s.heap.get? a = none) (hg : G' a = none) (hp : P ≠ some a) (hpx : ∀ p, P = some p → s'.heap.get? p ≠ none)
    (hk : ∀ b o, b ≠ a → s'.heap.get? b = some o → h'.get? b = some o) : Step P X G s G' { s' with heap := h', toks := tk } where
  sub := st.sub
  keep := fun b o e n => hk b o (fun h => by rw [h, h0] at e; cases e) (st.keep b o e n)
  dom := fun b e => by
    by_cases hb : b = a
    · rw [hb]; exact h0
    · refine st.dom b ?_
      cases e' : s'.heap.get? b with
      | none => rfl
      | some o => have := hk b o hb e'; rw [show h'.get? b = none from e] at this; cases this
  fresh := st.fresh
  sub' := fun b o e => hk b o (fun h => by rw [h, hg] at e; cases e) (st.sub' b o e)
  os := st.os
  gens := st.gens
  tab := fun p hp' hx => by
    have h1 := st.tab p hp' hx
    cases e : s'.heap.get? p with
    | none => exact absurd e (hpx p hp')
    | some o =>
      have : h'.get? p = some o := hk p o (fun h => hp (h ▸ hp')) e
      show X (h'.get? p)
      rw [this]; rw [e] at h1; exact h1

structure CFix (C Cc : Act) (σc : Sig) (s : Shared) (i D : Addr) : Prop where
  T : Cc.T = C.T
  P : Cc.P = C.P
  X : Cc.X = C.X
  i0 : s.heap.get? i = none
  D0 : s.heap.get? D = none
  L0 : s.heap.get? Cc.env.locals = none
  iD : i ≠ D
  iL : i ≠ Cc.env.locals
  DL : D ≠ Cc.env.locals
  pex : ∀ p, C.P = some p → s.heap.get? p ≠ none
  cex : ∀ y c, CellK Cc.env y → Cc.env.cells.lookup y = some c → s.heap.get? c ≠ none
  vals : ∀ x sl, σc.lookup x = some sl → sl.own = false

/-- the cells that a comprehension sees -/
noncomputable def clo (cells : List (Str × Addr)) : List (Str × NameKind) → List (Str × Addr) → List (Str × Addr)
  | [], acc => acc
  | (x, kd) :: r, acc => if kd == .free then clo cells r ((x, (cells.lookup x).getD 0) :: acc) else clo cells r acc

theorem closureFor_eq {scope : Scope} {env : Env} (h : ∀ p ∈ scope.names, p.2 = .free → ∃ c, env.cells.lookup p.1 = some c) : closureFor scope env = pure (clo env.cells scope.names []) := by
  unfold closureFor
  have key : ∀ (names : List (Str × NameKind)) (acc : List (Str × Addr)), (∀ p ∈ names, p.2 = .free → ∃ c, env.cells.lookup p.1 = some c) →
      (forIn (m := Sem) names acc fun x r => match x with
        | (name, kind) => if (kind == NameKind.free) = true then do let c ← cellOf env name; pure (ForInStep.yield ((name, c) :: r)) else pure (ForInStep.yield r)) = pure (clo env.cells names acc) := by
    intro names
    induction names with
    | nil => intro acc _; rfl
    | cons y r ih =>
      obtain ⟨x, kd⟩ := y
      intro acc hn
      rw [List.forIn_cons]
      unfold clo
      by_cases hk : (kd == NameKind.free) = true
      · obtain ⟨c, hc⟩ := hn (x, kd) (by simp) (by simpa using hk)
        have hcell : cellOf env x = pure c := by unfold cellOf; rw [hc]
        simp only [hk, if_true, hcell, hc, Option.getD_some]
        exact ih _ fun p hp => hn p (List.mem_cons_of_mem _ hp)
      · simp only [hk]
        exact ih _ fun p hp => hn p (List.mem_cons_of_mem _ hp)
  have := key scope.names [] h
  exact congrArg (fun t : Sem (List (Str × Addr)) => t >>= pure) this

theorem clo_mem {cells : List (Str × Addr)} : ∀ {names : List (Str × NameKind)} {acc : List (Str × Addr)} {x : Str} {c : Addr}, (x, c) ∈ clo cells names acc → (x, c) ∈ acc ∨ ((x, NameKind.free) ∈ names ∧ c = (cells.lookup x).getD 0)
  | [], acc, x, c, h => .inl h
  | (y, kd) :: r, acc, x, c, h => by
    unfold clo at h
    by_cases hk : (kd == NameKind.free) = true
    · rw [if_pos hk] at h
      have hk' : kd = .free := by simpa using hk
      rcases clo_mem h with h | ⟨h1, h2⟩
      · rcases List.mem_cons.mp h with e | h
        · cases e; exact .inr ⟨by rw [hk']; simp, rfl⟩
        · exact .inl h
      · exact .inr ⟨List.mem_cons_of_mem _ h1, h2⟩
    · rw [if_neg hk] at h
      rcases clo_mem h with h | ⟨h1, h2⟩
      · exact .inl h
      · exact .inr ⟨List.mem_cons_of_mem _ h1, h2⟩
theorem clo_has {cells : List (Str × Addr)} {x : Str} {c : Addr} (hc : cells.lookup x = some c) : ∀ {names : List (Str × NameKind)} {acc : List (Str × Addr)}, (x, NameKind.free) ∈ names ∨ acc.lookup x = some c → (clo cells names acc).lookup x = some c
  | [], acc, h => by
    rcases h with h | h
    · cases h
    · exact h
  | (y, kd) :: r, acc, h => by
    unfold clo
    by_cases hk : (kd == NameKind.free) = true
    · rw [if_pos hk]
      refine clo_has hc ?_
      by_cases hy : x = y
      · subst hy; refine .inr ?_; rw [lookup_cons_self, hc]; rfl
      · rw [lookup_cons_ne _ _ hy]
        refine h.imp (fun h => ?_) id
        rcases List.mem_cons.mp h with e | h
        · cases e; exact absurd rfl hy
        · exact h
    · rw [if_neg hk]
      refine clo_has hc (h.imp (fun h => ?_) id)
      rcases List.mem_cons.mp h with e | h
      · cases e; exact absurd rfl hk
      · exact h

theorem relabel_free {env : Env} (hf : env.scope.kind = .function) : ∀ {names : List (Str × NameKind)} {x : Str}, names.lookup x = some .free → env.kindOf x = some .cell →
    (names.map fun (n, k) => if (k == NameKind.free && env.scope.kind == .function && env.kindOf n == some .cell) then (n, NameKind.cell) else (n, k)).lookup x = some .cell
  | [], _, h, _ => by simp at h
  | (n, kd) :: r, x, h, hc => by
    rw [List.map_cons]
    by_cases hx : x = n
    · subst hx
      rw [lookup_cons_self] at h; cases h
      have : (NameKind.free == NameKind.free && env.scope.kind == .function && env.kindOf x == some .cell) = true := by rw [hf, hc]; rfl
      simp only [this, if_true]
      exact lookup_cons_self ..
    · rw [lookup_cons_ne _ _ hx] at h
      have ih := relabel_free hf h hc
      by_cases hq : (kd == NameKind.free && env.scope.kind == .function && env.kindOf n == some .cell) = true
      · simp only [hq, if_true]; rw [lookup_cons_ne _ _ hx]; exact ih
      · simp only [hq]; rw [if_neg (by simp), lookup_cons_ne _ _ hx]; exact ih

noncomputable def compAct (C : Act) (scope : Scope) (L : Addr) : Act := { C with env := compEnvC scope (clo C.env.cells scope.names []) L C.env, hg := C.hg, hb := C.hb }

/-- what a comprehension asks of its block -/
structure CompOk (C : Act) (σ σc : Sig) (scope : Scope) (x : Str) : Prop where
  kind : scope.kind = .function
  nocell : ∀ y ∈ scope.names, y.2 ≠ .cell
  names : ∀ y ∈ scope.names, y.2 = .local → scope.names.lookup y.1 = some .local
  tx : scope.names.lookup x = some .local
  xσ : σc.lookup x = none
  free : ∀ y ∈ scope.names, y.2 = .free → C.env.kindOf y.1 = some .cell ∧ ∃ c, C.env.cells.lookup y.1 = some c
  vals : ∀ y sl, σc.lookup y = some sl → (∃ d, sl = .val d) ∧ σ.lookup y = some sl ∧ (y, NameKind.free) ∈ scope.names ∧ scope.names.lookup y = some .free

theorem swaps_comp {elt : Expr} {gens : List Comprehension} {scope : Scope} {pos py : Pos} {y : Str} {line : Nat} (hk : C.env.scope.kind = .function) (hy : C.env.kindOf y = some .local) (hl : (py.line == pos.line) = true) (hn : (scope.names.any fun (n, k) => n == y && (k == .local || k == .cell)) = false) :
    swapsWith (.ListComp elt gens scope pos) (some (.Name y py)) line C.env = pure true := by
  show (pure (C.env.blockKind == .function && C.env.kindOf y == some .local && py.line == pos.line && !(scope.names.any fun (n, k) => n == y && (k == .local || k == .cell))) : Sem Bool) = pure true
  have hbk : C.env.blockKind = .function := by unfold Env.blockKind; rw [hk]; rfl
  rw [hbk, hy, hl, hn]; rfl

end

section
variable {C : Act} {k : Nat} {σ : Sig} {N K : Sig → Prop} {R : Dat → Prop}

/-- list(e) -/
theorem evF_listOf {p pos : Pos} {e : Expr} {ds : List Dat} (hk : C.env.kindOf "list" = some .globalImplicit) (hg : C.T.mg "list" = none) (hb : C.T.mb "list" = some (.type "list")) (h1 : EvB C k σ e ds) (hz : ds.length ≤ 16777216) (hp : plainArg e = true) :
    EvF C k σ (.Call (.Name "list" p) [e] [] pos) ds := by
  intro β A G s Q E hr I h
  refine callBuiltin (id := "list") I hk (by decide +kernel) hg hb ?_
  refine PySem.callWith_type (backTo_plain _ _ (by simp [hp])) (evalArgs_B hp h1 hr I fun G1 s1 a vs n st1 p1 e1 r1 => ?_)
  have I1 := I.step st1
  refine call_list_seq a (.inl rfl) e1 rfl rfl (fun h' c' hk' hnew => ?_) (by rw [List.size_toArray, r1.length, sizeLine_eq]; exact hz)
  have hn : s1.heap.get? s1.heap.objs.size = none := get?_size
  have g := Grow.kept (tk := s1.toks) I1.sub hk'
  refine h G1 _ _ vs c' (st1.trans (I1.grow g)) (st1.dom _ hn) ?_ hnew r1
  cases e : G1 s1.heap.objs.size with
  | none => rfl
  | some o => have := I1.sub _ _ e; rw [hn] at this; cases this

theorem ints_of_reps {G : PMap} {vs : List Value} {ns : List Int} (h : Reps G vs (ns.map Dat.int)) : IntsAre vs ns := by
  induction ns generalizing vs with
  | nil => cases h; exact .nil
  | cons n r ih => cases h with | cons h1 h2 => cases h1; exact .cons _ _ (ih h2)
theorem reps_of_ints {G : PMap} : ∀ {vs : List Value} {ns : List Int}, IntsAre vs ns → Reps G vs (ns.map Dat.int)
  | _, _, .nil => .nil
  | _, _, .cons i t r => .cons (.int i t) (reps_of_ints r)

/-- sorted(e) -/
theorem ev_sorted {p pos : Pos} {e : Expr} {ns out : List Int} (hk : C.env.kindOf "sorted" = some .globalImplicit) (hg : C.T.mg "sorted" = none) (hb : C.T.mb "sorted" = some (.builtin "sorted")) (h1 : EvB C k σ e (ns.map Dat.int)) (hz : ns.length < 64) (hp : plainArg e = true)
    (ho : out.Perm ns) (hs : out.Pairwise (· ≤ ·)) : Ev C k σ (.Call (.Name "sorted" p) [e] [] pos) (.lst (out.map Dat.int)) := by
  intro β A G s Q E hr I h
  refine callBuiltin (id := "sorted") I hk (by decide +kernel) hg hb ?_
  refine Calls.callWith_builtin (backTo_plain _ _ (by simp [hp])) (evalArgs_B hp h1 hr I fun G1 s1 a vs n st1 p1 e1 r1 => ?_)
  have I1 := I.step st1
  have hlen := r1.length
  rw [List.length_map] at hlen
  refine sorted_ints (isList_of e1) (ints_of_reps r1) (by omega) fun o ns' a1 a2 a3 => ?_
  have hout : ns' = out := (a2.trans ho.symm).eq_of_pairwise (fun a b _ _ h1 h2 => Int.le_antisymm h1 h2) a3 hs
  subst hout
  obtain ⟨ep, he⟩ := sortedAll_at s1.heap vs o
  have g := Grow.kept (tk := s1.toks) I1.sub (fun b o' e => sortedAll_old (vs := vs) (out := o) e)
  have hn : s1.heap.get? (s1.heap.objs.size + 1) = none := by
    cases e : s1.heap.get? (s1.heap.objs.size + 1) with
    | none => rfl
    | some o' => exact absurd (Heap.lt_size e) (Nat.not_lt.mpr (Nat.le_succ _))
  have hgn : G1 (s1.heap.objs.size + 1) = none := by
    cases e : G1 (s1.heap.objs.size + 1) with
    | none => rfl
    | some o => have := I1.sub _ _ e; rw [hn] at this; cases this
  have st2 := st1.trans (I1.grow g)
  have sub : Sub G1 (G1.add (s1.heap.objs.size + 1) (listObj o.toList ep)) := fun b o' e => by
    have : b ≠ s1.heap.objs.size + 1 := fun h => by rw [h, hgn] at e; cases e
    rw [PMap.add_ne _ _ this]; exact e
  refine h (G1.add (s1.heap.objs.size + 1) (listObj o.toList ep)) _ _ ?_ (.lst (PMap.add_self ..) (reps_of_ints a1))
  refine ⟨st1.sub.trans sub, st2.keep, st2.dom, fun b o' e => ?_, fun b o' e => ?_, st2.os, st2.gens, st2.tab⟩
  · by_cases hb : b = s1.heap.objs.size + 1
    · rw [hb]; exact .inr (st1.dom _ hn)
    · rw [PMap.add_ne _ _ hb] at e; exact st1.fresh b o' e
  · by_cases hb : b = s1.heap.objs.size + 1
    · rw [hb, PMap.add_self] at e; cases e; rw [hb]
      simpa [seqObj] using he
    · rw [PMap.add_ne _ _ hb] at e; exact st2.sub' b o' e

/-- x[i] = e, x a list of the frame's own -/
theorem ex_setIdx {x : Str} {px pos pos' : Pos} {i e : Expr} {ds : List Dat} {d : Dat} {j : Int} {ss : List Stmt} (hx : σ.lookup x = some (.lst ds)) (hn : plainName x = true) (he : Ev C k σ e d) (hi : Ev C k σ i (.int j)) (hp : plainRhs e = true) (h0 : 0 ≤ j) (hj : j < ds.length) (hz : ds.length ≤ 16777216)
    (h : Ex C k ((x, .lst (ds.set j.toNat d)) :: σ) ss N K R) : Ex C k σ (.Assign [.Subscript (.Name x px) i pos'] e pos :: ss) N K R := by
  refine ex_cons fun β A G s Q E hr I q1 q2 q3 => wpAny_Assign_Subscript (he β A G s _ E hr I fun G1 s1 v st1 r1 => ?_) (swaps_plain hp ..)
  have I1 := I.step st1
  obtain ⟨ad, v1, _⟩ := I1.vals
  have S : OwnSlot C β G1 s1.heap x (ad x) (.lst ds) := v1 x _ hx
  obtain ⟨vs, n, ha, hd⟩ := S.at_
  refine wpAny_Name (loadLoc I1 S.loc ?_ (plainName.c hn)) (plainName.d hn)
  refine hi β A G1 s1 _ E hr I1 fun G2 s2 vi st2 r2 => ?_
  cases r2
  have I2 := I1.step st2
  have ha2 : s2.heap.get? (ad x) = some (listObj vs n) := st2.keep _ _ ha S.priv.p
  have S2 : OwnSlot C β G2 s2.heap x (ad x) (.lst ds) := S.keep st2.sub (fun o e => st2.keep _ o e I1.privL.p) (fun c o hk hc e => st2.keep _ o e (I1.cells x c hk hc).2.1) (fun o e => st2.keep _ o e S.priv.p) (S.priv.step st2 ⟨_, ha⟩)
  have hlen := hd.length
  refine PySem.W.ki_setAt (n := n) (items := vs.toArray) ha2 h0 (by omega) (by rw [List.size_toArray]; omega) ?_
  obtain ⟨n', hnew⟩ : ∃ n', (s2.heap.update (ad x) (Obj.mapSeq fun xs => xs.setIfInBounds j.toNat v)).get? (ad x) = some (listObj (vs.set j.toNat v) n') := by
    have := IsL.update (h := s2.heap) ha2 (fun xs => xs.setIfInBounds j.toNat v)
    rw [show vs.toArray.setIfInBounds j.toNat v = (vs.set j.toNat v).toArray by simp] at this
    exact ⟨_, this⟩
  exact q1 G2 _ _ (I2.setOwn (sl' := .lst (ds.set j.toNat d)) (tk := s2.toks) hx rfl S2 (Heap.SameBut.update ..) rfl ⟨_, n', hnew, (hd.mono st2.sub).set (r1.mono st2.sub)⟩) h

theorem ne_sysModules {β : Bs} {G : PMap} {s : Shared} {a : Addr} (I : Inv C β σ G s) (hp : G a = none) : (a == sysModules) = false := by
  obtain ⟨o, ho⟩ := C.T.sysm
  have := I.text _ _ ho
  cases e : a == sysModules with
  | false => rfl
  | true => rw [beq_iff_eq.mp e] at hp; rw [hp] at this; cases this

theorem valueAt_stored (kvs : List (Int × Value)) (key : Int) (v : Value) (x : Int) : (valueAt (stored kvs key v) x).isSome = (decide (x = key) || (valueAt kvs x).isSome) := by
  unfold valueAt stored
  split
  · rename_i h
    induction kvs with
    | nil => simp at h
    | cons p r ih =>
      simp only [List.map_cons, List.find?_cons]
      by_cases hp : p.1 = key
      · simp only [hp, if_true]
        by_cases hx : key = x
        · simp [hx]
        · simp only [hx, decide_false]
          have hx' : ¬ x = key := fun e => hx e.symm
          simp only [hx', decide_false, Bool.false_or]
          clear ih h
          induction r with
          | nil => rfl
          | cons q r ih =>
            simp only [List.map_cons, List.find?_cons]
            by_cases hq : q.1 = key
            · simp only [hq, if_true, hx, decide_false]; exact ih
            · simp only [hq, if_false]
              by_cases hqx : q.1 = x
              · simp [hqx]
              · simp only [hqx, decide_false]; exact ih
      · simp only [hp, if_false]
        by_cases hpx : p.1 = x
        · simp [hpx]
        · simp only [hpx, decide_false]
          refine ih ?_
          simpa [hp] using h
  · rename_i h
    rw [List.find?_append]
    cases hf : kvs.find? fun kv => decide (kv.1 = x) with
    | some p => simp
    | none =>
      by_cases hx : key = x
      · simp [hx]
      · have hx' : ¬ x = key := fun e => hx e.symm
        simp [hx, hx']

theorem pairs_any {p p' : Program} {w w' : World} {es : List DictEntry} {kvs : List (Int × Value)} (x : Pairs (intKind p w) es kvs) : Pairs (intKind p' w') es kvs := by
  induction x with
  | nil => exact .nil
  | cons h1 h2 _ ih => exact .cons h1 h2 ih
theorem dictOf_any {h : Heap} {a : Addr} {kvs : List (Int × Value)} {p p' : Program} {w w' : World} (x : h.DictOf (intKind p w) a kvs) : h.DictOf (intKind p' w') a kvs := by
  obtain ⟨o, es, ep, h1, h2, h3, h4, h5, h6⟩ := x
  exact ⟨o, es, ep, h1, h2, h3, fun e he => h4 e he, pairs_any h5, h6⟩

/-- x = {k: v} -/
theorem ex_dict1 {x : Str} {p pos pos' : Pos} {ek ev : Expr} {a : Int} {d : Dat} {ss : List Stmt} (hx : Wr C x) (hk : Ev C k σ ek (.int a)) (hv : Ev C k σ ev d) (h : Ex C k ((x, .set [a]) :: σ) ss N K R) :
    Ex C k σ (.Assign [.Name x p] (.Dict [some ek] [ev] pos') pos :: ss) N K R := by
  refine ex_cons fun β A G s Q E hr I q1 q2 q3 => wpAny_Assign_Name ?_ (swaps_plain rfl ..)
  refine wpAny_Dict_walk (knd := intKind C.T.prog C.T.w) rfl rfl (by simp) (by simp) ?_
  have g0 := Grow.alloc (o := { cls := .type "dict", data := .dict #[] }) (tk := s.toks) I.sub
  have st0 := I.grow g0
  have I0 := I.step st0
  refine pairTrees_cons_walk (hk β A G _ _ E hr I0 fun G1 s1 v1 st1 r1 => hv β A G1 s1 _ E hr (I0.step st1) fun G2 s2 v2 st2 r2 => pairTrees_nil_walk ?_)
  obtain ⟨t, rfl⟩ : ∃ t, v1 = .int a t := by cases r1; exact ⟨_, rfl⟩
  have hs0 : s.heap.get? s.heap.objs.size = none := get?_size
  have hd0 : (s.heap.push { cls := .type "dict", data := .dict #[] }).get? s.heap.objs.size = some { cls := .type "dict", data := .dict #[] } := Heap.get?_push_size _ rfl
  have hp0 : C.P ≠ some s.heap.objs.size := fun hp => (I.tab _ hp).2 hs0
  have hd2 : s2.heap.get? s.heap.objs.size = some { cls := .type "dict", data := .dict #[] } := st2.keep _ _ (st1.keep _ _ hd0 hp0) hp0
  have I2 := (I0.step st1).step st2
  have dn : s2.heap.DictOf (intKind C.T.prog C.T.w) s.heap.objs.size [] := ⟨_, #[], 0, hd2, ⟨rfl, rfl, rfl⟩, rfl, (fun e he => by simp at he), .nil, .nil⟩
  refine ⟨[(a, v2)], ?_, dn, fun h' hm hs' => ?_⟩
  · exact carries_intKeyPairs C.T.prog C.T.w [(.int a t, v2)] rfl
  · have stA := (st0.trans st1).trans st2
    have hgn : G2 s.heap.objs.size = none := by
      cases e : G2 s.heap.objs.size with
      | none => rfl
      | some o =>
        rcases (st1.trans st2).fresh _ _ e with h | h
        · have := I.sub _ _ h; rw [hs0] at this; cases this
        · rw [show (s.heap.push { cls := .type "dict", data := .dict #[] }).get? s.heap.objs.size = _ from hd0] at h; cases h
    have stB : Stp C G s G2 { s2 with heap := h', toks := s2.toks + 1 } := stA.touch hs0 hgn hp0 (fun q hq => (I2.tab q hq).2) (fun b o hb e => (hs'.2 b hb).trans e)
    have hm' : merged [] [(a, v2)] = [(a, v2)] := rfl
    rw [hm'] at hm
    refine wpAny_store (I.step stB) hx (given_fresh (sl := .set [a]) I stB hs0 hgn rfl ⟨[(a, v2)], ?_, fun _ _ => dictOf_any hm, Nat.le_refl _, fun z => ?_⟩) fun h'' tk I' => q1 G2 _ _ I' h
    · obtain ⟨o, _, _, ho, _⟩ := hm; exact ⟨o, ho⟩
    · by_cases hz : a = z
      · simp [valueAt, hz]
      · have hz' : ¬ z = a := fun e => hz e.symm
        simp [valueAt, hz, hz']

/-- e not in x, x a table of the frame's own -/
theorem tr_notin {x : Str} {px pos : Pos} {e : Expr} {a : Int} {ks : List Int} (hx : σ.lookup x = some (.set ks)) (hn : plainName x = true) (he : Ev C k σ e (.int a)) : Tr C k σ (.Compare e [.NotIn] [.Name x px] pos) (!decide (a ∈ ks)) := by
  intro β A G s Q E hr I h
  refine wpAny_isTrue_Compare1 (he β A G s _ E hr I fun G1 s1 v st1 r1 => ?_) rfl
  have I1 := I.step st1
  obtain ⟨ad, v1, _⟩ := I1.vals
  have S : OwnSlot C β G1 s1.heap x (ad x) (.set ks) := v1 x _ hx
  obtain ⟨kvs, _, hd, _, hks⟩ := S.at_
  refine wpAny_Name (loadLoc I1 S.loc ?_ (plainName.c hn)) (plainName.d hn)
  cases r1
  refine wpAny_notIn_of (knd := intKind C.T.prog C.T.w) (intKind_is ..) (ne_sysModules I1 S.priv.g) (hd _ _).mapOf (wpAny_truthy_bool ?_)
  rw [hks]
  exact h G1 _ (st1.trans (I1.grow (Grow.toks I1.sub)))

/-- x[e] = v, x a table of the frame's own -/
theorem ex_setKey {x : Str} {px pos pos' : Pos} {i e : Expr} {ks : List Int} {d : Dat} {j : Int} {ss : List Stmt} (hx : σ.lookup x = some (.set ks)) (hn : plainName x = true) (he : Ev C k σ e d) (hi : Ev C k σ i (.int j)) (hp : plainRhs e = true) (hz : ks.length ≤ 1000000)
    (h : Ex C k ((x, .set (j :: ks)) :: σ) ss N K R) : Ex C k σ (.Assign [.Subscript (.Name x px) i pos'] e pos :: ss) N K R := by
  refine ex_cons fun β A G s Q E hr I q1 q2 q3 => wpAny_Assign_Subscript (he β A G s _ E hr I fun G1 s1 v st1 r1 => ?_) (swaps_plain hp ..)
  have I1 := I.step st1
  obtain ⟨ad, v1, _⟩ := I1.vals
  have S : OwnSlot C β G1 s1.heap x (ad x) (.set ks) := v1 x _ hx
  refine wpAny_Name (loadLoc I1 S.loc ?_ (plainName.c hn)) (plainName.d hn)
  refine hi β A G1 s1 _ E hr I1 fun G2 s2 vi st2 r2 => ?_
  cases r2
  have I2 := I1.step st2
  have S2 : OwnSlot C β G2 s2.heap x (ad x) (.set ks) := S.keep st2.sub (fun o e => st2.keep _ o e I1.privL.p) (fun c o hk hc e => st2.keep _ o e (I1.cells x c hk hc).2.1) (fun o e => st2.keep _ o e S.priv.p) (S.priv.step st2 (S.at_.ex rfl))
  obtain ⟨kvs, _, hd, hl, hks⟩ := S2.at_
  refine wpAny_setItem_pairs (knd := intKind C.T.prog C.T.w) (intKind_is ..) (hd _ _) (fun h' hm hs => ?_) (by rw [sizeLine_eq]; omega)
  refine q1 G2 _ _ (I2.setOwn (sl' := .set (j :: ks)) (tk := s2.toks + 1) hx rfl S2 hs rfl ⟨stored kvs j v, ?_, fun _ _ => dictOf_any hm, ?_, fun z => ?_⟩) h
  · obtain ⟨o, _, _, ho, _⟩ := hm; exact ⟨o, ho⟩
  · have := stored_length_le kvs j v; rw [List.length_cons]; omega
  · rw [valueAt_stored, hks]; simp [Bool.decide_or]
end

section
variable {C : Act} {k : Nat} {σ : Sig} {N K : Sig → Prop} {R : Dat → Prop}

inductive Targets : List Expr → List Str → Prop
  | nil : Targets [] []
  | cons {x : Str} {p : Pos} {es : List Expr} {xs : List Str} : Targets es xs → Targets (.Name x p :: es) (x :: xs)
noncomputable def unp : List Str → List Dat → Sig → Sig
  | x :: xs, d :: ds, σ => unp xs ds ((x, .val d) :: σ)
  | _, _, σ => σ

theorem targets_len {es : List Expr} {xs : List Str} (h : Targets es xs) (env : Env) : (assignEach es env).length = xs.length ∧ (assignEach es env).findIdx? (·.1) = none := by
  induction h with
  | nil => exact ⟨rfl, rfl⟩
  | cons _ ih =>
    rename_i x p es xs _
    have : assignEach (.Name x p :: es) env = (false, assign (.Name x p) env) :: assignEach es env := rfl
    rw [this]
    refine ⟨by simp [ih.1], ?_⟩
    rw [List.findIdx?_cons]
    simp [ih.2]

theorem assign_all {β : Bs} {A : Around} {E : Value → Shared → Prop} {Q : Unit → Shared → Prop} {es : List Expr} {xs : List Str} (h : Targets es xs) : ∀ (vs : List Value) (ds : List Dat) (σ : Sig) (G : PMap) (s : Shared), (∀ x ∈ xs, Wr C x) → Inv C β σ G s → Reps G vs ds → vs.length = xs.length →
    (∀ s', Inv C β (unp xs ds σ) G s' → Q () s') → wpAny (model C.T.prog C.T.w) A (assignInOrder ((assignEach es C.env).map (·.2)) vs) Q E s := by
  induction h with
  | nil =>
    intro vs ds σ G s hw I hr hl hq
    cases hr with
    | nil => exact wpAny_pure (hq s I)
    | cons _ _ => simp at hl
  | cons _ ih =>
    rename_i x p es xs _
    intro vs ds σ G s hw I hr hl hq
    cases hr with
    | nil => simp at hl
    | cons h1 h2 =>
      rename_i v vs d ds
      show wpAny _ A (assignInOrder (assign (.Name x p) C.env :: (assignEach es C.env).map (·.2)) (v :: vs)) Q E s
      unfold assignInOrder
      refine wpAny_bind ?_
      try refine wpAny_holding ?_
      refine wpAny_assign_Name (wpAny_store I (hw x (by simp)) (.val h1) fun h' tk I' => ?_)
      exact ih vs ds _ G _ (fun y hy => hw y (by simp [hy])) I' h2 (by simpa using hl) hq

theorem ex_unpack {es : List Expr} {xs : List Str} {e : Expr} {ds : List Dat} {kk : Nat} {tpos pos : Pos} {ss : List Stmt} (ht : Targets es xs) (hw : ∀ x ∈ xs, Wr C x) (he : Ev C k σ e (.tup ds)) (hl : ds.length = xs.length) (hp : plainRhs e = true)
    (hsw : swappedStores [.Tuple es kk tpos] e C.env = pure none) (h : Ex C k (unp xs ds σ) ss N K R) : Ex C k σ (.Assign [.Tuple es kk tpos] e pos :: ss) N K R := by
  refine ex_cons fun β A G s Q E hr I q1 q2 q3 => Assign_Tuple (he β A G s _ E hr I fun G1 s1 v st1 r1 => ?_) (swaps_plain hp (some (.Tuple es kk tpos)) pos.line C.env) hsw
  cases r1 with
  | tup ha hd =>
    rename_i a vs n
    have I1 := I.step st1
    have hlen := hd.length
    obtain ⟨t1, t2⟩ := targets_len ht C.env
    have hT : s1.heap.IsTuple a vs.toArray := ⟨_, I1.sub _ _ ha, rfl, n, rfl⟩
    refine wpAny_assign_Tuple hr.1 hT (by rw [t1, List.size_toArray]; omega) t2 fun h' hx => ?_
    have g : Grow G1 s1 G1 { s1 with heap := h', toks := s1.toks } := Grow.kept I1.sub fun b o e => hx b o (Nat.ne_of_lt (Heap.lt_size e)) e
    rw [List.toList_toArray]
    exact assign_all ht vs ds σ G1 _ hw (I1.step (I1.grow g)) hd (by omega) fun s' I' => q1 G1 s' _ I' h
end

theorem Grow.more {G0 G : PMap} {s0 s : Shared} (g : Grow G0 s0 G s) {h' : Heap} {tk : Nat} {a : Addr} {o : Obj} (W : Addr → Prop) (hW : ∀ b, W b → s0.heap.get? b = none ∧ G b = none) (hk : ∀ b o, ¬ W b → s.heap.get? b = some o → h'.get? b = some o)
    (ha : s.heap.get? a = none) (ho : h'.get? a = some o) : Grow G0 s0 (G.add a o) { s with heap := h', toks := tk } := by
  have hGa : G a = none := by
    cases e : G a with
    | none => rfl
    | some o' => have := g.sub' _ _ e; rw [ha] at this; cases this
  refine ⟨fun b o' e => ?_, fun b o' e _ => ?_, fun b e => ?_, fun b o' e => ?_, fun b o' e => ?_, g.os, g.gens, fun p hp => by cases hp⟩
  · have : b ≠ a := fun h => by rw [h] at e; rw [g.sub _ _ e] at hGa; cases hGa
    rw [PMap.add_ne _ _ this]; exact g.sub b o' e
  · refine hk b o' (fun hw => ?_) (g.keep b o' e (by simp))
    rw [(hW b hw).1] at e; cases e
  · by_cases hw : W b
    · exact (hW b hw).1
    · refine g.dom b ?_
      cases hb : s.heap.get? b with
      | none => rfl
      | some o' => have := hk b o' hw hb; rw [show h'.get? b = none from e] at this; cases this
  · by_cases hb : b = a
    · rw [hb]; exact .inr (g.dom a ha)
    · rw [PMap.add_ne _ _ hb] at e; exact g.fresh b o' e
  · by_cases hb : b = a
    · rw [hb, PMap.add_self] at e; cases e; rw [hb]; exact ho
    · rw [PMap.add_ne _ _ hb] at e
      exact hk b o' (fun hw => by rw [(hW b hw).2] at e; cases e) (g.sub' b o' e)
theorem Grow.move {G0 G : PMap} {s0 s : Shared} (g : Grow G0 s0 G s) {h' : Heap} {tk : Nat} (W : Addr → Prop) (hW : ∀ b, W b → s0.heap.get? b = none ∧ G b = none) (hk : ∀ b o, ¬ W b → s.heap.get? b = some o → h'.get? b = some o) : Grow G0 s0 G { s with heap := h', toks := tk } := by
  refine ⟨g.sub, fun b o' e _ => ?_, fun b e => ?_, g.fresh, fun b o' e => ?_, g.os, g.gens, fun p hp => by cases hp⟩
  · refine hk b o' (fun hw => ?_) (g.keep b o' e (by simp))
    rw [(hW b hw).1] at e; cases e
  · by_cases hw : W b
    · exact (hW b hw).1
    · refine g.dom b ?_
      cases hb : s.heap.get? b with
      | none => rfl
      | some o' => have := hk b o' hw hb; rw [show h'.get? b = none from e] at this; cases this
  · exact hk b o' (fun hw => by rw [(hW b hw).2] at e; cases e) (g.sub' b o' e)

noncomputable abbrev enO (f0 f1 : Value) (it : Addr) (i : Int) (old : Value) : Obj := { cls := .type "enumerate", dict := none, data := .fields #[f0, f1, .ref it, rawInt i, .none, old], slots := #[] }
noncomputable def EnSt (h : Heap) (e it : Addr) (i : Int) : Prop := ∃ f0 f1 old, h.get? e = some (enO f0 f1 it i old) ∧ (f0 = .none ∨ ∃ a t, f0 = .int a t)

section
variable {prog : Program} {w : World} {A : Around} {E : Value → Shared → Prop} {s : Shared}

theorem wpAny_alive {a : Addr} {Q : Option Obj → Shared → Prop} (h : Q (s.heap.get? a) s) : wpAny (model prog w) A (loadIfAlive a) Q E s := fun Γ p hΓ => by
  unfold loadIfAlive
  rw [Sem.wp_loadIfAlive]
  exact wpAny_pure (M := model prog w) (A := A) (E := E) h Γ p hΓ

theorem enum_next {e it l : Addr} {i : Nat} {items : Array Value} {x : Value} {Q : Value → Shared → Prop}
    (he : EnSt s.heap e it i) (hit : s.heap.IsListIter it l i) (hl : s.heap.IsList l items) (hx : items[i]? = some x) (hne : e ≠ it)
    (hQ : ∀ h', EnSt h' e it ((i : Int) + 1) → h'.IsListIter it l (i + 1) →
      h'.get? s.heap.objs.size = some { cls := .type "tuple", data := .seq #[.int i s.toks, x] } →
      (∀ b o, b ≠ e → b ≠ it → s.heap.get? b = some o → h'.get? b = some o) → Q (.ref s.heap.objs.size) { s with heap := h', toks := s.toks + 1 }) :
    wpAny (model prog w) A (Builtin.«enumerate.__next__» ⟨[.ref e], []⟩) (fun fin s' => ∃ v, fin = .done (.ret v) ∧ Q v s') E s := by
  obtain ⟨hp, g, d, tk, os⟩ := s
  obtain ⟨f0, f1, old, he, hf0⟩ := he
  show wpAny _ _ (field (.ref e) 2 >>= _) _ _ _
  refine wpAny_bind (wpAny_field he rfl (x := .ref it) rfl ?_)
  refine wpAny_bind (wpAny_nextOf_list_item hit hl hx fun h₁ hit₁ hs₁ => ?_)
  replace hs₁ : Heap.SameBut it hp h₁ := hs₁
  have he₁ : h₁.get? e = some (enO f0 f1 it i old) := (hs₁.2 e hne).trans he
  show wpAny _ _ (field (.ref e) 3 >>= _) _ _ ⟨h₁, g, d, tk, os⟩
  refine wpAny_bind (wpAny_field he₁ rfl (x := rawInt i) rfl ?_)
  show wpAny _ _ (field (.ref e) 4 >>= _) _ _ ⟨h₁, g, d, tk, os⟩
  refine wpAny_bind (wpAny_field he₁ rfl (x := .none) rfl ?_)
  show wpAny _ _ (mkInt i >>= _) _ _ ⟨h₁, g, d, tk, os⟩
  refine wpAny_bind (wpAny_mkInt ?_)
  show wpAny _ _ (setField (.ref e) 3 (rawInt ((i : Int) + 1)) >>= _) _ _ ⟨h₁, g, d, tk + 1, os⟩
  refine wpAny_bind (wpAny_setField_rec he₁ (by simp) fun h₂ he₂ hs₂ => ?_)
  replace hs₂ : Heap.SameBut e h₁ h₂ := hs₂
  replace he₂ : h₂.get? e = some (enO f0 f1 it ((i : Int) + 1) old) := he₂
  show wpAny _ _ (setField (.ref e) 4 .none >>= _) _ _ ⟨h₂, g, d, tk + 1, os⟩
  refine wpAny_bind (wpAny_setField_rec he₂ (by simp) fun h₃ he₃ hs₃ => ?_)
  replace hs₃ : Heap.SameBut e h₂ h₃ := hs₃
  replace he₃ : h₃.get? e = some (enO f0 f1 it ((i : Int) + 1) old) := he₃
  show wpAny _ _ (newTuple [.int i tk, x] >>= _) _ _ ⟨h₃, g, d, tk + 1, os⟩
  refine wpAny_bind (wpAny_newTuple ?_)
  have he₄ : (h₃.push { cls := .type "tuple", data := .seq #[.int i tk, x] }).get? e = some (enO f0 f1 it ((i : Int) + 1) old) := Heap.get?_push_of_some _ he₃
  generalize hh₄ : h₃.push { cls := .type "tuple", data := .seq #[.int i tk, x] } = h₄ at he₄
  have hsz : h₃.objs.size = hp.objs.size := by rw [hs₃.1, hs₂.1, hs₁.1]
  have hel : e < hp.objs.size := Heap.lt_size he
  have ht₄ : h₄.get? hp.objs.size = some { cls := .type "tuple", data := .seq #[.int i tk, x] } := by rw [← hh₄, ← hsz]; exact Heap.get?_push_size _ rfl
  have hk₄ : ∀ b o, b ≠ e → b ≠ it → hp.get? b = some o → h₄.get? b = some o := fun b o hbe hbi hb => by
    rw [← hh₄]; exact Heap.get?_push_of_some _ (hs₃.extBut b o hbe (hs₂.extBut b o hbe (hs₁.extBut b o hbi hb)))
  have hit₄ : h₄.IsListIter it l (i + 1) := by
    rw [← hh₄]; obtain ⟨o, ho, r⟩ := (hit₁.extBut hs₂.extBut (Ne.symm hne)).extBut hs₃.extBut (Ne.symm hne); exact ⟨o, Heap.get?_push_of_some _ ho, r⟩
  show wpAny _ _ (Builtin.SmallTypes.ownedTupleIsFree (.ref e) >>= _) _ _ ⟨h₄, g, d, tk + 1, os⟩
  rw [hsz]
  clear hh₄ he₃ hs₃ he₂ hs₂ he₁ hs₁ hit₁ hsz h₃ h₂ h₁
  have free : ∀ f1', ∀ (h₄ : Heap), h₄.get? e = some (enO f0 f1' it ((i : Int) + 1) old) → h₄.IsListIter it l (i + 1) → h₄.get? hp.objs.size = some { cls := .type "tuple", data := .seq #[.int i tk, x] } → (∀ b o, b ≠ e → b ≠ it → hp.get? b = some o → h₄.get? b = some o) →
      wpAny (model prog w) A (do
        rule "enumerate.__next__.owned-tuple-again"
        let old ← field (.ref e) 5
        setField (.ref e) 5 x
        Builtin.SmallTypes.ownedTupleHandOut (.ref e) (.ref hp.objs.size)
        letGo [old] [.ref hp.objs.size]
        ret (.ref hp.objs.size)) (fun fin s' => ∃ v, fin = .done (.ret v) ∧ Q v s') E ⟨h₄, g, d, tk + 1, os⟩ := by
    intro f1' h₄ he₄ hit₄ ht₄ hk₄
    refine wpAny_bind (wpAny_rule ?_)
    refine wpAny_bind (wpAny_field he₄ rfl (x := old) rfl ?_)
    refine wpAny_bind (wpAny_setField_rec he₄ (by simp) fun h₅ he₅ hs₅ => ?_)
    replace hs₅ : Heap.SameBut e h₄ h₅ := hs₅
    replace he₅ : h₅.get? e = some (enO f0 f1' it ((i : Int) + 1) x) := he₅
    show wpAny _ _ (Builtin.SmallTypes.ownedTupleHandOut (.ref e) (.ref hp.objs.size) >>= _) _ _ ⟨h₅, g, d, tk + 1, os⟩
    refine wpAny_bind ?_
    unfold Builtin.SmallTypes.ownedTupleHandOut
    refine wpAny_bind (wpAny_setField_rec he₅ (by simp) fun h₆ he₆ hs₆ => ?_)
    replace hs₆ : Heap.SameBut e h₅ h₆ := hs₆
    replace he₆ : h₆.get? e = some (enO (rawInt hp.objs.size) f1' it ((i : Int) + 1) x) := he₆
    refine wpAny_setField_rec he₆ (by simp) fun h₇ he₇ hs₇ => ?_
    replace hs₇ : Heap.SameBut e h₆ h₇ := hs₇
    replace he₇ : h₇.get? e = some (enO (rawInt hp.objs.size) (.bool false) it ((i : Int) + 1) x) := he₇
    refine wpAny_bind (wpAny_letGo (wpAny_pure ⟨_, rfl, hQ h₇ ⟨_, _, _, he₇, .inr ⟨_, _, rfl⟩⟩ ?_ ?_ ?_⟩))
    · exact ((hit₄.extBut hs₅.extBut (Ne.symm hne)).extBut hs₆.extBut (Ne.symm hne)).extBut hs₇.extBut (Ne.symm hne)
    · exact hs₇.extBut _ _ (Nat.ne_of_gt hel) (hs₆.extBut _ _ (Nat.ne_of_gt hel) (hs₅.extBut _ _ (Nat.ne_of_gt hel) ht₄))
    · exact fun b o hbe hbi hb => hs₇.extBut b o hbe (hs₆.extBut b o hbe (hs₅.extBut b o hbe (hk₄ b o hbe hbi hb)))
  refine wpAny_bind ?_
  unfold Builtin.SmallTypes.ownedTupleIsFree
  refine wpAny_bind (wpAny_field he₄ rfl (x := f0) rfl ?_)
  rcases hf0 with rfl | ⟨a, t, rfl⟩
  · refine wpAny_pure ?_
    simp only [if_true]
    exact free f1 h₄ he₄ hit₄ ht₄ hk₄
  · refine wpAny_bind (wpAny_alive ?_)
    cases hal : h₄.get? a.toNat with
    | none =>
      refine wpAny_pure ?_
      simp only [if_true]
      exact free f1 h₄ he₄ hit₄ ht₄ hk₄
    | some oa =>
      simp only [Option.isNone_some, Bool.false_eq_true, if_false]
      refine wpAny_bind (wpAny_field he₄ rfl (x := f1) rfl ?_)
      have fin : ∀ f1' h₅, h₅.get? e = some (enO (.int a t) f1' it ((i : Int) + 1) old) → Heap.SameBut e h₄ h₅ → Q (.ref hp.objs.size) ⟨h₅, g, d, tk + 1, os⟩ := fun f1' h₅ he₅ hs₅ =>
        hQ h₅ ⟨_, _, _, he₅, .inr ⟨_, _, rfl⟩⟩ (hit₄.extBut hs₅.extBut (Ne.symm hne)) (hs₅.extBut _ _ (Nat.ne_of_gt hel) ht₄) fun b o hbe hbi hb => hs₅.extBut b o hbe (hk₄ b o hbe hbi hb)
      by_cases hf : (f1 != Value.bool true) = true
      · rw [if_pos hf]
        refine wpAny_bind (wpAny_setField_rec he₄ (by simp) fun h₅ he₅ hs₅ => ?_)
        refine wpAny_pure ?_
        simp only [Bool.false_eq_true, if_false]
        exact wpAny_pure ⟨_, rfl, fin _ h₅ he₅ hs₅⟩
      · rw [if_neg hf]
        refine wpAny_bind (wpAny_pure ?_)
        refine wpAny_pure ?_
        simp only [Bool.false_eq_true, if_false]
        exact wpAny_pure ⟨_, rfl, fin f1 h₄ he₄ (Heap.SameBut.refl ..)⟩

theorem EnSt.type {e it : Addr} {i : Int} (he : EnSt s.heap e it i) : s.TypeIs (.ref e) "enumerate" := let ⟨_, _, _, h, _⟩ := he; ⟨_, h, rfl⟩
theorem EnSt.keep {h h' : Heap} {e it : Addr} {i : Int} (he : EnSt h e it i) (hk : ∀ o, h.get? e = some o → h'.get? e = some o) : EnSt h' e it i := let ⟨a, b, c, h, r⟩ := he; ⟨a, b, c, hk _ h, r⟩

theorem enum_pyNext {e it l : Addr} {i : Nat} {items : Array Value} {x : Value} {Q : Option Value → Shared → Prop}
    (he : EnSt s.heap e it i) (hit : s.heap.IsListIter it l i) (hl : s.heap.IsList l items) (hx : items[i]? = some x) (hne : e ≠ it)
    (hQ : ∀ h', EnSt h' e it ((i : Int) + 1) → h'.IsListIter it l (i + 1) →
      h'.get? s.heap.objs.size = some { cls := .type "tuple", data := .seq #[.int i s.toks, x] } →
      (∀ b o, b ≠ e → b ≠ it → s.heap.get? b = some o → h'.get? b = some o) → Q (some (.ref s.heap.objs.size)) { s with heap := h', toks := s.toks + 1 }) :
    wpAny (model prog w) A (pyNext (.ref e)) Q E s := by
  have hT := he.type
  unfold pyNext
  exact wpAny_bind (wpAny_attempt (wpAny_callSpecial?_slot (name := Str.ofString "__next__") hT F.slot_enumerate_next
    (wpAny_call_entry F.slot_enumerate_next hT F.entry_enumerate_next
      (enum_next he hit hl hx hne fun h' a b c d => wpAny_pure (hQ h' a b c d)) (F.args_enumerate_next_1 _))))

theorem enum_pyEnd {e it l : Addr} {i : Nat} {items : Array Value} {Q : Option Value → Shared → Prop} (hh : A.handled = none)
    (he : EnSt s.heap e it i) (hit : s.heap.IsListIter it l i) (hl : s.heap.IsList l items) (hx : items[i]? = none)
    (hQ : ∀ h', Heap.ExtBut it s.heap h' → Q none { s with heap := h' }) : wpAny (model prog w) A (pyNext (.ref e)) Q E s := by
  have hT := he.type
  obtain ⟨f0, f1, old, he, hf0⟩ := he
  unfold pyNext
  refine wpAny_bind (wpAny_attempt (wpAny_callSpecial?_slot (name := Str.ofString "__next__") hT F.slot_enumerate_next
    (wpAny_call_entry F.slot_enumerate_next hT F.entry_enumerate_next ?_ (F.args_enumerate_next_1 _))))
  show wpAny _ _ (field (.ref e) 2 >>= _) _ _ _
  refine wpAny_bind (wpAny_field he rfl (x := .ref it) rfl ?_)
  refine wpAny_bind (wpAny_nextOf_list_end hh hit hl hx fun h' x he' hx' => ?_)
  obtain ⟨o, ho, hc⟩ := hx'
  refine wpAny_bind (wpAny_isInstance (T := "StopIteration") (b := true) ⟨o, ho, hc⟩ isSubtype_stop ?_)
  exact wpAny_pure (hQ _ he')

noncomputable def enumD : Int → List Dat → List Dat
  | _, [] => []
  | i, d :: r => .tup [.int i, d] :: enumD (i + 1) r

theorem extend_enum {R : Result → Shared → Prop} {e it l S : Addr} {vs : List Value} {n : Nat} {ds : List Dat} {res : Value} {G0 : PMap} {s0 : Shared} (hh : A.handled = none) (hne : e ≠ it) (hSe : S ≠ e) (hSi : S ≠ it) (hz : vs.length ≤ 1000)
    (h0 : s0.heap.get? e = none ∧ s0.heap.get? it = none ∧ s0.heap.get? S = none) (hl0 : G0 l = some (listObj vs n)) :
    ∀ (k i : Nat) (G : PMap) (s : Shared) (acc : List Value) (c : Nat) (pre rest : List Dat), vs.length - i = k → i ≤ vs.length → EnSt s.heap e it i → s.heap.IsListIter it l i → s.heap.get? S = some (listObj acc c) → acc.length = i → Reps G acc pre → Reps G (vs.drop i) rest →
      Grow G0 s0 G s → G e = none → G it = none → G S = none →
      (∀ G' s' acc' c', Grow G0 s0 G' s' → s'.heap.get? S = some (listObj acc' c') → G' S = none → Reps G' acc' (pre ++ enumD i rest) → R (.ok (.ret res)) s') →
      codeAny (model prog w) A (.builtin "list.extend.loop" ⟨[.ref S, .ref e, res], []⟩) R s := by
  intro k
  induction k with
  | zero =>
    intro i G s acc c pre rest hk hi he hit hS hacc hr1 hr2 g ge gi gS hR
    have hin : vs.length ≤ i := by omega
    refine codeAny_builtin F.entry_extend_loop ?_
    rw [Around.under_plainId F.plain_extend_loop _]
    show wpAny _ A.in1 (pyNext (.ref e) >>= _) _ _ s
    have hl : s.heap.get? l = some (listObj vs n) := g.sub' _ _ (g.sub _ _ hl0)
    refine wpAny_bind (enum_pyEnd hh he hit (isList_of hl) (by simpa using hin) fun h' hx => ?_)
    rw [List.drop_of_length_le hin] at hr2
    cases hr2
    have g' : Grow G0 s0 G { s with heap := h', toks := s.toks } := g.move (fun b => b = it) (fun b hb => by subst hb; exact ⟨h0.2.1, gi⟩) (fun b o hb e => hx b o hb e)
    exact wpAny_pure (hR G _ acc c g' (hx _ _ hSi hS) gS (by simpa [enumD] using hr1))
  | succ k ih =>
    intro i G s acc c pre rest hk hi he hit hS hacc hr1 hr2 g ge gi gS hR
    have hlt : i < vs.length := by omega
    have hl : s.heap.get? l = some (listObj vs n) := g.sub' _ _ (g.sub _ _ hl0)
    rw [List.drop_eq_getElem_cons hlt] at hr2
    cases hr2 with
    | cons hd hrest =>
      rename_i d rest
      refine codeAny_builtin F.entry_extend_loop ?_
      rw [Around.under_plainId F.plain_extend_loop _]
      show wpAny _ A.in1 (pyNext (.ref e) >>= _) _ _ s
      refine wpAny_bind (enum_pyNext he hit (isList_of hl) (x := vs[i]) (by simp [hlt]) hne fun h' he' hit' ht' hk' => ?_)
      have hnone : s.heap.get? s.heap.objs.size = none := get?_size
      have g1 : Grow G0 s0 (G.add s.heap.objs.size (tupObj [.int i s.toks, vs[i]] 0)) { s with heap := h', toks := s.toks + 1 } :=
        g.more (fun b => b = e ∨ b = it) (fun b hb => hb.elim (fun h => h ▸ ⟨h0.1, ge⟩) (fun h => h ▸ ⟨h0.2.1, gi⟩)) (fun b o hb e => hk' b o (fun h => hb (.inl h)) (fun h => hb (.inr h)) e) hnone ht'
      have hS' : h'.get? S = some (listObj acc c) := hk' _ _ hSe hSi hS
      have sub1 : Sub G (G.add s.heap.objs.size (tupObj [.int i s.toks, vs[i]] 0)) := fun b o' e' => by
        have : b ≠ s.heap.objs.size := fun h => by rw [h] at e'; have := g.sub' _ _ e'; rw [hnone] at this; cases this
        rw [PMap.add_ne _ _ this]; exact e'
      have nsz : ∀ b o, s.heap.get? b = some o → b ≠ s.heap.objs.size := fun b o e' h => by rw [h, hnone] at e'; cases e'
      show wpAny _ A.in1 (updateSeq S (·.push (Value.ref s.heap.objs.size)) >>= _) _ _ _
      refine wpAny_bind ?_
      refine wpAny_updateSeq hS' rfl (wpAny_pure ⟨plainId_quiet F.plain_extend_loop _, ?_⟩) (by rw [List.size_toArray, sizeLine_eq]; omega) (by show (acc.toArray.push _).size ≤ sizeLine + 1; rw [Array.size_push, List.size_toArray, sizeLine_eq]; omega)
      obtain ⟨n', hnew⟩ : ∃ n', (h'.update S (Obj.mapSeq fun xs => xs.push (Value.ref s.heap.objs.size))).get? S = some (listObj (acc ++ [Value.ref s.heap.objs.size]) n') := by
        have := IsL.update (h := h') hS' (fun xs => xs.push (Value.ref s.heap.objs.size))
        rw [show acc.toArray.push (Value.ref s.heap.objs.size) = (acc ++ [Value.ref s.heap.objs.size]).toArray by simp] at this
        exact ⟨_, this⟩
      have kS : ∀ b o, b ≠ S → h'.get? b = some o → (h'.update S (Obj.mapSeq fun xs => xs.push (Value.ref s.heap.objs.size))).get? b = some o := fun b o hb e => (Heap.get?_update_other _ _ (Ne.symm hb)).trans e
      have gS' : (G.add s.heap.objs.size (tupObj [.int i s.toks, vs[i]] 0)) S = none := by rw [PMap.add_ne _ _ (nsz _ _ hS)]; exact gS
      have ge' : (G.add s.heap.objs.size (tupObj [.int i s.toks, vs[i]] 0)) e = none := by obtain ⟨_, _, _, x, _⟩ := he; rw [PMap.add_ne _ _ (nsz _ _ x)]; exact ge
      have gi' : (G.add s.heap.objs.size (tupObj [.int i s.toks, vs[i]] 0)) it = none := by obtain ⟨_, x, _⟩ := hit; rw [PMap.add_ne _ _ (nsz _ _ x)]; exact gi
      have g2 : Grow G0 s0 (G.add s.heap.objs.size (tupObj [.int i s.toks, vs[i]] 0)) { s with heap := h'.update S (Obj.mapSeq fun xs => xs.push (Value.ref s.heap.objs.size)), toks := s.toks + 1 } :=
        g1.move (fun b => b = S) (fun b hb => by subst hb; exact ⟨h0.2.2, gS'⟩) (fun b o hb e => kS b o hb e)
      refine ih (i + 1) _ _ (acc ++ [Value.ref s.heap.objs.size]) n' (pre ++ [.tup [.int i, d]]) rest (by omega) hlt (he'.keep fun o x => kS _ o (Ne.symm hSe) x) ?_ hnew (by simp [hacc]) ?_ (hrest.mono sub1) g2 ge' gi' gS' fun G' s' acc' c' g' hS'' gS'' hr' => ?_
      · obtain ⟨o, ho, r⟩ := hit'; exact ⟨o, kS _ o (Ne.symm hSi) ho, r⟩
      · refine (hr1.mono sub1).append (.one (.tup (PMap.add_self ..) (.cons (.int _ _) (.one (hd.mono sub1)))))
      · refine hR G' s' acc' c' g' hS'' gS'' ?_
        simpa [enumD] using hr'

theorem enum_no_len : typeLookup (.type "enumerate") "__len__" = pure none := by rw [typeLookup_type, builtinLookup_eq_fast]; kernel_rfl
theorem enum_no_hint : typeLookup (.type "enumerate") "__length_hint__" = pure none := by rw [typeLookup_type, builtinLookup_eq_fast]; kernel_rfl

theorem enum_pyIter {e it : Addr} {i : Int} {Q : Value → Shared → Prop} (he : EnSt s.heap e it i) (h : Q (.ref e) s) : wpAny (model prog w) A (pyIter (.ref e)) Q E s := by
  have hT := he.type
  refine wpAny_pyIter_slot hT F.slot_enumerate_iter (wpAny_call_entry F.slot_enumerate_iter hT F.entry_enumerate_iter ?_ (F.args_enumerate_iter_1 _))
  show wpAny _ _ (ret (.ref e)) _ _ s
  exact wpAny_pure ⟨_, rfl, "enumerate", _, hT, F.slot_enumerate_next.lookup, h⟩

/-- list(enumerate) : the object at hand -/
theorem call_list_enum {e it l : Addr} {vs : List Value} {n : Nat} {ds : List Dat} {G0 G : PMap} {s0 : Shared} {Q : Value → Shared → Prop} (hh : A.handled = none) (hne : e ≠ it) (hz : vs.length ≤ 1000)
    (h0 : s0.heap.get? e = none ∧ s0.heap.get? it = none) (hl0 : G0 l = some (listObj vs n)) (hr : Reps G vs ds) (he : EnSt s.heap e it 0) (hit : s.heap.IsListIter it l 0) (g : Grow G0 s0 G s) (ge : G e = none) (gi : G it = none)
    (hQ : ∀ G' s' S acc' c', Grow G0 s0 G' s' → s0.heap.get? S = none → s'.heap.get? S = some (listObj acc' c') → G' S = none → Reps G' acc' (enumD 0 ds) → Q (.ref S) s') :
    wpAny (model prog w) A (call (.type "list") [.ref e]) Q E s := by
  refine callType_codes (Q₁ := fun obj s₁ => obj = .ref s.heap.objs.size ∧ s₁ = { s with heap := s.heap.push { cls := .type "list", data := .seq #[] } }) F.called_list (F.typeCall_list_1 _) F.entry_list_init
    (code_list_new _ ⟨rfl, rfl⟩) fun obj s₁ h₁ => ?_
  obtain ⟨rfl, rfl⟩ := h₁
  have hnone : s.heap.get? s.heap.objs.size = none := get?_size
  have hS : (s.heap.push { cls := .type "list", data := .seq #[] }).get? s.heap.objs.size = some { cls := .type "list", data := .seq #[] } := Heap.get?_push_size _ rfl
  generalize hSd : s.heap.objs.size = S at hS hnone
  have neq : ∀ b o, s.heap.get? b = some o → b ≠ S := fun b o x h => by rw [h, hnone] at x; cases x
  have hSe : S ≠ e := by obtain ⟨_, _, _, x, _⟩ := he; exact (neq _ _ x).symm
  have hSi : S ≠ it := by obtain ⟨_, x, _⟩ := hit; exact (neq _ _ x).symm
  refine ⟨⟨_, hS, rfl⟩, F.args_list_init_2 _ _, ?_⟩
  have g1 : Grow G0 s0 G { s with heap := s.heap.push { cls := .type "list", data := .seq #[] } } := g.trans (Grow.alloc g.sub')
  have he1 : EnSt (s.heap.push { cls := .type "list", data := .seq #[] }) e it 0 := he.keep fun o x => Heap.get?_push_of_some _ x
  have hit1 : (s.heap.push { cls := .type "list", data := .seq #[] }).IsListIter it l 0 := let ⟨o, x, r⟩ := hit; ⟨o, Heap.get?_push_of_some _ x, r⟩
  generalize s.heap.push { cls := .type "list", data := .seq #[] } = h1 at hS g1 he1 hit1
  have gS : G S = none := by
    cases x : G S with
    | none => rfl
    | some o => have := g.sub' _ _ x; rw [hnone] at this; cases this
  have hS0 : s0.heap.get? S = none := g.dom _ hnone
  show wpAny _ A.in1.in1 (do let old ← Builtin.List.listItems (.ref S); Builtin.List.listUpdate (.ref S) (fun _ => #[]); letGo old.toList.reverse; Builtin.List.listExtendWith (.ref S) (.ref e) .none) _ _ _
  refine wpAny_bind ?_
  unfold Builtin.List.listItems
  refine wpAny_bind (wpAny_seqItems hS rfl (wpAny_pure ?_))
  show wpAny _ A.in1.in1 (updateSeq S (fun _ => #[]) >>= fun _ => letGo (#[] : Array Value).toList.reverse >>= fun _ => Builtin.List.listExtendWith (.ref S) (.ref e) .none) _ _ _
  refine wpAny_bind (wpAny_updateSeq hS rfl ?_)
  have hS₂ := Heap.get?_update_self (Obj.mapSeq (fun _ => (#[] : Array Value))) hS rfl
  refine wpAny_bind (wpAny_letGo ?_)
  have kU : ∀ (h : Heap) (f : Array Value → Array Value) b o, b ≠ S → h.get? b = some o → (h.update S (Obj.mapSeq f)).get? b = some o := fun h f b o hb e => (Heap.get?_update_other _ _ (Ne.symm hb)).trans e
  have he2 : EnSt (h1.update S (Obj.mapSeq (fun _ => (#[] : Array Value)))) e it 0 := he1.keep fun o x => kU _ _ _ o (Ne.symm hSe) x
  have hit2 : (h1.update S (Obj.mapSeq (fun _ => (#[] : Array Value)))).IsListIter it l 0 := let ⟨o, x, r⟩ := hit1; ⟨o, kU _ _ _ o (Ne.symm hSi) x, r⟩
  have g2 : Grow G0 s0 G { s with heap := h1.update S (Obj.mapSeq (fun _ => (#[] : Array Value))) } := g1.move (fun b => b = S) (fun b hb => by subst hb; exact ⟨hS0, gS⟩) (fun b o hb e => kU _ _ b o hb e)
  generalize h1.update S (Obj.mapSeq (fun _ => (#[] : Array Value))) = h2 at hS₂ g2 he2 hit2
  unfold Builtin.List.listExtendWith
  refine wpAny_bind (wpAny_typeOf (EnSt.type (s := { s with heap := h2 }) he2) ?_)
  have q1 : Builtin.List.listSameRef (.ref S) (.ref e) = false := by simp [Builtin.List.listSameRef, hSe]
  have q2 : (Value.type "enumerate" == Value.type "list") = false := by decide
  have q3 : (Value.type "enumerate" == Value.type "tuple") = false := by decide
  simp only [q1, q2, q3, Bool.or_false, Bool.false_eq_true, if_false]
  refine wpAny_bind (enum_pyIter he2 ?_)
  refine wpAny_bind (wpAny_holding ?_)
  unfold Builtin.List.listLengthHint
  refine wpAny_bind (wpAny_specialOf (EnSt.type (s := { s with heap := h2 }) he2) enum_no_len ?_)
  show wpAny _ A.in1.in1 (specialOf (Value.ref e) (Str.ofString "__length_hint__") >>= _) _ _ _
  refine wpAny_bind (wpAny_specialOf (EnSt.type (s := { s with heap := h2 }) he2) enum_no_hint ?_)
  refine wpAny_pure ?_
  show wpAny _ A.in1.in1 (rule "list.extend.makes-room" >>= fun _ => Builtin.List.listTouch (.ref S) >>= fun _ =>
    again (.builtin "list.extend.loop" ⟨[.ref S, .ref e, .none], []⟩)) _ _ _
  refine wpAny_bind (wpAny_rule ?_)
  refine wpAny_bind ?_
  show wpAny _ A.in1.in1 (updateSeq S (·.push .none) >>= fun _ => updateSeq S (·.pop)) _ _ _
  refine wpAny_bind (wpAny_updateSeq hS₂ rfl ?_)
  have hS₃ := Heap.get?_update_self (Obj.mapSeq (·.push Value.none)) hS₂ rfl
  refine wpAny_updateSeq (hz := by seq_fits) hS₃ rfl ?_
  have hS₄ := Heap.get?_update_self (Obj.mapSeq (·.pop)) hS₃ rfl
  have oth : ∀ b o, b ≠ S → h2.get? b = some o → ((h2.update S (Obj.mapSeq (·.push Value.none))).update S (Obj.mapSeq (·.pop))).get? b = some o := fun b o hb x => kU _ _ b o hb (kU _ _ b o hb x)
  have he3 : EnSt ((h2.update S (Obj.mapSeq (·.push Value.none))).update S (Obj.mapSeq (·.pop))) e it 0 := he2.keep fun o x => oth _ o (Ne.symm hSe) x
  have hit3 : ((h2.update S (Obj.mapSeq (·.push Value.none))).update S (Obj.mapSeq (·.pop))).IsListIter it l 0 := let ⟨o, x, r⟩ := hit2; ⟨o, oth _ o (Ne.symm hSi) x, r⟩
  have g3 : Grow G0 s0 G { s with heap := (h2.update S (Obj.mapSeq (·.push Value.none))).update S (Obj.mapSeq (·.pop)) } := g2.move (fun b => b = S) (fun b hb => by subst hb; exact ⟨hS0, gS⟩) oth
  refine wpAny_pure ⟨plainId_quiet F.plain_extend_loop _, ?_⟩
  refine extend_enum (A := A.in1) (G0 := G0) (s0 := s0) (vs := vs) (n := n) (ds := ds) hh hne hSe hSi hz ⟨h0.1, h0.2, hS0⟩ hl0 vs.length 0 G _ [] _ [] ds rfl (Nat.zero_le _) he3 hit3 hS₄ rfl .nil (by simpa using hr) g3 ge gi gS fun G' s' acc' c' g' hS' gS' hr' => ?_
  exact ⟨rfl, hQ G' s' S acc' c' g' hS0 hS' gS' (by simpa using hr')⟩
end

section
variable {C : Act} {k : Nat} {σ : Sig}
theorem evF_listEnum {p p' pos pos' : Pos} {e : Expr} {ds : List Dat} (hk : C.env.kindOf "list" = some .globalImplicit) (hg : C.T.mg "list" = none) (hb : C.T.mb "list" = some (.type "list")) (hk' : C.env.kindOf "enumerate" = some .globalImplicit) (hg' : C.T.mg "enumerate" = none) (hb' : C.T.mb "enumerate" = some (.type "enumerate"))
    (h1 : Ev C k σ e (.lst ds)) (hz : ds.length ≤ 1000) (hp : plainArg e = true) : EvF C k σ (.Call (.Name "list" p) [.Call (.Name "enumerate" p') [e] [] pos'] [] pos) (enumD 0 ds) := by
  intro β A G s Q E hr I h
  refine callBuiltin (id := "list") I hk (by decide +kernel) hg hb ?_
  refine PySem.callWith_type (backTo_plain _ _ rfl) ?_
  rw [starEach_plain rfl C.env]
  refine Calls.evalArgs_plain (Calls.spliced_cons ?_)
  refine callBuiltin (id := "enumerate") I hk' (by decide +kernel) hg' hb' ?_
  refine PySem.callWith_type (backTo_plain _ _ (by simp [hp])) ?_
  rw [starEach_plain hp C.env]
  refine Calls.evalArgs_plain (Calls.spliced_cons (h1 β A G s _ E hr I fun G1 s1 v st1 r1 => Calls.spliced_nil ?_))
  have I1 := I.step st1
  cases r1 with
  | lst ha hd =>
    rename_i l vs n
    refine call_enumerate_list (isList_of (I1.sub _ _ ha)) fun h' he hit hsz hk' => Calls.spliced_nil ?_
    have hn0 : s1.heap.get? s1.heap.objs.size = none := get?_size
    have hn1 : s1.heap.get? (s1.heap.objs.size + 1) = none := by
      cases e : s1.heap.get? (s1.heap.objs.size + 1) with
      | none => rfl
      | some o' => exact absurd (Heap.lt_size e) (Nat.not_lt.mpr (Nat.le_succ _))
    have gn : ∀ b, s1.heap.get? b = none → G1 b = none := fun b hb => by
      cases x : G1 b with
      | none => rfl
      | some o => have := I1.sub _ _ x; rw [hb] at this; cases this
    refine call_list_enum (G0 := G1) (G := G1) (s0 := s1) (vs := vs) (n := n) hr.1 (Nat.succ_ne_self _) (by rw [hd.length]; exact hz) ⟨hn1, hn0⟩ ha hd ⟨_, _, _, he, .inl rfl⟩ hit (Grow.kept (tk := s1.toks) I1.sub hk') (gn _ hn1) (gn _ hn0) fun G' s' S acc' c' g hS0 hS gS hr' => ?_
    exact h G' s' S acc' c' (st1.trans (I1.grow g)) (st1.dom _ hS0) gS hS hr'
end

theorem list_no_keys : typeLookup (.type "list") "keys" = pure none := by rw [typeLookup_type, builtinLookup_eq_fast]; kernel_rfl
theorem entry_update_loop : entryFor table "dict.update.loop" = some Builtin.«dict.update.loop» := entryFor_of_fast (by kernel_rfl)
theorem plain_update_loop : plainId "dict.update.loop" = true := by decide +kernel

section
variable {prog : Program} {w : World} {A : Around} {E : Value → Shared → Prop} {s : Shared}

theorem keys_miss {a : Addr} {vs : List Value} {n : Nat} {Q : Option Value → Shared → Prop} (hx : s.heap.get? a = some (listObj vs n)) (hA : A.handled = none)
    (h : ∀ h' tk, (∀ b o, s.heap.get? b = some o → h'.get? b = some o) → Q none { s with heap := h', toks := tk }) : wpAny (model prog w) A (getAttr? (.ref a) "keys") Q E s := by
  obtain ⟨hp, g, d, tk, os⟩ := s
  have hT : ∀ tk', (⟨hp, g, d, tk', os⟩ : Shared).TypeIs (.ref a) "list" := fun _ => ⟨_, hx, rfl⟩
  have f1 := sub_AttributeError
  have f3 := F.slot_list_getattribute.lookup
  have f4 := F.slot_list_getattribute.bind (.ref a)
  have f5 := am_list_getattr_none
  unfold getAttr? getAttrBy? getAttrBy
  repeat (any_goals (first | assumption | exact hT _ | ((with_reducible show wpAny _ _ (call (Value.builtin "list.__getattribute__") _ _) _ _ _); refine call_meets F.slot_list_getattribute (hT _) am_entry_list_getattribute (F.args_list_getattribute_2 _ _) (meets_getattribute_miss_list a vs.toArray n #[] "keys" _ list_no_keys (by decide +kernel)) ⟨hx, hA, fun h' tk' e hx' => ?_⟩) | wp_step))
  obtain ⟨t', u', he⟩ := hx'.there
  show wpAny _ _ (getattributeRaised _ _ _ _ _ _ _) _ _ _
  unfold getattributeRaised
  repeat (any_goals (first | assumption | wp_step))
  exact h _ _ hx'.keeps

noncomputable def mapPut (f : Int → Option Int) (k v : Int) : Int → Option Int := fun x => if x = k then some v else f x
noncomputable def mapOfL : List (Int × Int) → (Int → Option Int) → (Int → Option Int)
  | [], f => f
  | p :: r, f => mapOfL r (mapPut f p.1 p.2)
noncomputable def pairD (p : Int × Int) : Dat := .tup [.int p.1, .int p.2]

noncomputable def MapSame (f' : Int → Option Value) (f : Int → Option Int) : Prop := ∀ k, (f' k = none ∧ f k = none) ∨ ∃ i t, f' k = some (.int i t) ∧ f k = some i

theorem update_loop {R : Result → Shared → Prop} {d I l : Addr} {vs : List Value} {n : Nat} {G0 : PMap} {s0 : Shared} (hh : A.handled = none) (hdI : d ≠ I) (hz : vs.length ≤ 1000) (h0 : s0.heap.get? d = none ∧ s0.heap.get? I = none) (g0 : G0 d = none ∧ G0 I = none) (hl0 : s0.heap.get? l = some (listObj vs n)) :
    ∀ (k i : Nat) (s : Shared) (f' : Int → Option Value) (f : Int → Option Int) (rest : List (Int × Int)), vs.length - i = k → i ≤ vs.length → s.heap.IsListIter I l i → s.heap.IntMap d f' → s.heap.DictLe d i → MapSame f' f → Reps G0 (vs.drop i) (rest.map pairD) → Grow G0 s0 G0 s →
      (∀ s' g', Grow G0 s0 G0 s' → s'.heap.IntMap d g' → MapSame g' (mapOfL rest f) → R (.ok (.ret .none)) s') →
      codeAny (model prog w) A (.builtin "dict.update.loop" ⟨[.ref d, .ref I, rawInt i, .none], []⟩) R s := by
  intro k
  induction k with
  | zero =>
    intro i s f' f rest hk hi hit hm hle hsame hr g hR
    have hin : vs.length ≤ i := by omega
    refine codeAny_builtin entry_update_loop ?_
    rw [Around.under_plainId plain_update_loop _]
    show wpAny _ A.in1 (pyNext (.ref I) >>= _) _ _ s
    have hl : s.heap.get? l = some (listObj vs n) := g.keep _ _ hl0 (by simp)
    refine wpAny_bind (wpAny_pyNext_list_end hh hit (isList_of hl) (by simpa using hin) fun h' hx => ?_)
    rw [List.drop_of_length_le hin] at hr
    have hrest : rest = [] := by
      cases rest with
      | nil => rfl
      | cons _ _ => cases hr
    subst hrest
    have g' : Grow G0 s0 G0 { s with heap := h', toks := s.toks } := g.move (fun b => b = I) (fun b hb => by subst hb; exact ⟨h0.2, g0.2⟩) (fun b o hb e => hx b o hb e)
    show wpAny _ A.in1 (Builtin.Dict.addKeywords d [] >>= fun _ => ret .none) _ _ _
    exact wpAny_bind (wpAny_pure (wpAny_pure (hR _ f' g' (hm.extBut hx hdI) hsame)))
  | succ k ih =>
    intro i s f' f rest hk hi hit hm hle hsame hr g hR
    have hlt : i < vs.length := by omega
    have hl : s.heap.get? l = some (listObj vs n) := g.keep _ _ hl0 (by simp)
    rw [List.drop_eq_getElem_cons hlt] at hr
    cases rest with
    | nil => cases hr
    | cons p rest =>
      cases hr with
      | cons hd hrest =>
        generalize hv : vs[i] = v at hd
        have hgi : vs.toArray[i]? = some v := by simp [hlt, hv]
        cases hd with
        | tup ha hps =>
          rename_i ta tvs tn
          cases hps with
          | cons h1 h2 =>
            cases h2 with
            | cons h2 h3 =>
              cases h3
              cases h1
              cases h2
              rename_i t1 t2
              refine codeAny_builtin entry_update_loop ?_
              rw [Around.under_plainId plain_update_loop _]
              show wpAny _ A.in1 (pyNext (.ref I) >>= _) _ _ s
              refine wpAny_bind (wpAny_pyNext_list_item hit (isList_of hl) hgi fun h' hit' hs' => ?_)
              have g1 : Grow G0 s0 G0 { s with heap := h', toks := s.toks } := g.move (fun b => b = I) (fun b hb => by subst hb; exact ⟨h0.2, g0.2⟩) (fun b o hb e => hs'.extBut b o hb e)
              have ht : h'.get? ta = some (tupObj [.int p.1 t1, .int p.2 t2] tn) := g1.sub' _ _ ha
              have hm' : h'.IntMap d f' := hm.sameBut hs' hdI
              have hle' : h'.DictLe d i := hle.sameBut hs' hdI
              refine wpAny_bind (wpAny_holding ?_)
              refine wpAny_bind (wpAny_tryCatch ?_)
              unfold Builtin.Dict.pairItems
              refine wpAny_bind (wpAny_typeOf (T := "tuple") ⟨_, ht, rfl⟩ ?_)
              rw [if_pos (by decide)]
              refine wpAny_bind (wpAny_seqItems ht rfl (wpAny_pure ?_))
              show wpAny _ A.in1 (holding [.int p.1 t1, .int p.2 t2] (dictSet d (.int p.1 t1) (.int p.2 t2))) _ _ _
              refine wpAny_holding (wpAny_dictSet_int_le (n := i) hm' hle' (by rw [sizeLine_eq]; omega) fun h'' hm'' hle'' hs'' => ?_)
              have g2 : Grow G0 s0 G0 { s with heap := h'', toks := s.toks + 1 } := g1.move (fun b => b = d) (fun b hb => by subst hb; exact ⟨h0.1, g0.1⟩) (fun b o hb e => hs''.extBut b o hb e)
              refine wpAny_pure ⟨plainId_quiet plain_update_loop _, ?_⟩
              have hadd : (i : Int) + 1 = ((i + 1 : Nat) : Int) := by omega
              rw [hadd]
              refine ih (i + 1) _ _ (mapPut f p.1 p.2) rest (by omega) hlt (hit'.extBut hs''.extBut (Ne.symm hdI)) hm'' hle'' (fun z => ?_) hrest g2 fun s' g' gg hmm hss => hR s' g' gg hmm hss
              by_cases hz : z = p.1
              · refine .inr ⟨p.2, t2, ?_, ?_⟩
                · simp [hz]
                · simp [mapPut, hz]
              · have := hsame z
                simpa [mapPut, hz] using this

theorem call_dict_pairs {l : Addr} {vs : List Value} {n : Nat} {G : PMap} {ps : List (Int × Int)} {Q : Value → Shared → Prop} (hh : A.handled = none) (hz : vs.length ≤ 1000) (hs : Sub G s.heap.get?) (hl : s.heap.get? l = some (listObj vs n)) (hr : Reps G vs (ps.map pairD))
    (hQ : ∀ G' s' v, Grow G s G' s' → Rep G' v (.map (mapOfL ps fun _ => none)) → Q v s') : wpAny (model prog w) A (call (.type "dict") [.ref l]) Q E s := by
  refine callType_codes (Q₁ := fun obj s₁ => obj = .ref s.heap.objs.size ∧ s₁ = { s with heap := s.heap.push { cls := .type "dict", data := .dict #[] } }) F.kt_called_dict (F.kt_typeCall_dict_1 _) F.entry_dict_init (kt_code_dict_new _ ⟨rfl, rfl⟩) ?_
  rintro obj s₁ ⟨rfl, rfl⟩
  have hnew : (s.heap.push { cls := .type "dict", data := .dict #[] }).IntMap s.heap.objs.size fun _ => none := Heap.IntMap.new s.heap
  have hle0 : (s.heap.push { cls := .type "dict", data := .dict #[] }).DictLe s.heap.objs.size 0 := Heap.DictLe.new s.heap
  have hnone : s.heap.get? s.heap.objs.size = none := get?_size
  have g1 : Grow G s G { s with heap := s.heap.push { cls := .type "dict", data := .dict #[] } } := Grow.alloc hs
  have hl1 : (s.heap.push { cls := .type "dict", data := .dict #[] }).get? l = some (listObj vs n) := Heap.get?_push_of_some _ hl
  refine ⟨hnew.typeIs, F.args_dict_init_2 _ _, ?_⟩
  generalize hD : s.heap.objs.size = D at hnew hle0 hnone
  generalize s.heap.push { cls := .type "dict", data := .dict #[] } = h1 at hnew hle0 g1 hl1
  have gD : G D = none := by
    cases x : G D with
    | none => rfl
    | some o => have := hs _ _ x; rw [hnone] at this; cases this
  unfold Builtin.«dict.__init__»
  refine wpAny_bind ?_
  unfold Builtin.Dict.selfAndRest
  refine wpAny_bind (wpAny_notOrdered_dict (Heap.IntMap.typeIs (s := { s with heap := h1 }) hnew) ?_)
  show wpAny _ _ (pure (D, [Value.ref l])) _ _ _
  refine wpAny_pure ?_
  show wpAny _ _ (Builtin.Dict.updateFrom "dict.__init__" D (.ref l) [] .none) _ _ _
  unfold Builtin.Dict.updateFrom
  refine wpAny_bind (wpAny_typeOf (T := "list") ⟨_, hl1, rfl⟩ ?_)
  rw [if_pos (by decide)]
  refine wpAny_bind (keys_miss (A := A.in1.in1) (s := { s with heap := h1 }) hl1 hh fun h2 tk hk => ?_)
  replace hk : ∀ b o, h1.get? b = some o → h2.get? b = some o := hk
  rw [if_pos (show (none : Option Value).isNone = true from rfl)]
  refine wpAny_bind (wpAny_rule ?_)
  have g2 : Grow G s G { s with heap := h2, toks := tk } := g1.move (fun b => False) (fun b hb => hb.elim) (fun b o _ e => hk b o e)
  have hl2 : h2.get? l = some (listObj vs n) := hk _ _ hl1
  have hnew2 : h2.IntMap D fun _ => none := let ⟨o, es, ep, ho, r⟩ := hnew; ⟨o, es, ep, hk _ _ ho, r⟩
  have hle2 : h2.DictLe D 0 := by obtain ⟨o, es, ep, ho, r⟩ := hnew; exact hle0.of_same ho (hk _ _ ho)
  refine wpAny_bind (wpAny_pyIter_list (isList_of hl2) ?_)
  have hI0 : h2.get? h2.objs.size = none := get?_size
  have g3 : Grow G s G { s with heap := h2.push { cls := .type "list_iterator", data := .fields #[.ref l, .int 0 0] }, toks := tk } := g2.trans (Grow.alloc g2.sub')
  have hdI : D ≠ h2.objs.size := fun e => by obtain ⟨o, _, _, ho, _⟩ := hnew2; rw [e, hI0] at ho; cases ho
  have gI : G h2.objs.size = none := by
    cases x : G h2.objs.size with
    | none => rfl
    | some o => have := g2.sub' _ _ x; rw [show h2.get? h2.objs.size = none from hI0] at this; cases this
  refine wpAny_pure ⟨plainId_quiet plain_update_loop _, ?_⟩
  refine update_loop (A := A.in1) (G0 := G) (s0 := s) hh hdI hz ⟨hnone, g2.dom _ hI0⟩ ⟨gD, gI⟩ hl vs.length 0 _ _ (fun _ => none) ps rfl (Nat.zero_le _) ⟨_, Heap.get?_push_size _ rfl, rfl, rfl⟩ (hnew2.push _) ?_ (fun _ => .inl ⟨rfl, rfl⟩) (by simpa using hr) g3 fun s' f' g' hm' hsame => ?_
  · obtain ⟨o, es, ep, ho, r⟩ := hnew2; exact hle2.of_same ho (Heap.get?_push_of_some _ ho)
  · refine ⟨rfl, ?_⟩
    obtain ⟨o, es, ep, ho, hc, hd, hk', hf⟩ := hm'
    have sub : Sub G (G.add D o) := fun b o' e => by
      have : b ≠ D := fun h => by rw [h, gD] at e; cases e
      rw [PMap.add_ne _ _ this]; exact e
    refine hQ (G.add D o) s' _ ⟨g'.sub.trans sub, g'.keep, g'.dom, fun b o' e => ?_, fun b o' e => ?_, g'.os, g'.gens, g'.tab⟩ (.map (PMap.add_self ..) hc hd hk' fun z => ?_)
    · by_cases hb : b = D
      · rw [hb]; exact .inr hnone
      · rw [PMap.add_ne _ _ hb] at e; exact g'.fresh b o' e
    · by_cases hb : b = D
      · rw [hb, PMap.add_self] at e; cases e; rw [hb]; exact ho
      · rw [PMap.add_ne _ _ hb] at e; exact g'.sub' b o' e
    · rw [hf]; exact hsame z
end

section
variable {C : Act} {k : Nat} {σ : Sig}
theorem ev_dictOf {p pos : Pos} {e : Expr} {ps : List (Int × Int)} (hk : C.env.kindOf "dict" = some .globalImplicit) (hg : C.T.mg "dict" = none) (hb : C.T.mb "dict" = some (.type "dict"))
    (h1 : EvB C k σ e (ps.map pairD)) (hz : ps.length ≤ 1000) (hp : plainArg e = true) : Ev C k σ (.Call (.Name "dict" p) [e] [] pos) (.map (mapOfL ps fun _ => none)) := by
  intro β A G s Q E hr I h
  refine callBuiltin (id := "dict") I hk (by decide +kernel) hg hb ?_
  refine PySem.callWith_type (backTo_plain _ _ (by simp [hp])) (evalArgs_B hp h1 hr I fun G1 s1 a vs n st1 p1 e1 r1 => ?_)
  have I1 := I.step st1
  refine call_dict_pairs hr.1 (by rw [r1.length]; simpa using hz) I1.sub e1 r1 fun G2 s2 v g r => h G2 s2 v (st1.trans (I1.grow g)) r
end

theorem compTurn_in (elt t0 i0 : Expr) (ifs0 : List Expr) (t1 i1 : Expr) (ifs1 : List Expr) (scope : Scope) (pos : Pos) (it acc : Value) (env : Env) :
    compTurn (.ListComp elt [⟨t0, i0, ifs0, 0⟩, ⟨t1, i1, ifs1, 0⟩] scope pos) 1 it acc env = (do
      standAt i1.pos
      match ← pyNext it with
      | none => pure (.done .next)
      | some v =>
        letOwnedTupleGo t1 it v
        assign t1 env v
        let mut ok := true
        for c in ifs1 do
          if ok then ok ← isTrue c env (eval c env)
        if ok then
          (do let _ ← call (.builtin "list.append") [acc, ← eval elt env])
        again (.compLoop (.ListComp elt [⟨t0, i0, ifs0, 0⟩, ⟨t1, i1, ifs1, 0⟩] scope pos) 1 it acc env)) := by rfl
theorem compTurn_out (elt t0 i0 : Expr) (t1 i1 : Expr) (ifs1 : List Expr) (scope : Scope) (pos : Pos) (it acc : Value) (env : Env) :
    compTurn (.ListComp elt [⟨t0, i0, [], 0⟩, ⟨t1, i1, ifs1, 0⟩] scope pos) 0 it acc env = (standAt i0.pos >>= fun _ => pyNext it >>= fun r => match r with
      | none => pure (.done .next)
      | some v => letOwnedTupleGo t0 it v >>= fun _ => assign t0 env v >>= fun _ =>
        (eval i1 env >>= fun x => standAt i1.pos >>= fun _ => foldedSetIterable i1 env x >>= fun x => holding [x] (pyIter x) >>= fun iv =>
          runOwn (.compStart (.ListComp elt [⟨t0, i0, [], 0⟩, ⟨t1, i1, ifs1, 0⟩] scope pos) 1 iv acc env) env >>= fun _ =>
          again (.compLoop (.ListComp elt [⟨t0, i0, [], 0⟩, ⟨t1, i1, ifs1, 0⟩] scope pos) 0 it acc env))) := by rfl

section
variable {prog : Program} {w : World} {A : Around} {E : Value → Shared → Prop} {R : Result → Shared → Prop} {s : Shared}

theorem compLoop_in {elt t0 i0 t1 i1 : Expr} {ifs0 ifs1 : List Expr} {scope : Scope} {pos : Pos} {it acc : Value} {env : Env} (I : Nat → Shared → Prop)
    (turn : ∀ n s, I n s → wpAny (model prog w) A (pyNext it) (fun r s₁ => match r with
      | none => R (.ok .next) s₁
      | some v => wpAny (model prog w) A (assign t1 env v) (fun _ s₂ =>
          wpAny (model prog w) A (forIn ifs1 true fun c r => if r = true then do let ok ← isTrue c env (eval c env); pure (ForInStep.yield ok) else pure (ForInStep.yield r)) (fun ok s₃ =>
            if ok = true then wpAny (model prog w) A (eval elt env) (fun x s₄ =>
              wpAny (model prog w) A (call (.builtin "list.append") [acc, x]) (fun _ s₅ => ∃ m, m < n ∧ I m s₅) (notedBy (model prog w) A env fun e s' => R (.error e) s') s₄) (notedBy (model prog w) A env fun e s' => R (.error e) s') s₃
            else ∃ m, m < n ∧ I m s₃) (notedBy (model prog w) A env fun e s' => R (.error e) s') s₂) (notedBy (model prog w) A env fun e s' => R (.error e) s') s₁) (notedBy (model prog w) A env fun e s' => R (.error e) s') s)
    (n : Nat) (h : I n s) (ht : ∀ v, letOwnedTupleGo t1 it v = pure () := by intro _; rfl) :
    codeAny (model prog w) A (.compLoop (.ListComp elt [⟨t0, i0, ifs0, 0⟩, ⟨t1, i1, ifs1, 0⟩] scope pos) 1 it acc env) R s := by
  refine codeAny_loop rfl I (fun n s hI => ?_) n h
  show wpAny _ A ((compTurn (.ListComp elt [⟨t0, i0, ifs0, 0⟩, ⟨t1, i1, ifs1, 0⟩] scope pos) 1 it acc env).onRaise (fun x => do noteFrame x env; theTreesLotGoes x)) _ _ s
  refine wpAny_noted ?_
  rw [compTurn_in]
  refine wpAny_bind (wpAny_standAt (wpAny_bind (wpAny_mono (turn n s hI) (fun r s₁ h₁ => ?_) fun _ _ h' => h')))
  cases r with
  | none => exact wpAny_pure h₁
  | some v =>
    refine wpAny_bind (wpAny_of_eq (ht v) ?_)
    refine wpAny_bind (wpAny_mono h₁ (fun _ s₂ h₂ => wpAny_bind (wpAny_mono h₂ (fun ok s₃ h₃ => ?_) fun _ _ h' => h')) fun _ _ h' => h')
    cases ok with
    | false => exact wpAny_pure ⟨rfl, h₃⟩
    | true =>
      exact wpAny_bind (wpAny_bind (wpAny_mono h₃ (fun x s₄ h₄ => wpAny_bind (wpAny_mono h₄ (fun _ s₅ h₅ => wpAny_pure (wpAny_pure ⟨rfl, h₅⟩)) fun _ _ h' => h')) fun _ _ h' => h'))

theorem compStart_in {elt t0 i0 t1 i1 : Expr} {ifs0 ifs1 : List Expr} {scope : Scope} {pos : Pos} {it acc : Value} {env : Env}
    (h0 : codeAny (model prog w) A (.compLoop (.ListComp elt [⟨t0, i0, ifs0, 0⟩, ⟨t1, i1, ifs1, 0⟩] scope pos) 1 it acc env) R s)
    (h : wpAny (model prog w) A (pyIter it) (fun it' s' => codeAny (model prog w) A (.compLoop (.ListComp elt [⟨t0, i0, ifs0, 0⟩, ⟨t1, i1, ifs1, 0⟩] scope pos) 1 it' acc env) R s')
      (notedBy (model prog w) A env fun x s' => R (.error x) s') s) :
    codeAny (model prog w) A (.compStart (.ListComp elt [⟨t0, i0, ifs0, 0⟩, ⟨t1, i1, ifs1, 0⟩] scope pos) 1 it acc env) R s := by
  refine codeAny_of_tree ?_
  show wpAny _ _ ((compStart (.ListComp elt [⟨t0, i0, ifs0, 0⟩, ⟨t1, i1, ifs1, 0⟩] scope pos) 1 it acc env).onRaise (fun x => do noteFrame x env; standAt theWindowsPlace)) _ _ s
  refine wpAny_notedAt ?_
  unfold compStart
  show wpAny _ _ (ask >>= _) _ _ s
  refine wpAny_bind (wpAny_askSetting (wpAny_ite ?_))
  split
  · first
      | exact wpAny_bind (wpAny_pure (wpAny_pure (And.intro rfl h0)))
      | exact wpAny_pure (And.intro rfl h0)
  · first
      | exact wpAny_bind (wpAny_rule (wpAny_bind (wpAny_standAt (wpAny_bind (wpAny_mono h (fun it' s' h' => wpAny_pure (And.intro rfl h')) fun _ _ x => x)))))
      | (refine wpAny_bind (wpAny_rule ?_); show wpAny _ _ (standAt i1.pos >>= _) _ _ s; exact wpAny_bind (wpAny_standAt (wpAny_bind (wpAny_mono h (fun it' s' h' => wpAny_pure (And.intro rfl h')) fun _ _ x => x))))

theorem compLoop_out {elt t0 i0 t1 i1 : Expr} {ifs1 : List Expr} {scope : Scope} {pos : Pos} {it acc : Value} {env : Env} (I : Nat → Shared → Prop)
    (turn : ∀ n s (NE : Value → Shared → Prop), I n s → wpAny (model prog w) A (pyNext it) (fun r s₁ => match r with
      | none => R (.ok .next) s₁
      | some v => wpAny (model prog w) A (assign t0 env v) (fun _ s₂ => wpAny (model prog w) A (eval i1 env) (fun x s₃ => wpAny (model prog w) A (pyIter x) (fun iv s₄ =>
            ∀ R' : Result → Shared → Prop, (∀ s₅, (∃ m, m < n ∧ I m s₅) → R' (.ok .next) s₅) → codeAny (model prog w) (A.mark none) (.compStart (.ListComp elt [⟨t0, i0, [], 0⟩, ⟨t1, i1, ifs1, 0⟩] scope pos) 1 iv acc env) R' s₄) NE s₃) NE s₂) NE s₁) NE s)
    (n : Nat) (h : I n s) (hfold : ∀ x, foldedSetIterable i1 env x = pure x) (ht : ∀ v, letOwnedTupleGo t0 it v = pure () := by intro _; rfl) :
    codeAny (model prog w) A (.compLoop (.ListComp elt [⟨t0, i0, [], 0⟩, ⟨t1, i1, ifs1, 0⟩] scope pos) 0 it acc env) R s := by
  refine codeAny_loop rfl I (fun n s hI => ?_) n h
  show wpAny _ A ((compTurn (.ListComp elt [⟨t0, i0, [], 0⟩, ⟨t1, i1, ifs1, 0⟩] scope pos) 0 it acc env).onRaise (fun x => do noteFrame x env; theTreesLotGoes x)) _ _ s
  refine wpAny_noted ?_
  rw [compTurn_out]
  refine wpAny_bind (wpAny_standAt (wpAny_bind (wpAny_mono (turn n s _ hI) (fun r s₁ h₁ => ?_) fun _ _ h' => h')))
  cases r with
  | none => exact wpAny_pure h₁
  | some v =>
    refine wpAny_bind (wpAny_of_eq (ht v) ?_)
    refine wpAny_bind (wpAny_mono h₁ (fun _ s₂ h₂ => ?_) fun _ _ h' => h')
    refine wpAny_bind (wpAny_mono h₂ (fun x s₃ h₃ => ?_) fun _ _ h' => h')
    refine wpAny_bind (wpAny_standAt (wpAny_bind (wpAny_of_eq (hfold x) ?_)))
    refine wpAny_bind (wpAny_holding (wpAny_mono h₃ (fun iv s₄ h₄ => ?_) fun _ _ h' => h'))
    refine wpAny_bind (wpAny_runOwn (Q := fun _ s₅ => wpAny (model prog w) A (again (.compLoop (.ListComp elt [⟨t0, i0, [], 0⟩, ⟨t1, i1, ifs1, 0⟩] scope pos) 0 it acc env)) _ _ s₅) (h₄ _ fun s₅ h₅ => ?_))
    exact wpAny_pure ⟨rfl, h₅⟩
end

structure CStB (C Cc : Act) (β : Bs) (σc : Sig) (G : PMap) (s : Shared) (i D : Addr) (G' : PMap) (s' : Shared) (ds : List Dat) : Prop where
  st : Stp C G s G' s'
  inv : Inv Cc β σc G' s'
  acc : ∃ vs n, s'.heap.get? D = some (listObj vs n) ∧ Reps G' vs ds
  gD : G' D = none
  gI : G' i = none

section
variable {C : Act} {k : Nat} {σ : Sig} {N K : Sig → Prop} {R : Dat → Prop} {β : Bs}

theorem CStB.off {Cc : Act} {σc : Sig} {G G' : PMap} {s s' : Shared} {i D a : Addr} {ds : List Dat} (x : CStB C Cc β σc G s i D G' s' ds) (fx : CFix C Cc σc s i D) (h0 : s.heap.get? a = none) (hg : G' a = none) (hb : β.B a = none) (hL : a ≠ Cc.env.locals) : Off Cc β σc G' s' a where
  priv := ⟨hg, hb, fun hp => fx.pex a (fx.P ▸ hp) h0⟩
  offL := hL
  offC := fun y c hk hc e => fx.cex y c hk hc (e ▸ h0)
  own := fun y b sl hl hw _ => by rw [fx.vals y sl hl] at hw; cases hw

theorem CStB.touch {Cc : Act} {σc : Sig} {G G' : PMap} {s s' : Shared} {i D : Addr} {h' : Heap} {tk : Nat} {ds : List Dat} (x : CStB C Cc β σc G s i D G' s' ds) (fx : CFix C Cc σc s i D) (bi : β.B i = none) (hk : ∀ b o, b ≠ i → s'.heap.get? b = some o → h'.get? b = some o) :
    CStB C Cc β σc G s i D G' { s' with heap := h', toks := tk } ds where
  st := x.st.touch fx.i0 x.gI (fun hp => fx.pex i hp fx.i0) (fun p hp e => fx.pex p hp (x.st.dom p e)) hk
  inv := (x.inv.writeOff (x.off fx fx.i0 x.gI bi fx.iL) hk).1
  acc := let ⟨vs, n, h1, h2⟩ := x.acc; ⟨vs, n, hk _ _ (Ne.symm fx.iD) h1, h2⟩
  gD := x.gD
  gI := x.gI

theorem CStB.step {Cc : Act} {σc : Sig} {G G' G'' : PMap} {s s' s'' : Shared} {i D : Addr} {ds : List Dat} (x : CStB C Cc β σc G s i D G' s' ds) (fx : CFix C Cc σc s i D) (hi : ∃ o, s'.heap.get? i = some o) (st : Stp Cc G' s' G'' s'') :
    CStB C Cc β σc G s i D G'' s'' ds := by
  have st' : Stp C G' s' G'' s'' := by unfold Stp at st ⊢; rw [← fx.P, ← fx.X]; exact st
  have none_of : ∀ a, G' a = none → (∃ o, s'.heap.get? a = some o) → G'' a = none := fun a hg ⟨o, ho⟩ => by
    cases e : G'' a with
    | none => rfl
    | some o' =>
      rcases st.fresh a o' e with h | h
      · rw [hg] at h; cases h
      · rw [ho] at h; cases h
  obtain ⟨vs, n, h1, h2⟩ := x.acc
  exact ⟨x.st.trans st', x.inv.step st, ⟨vs, n, st'.keep _ _ h1 (fun hp => fx.pex D hp fx.D0), h2.mono st.sub⟩, none_of D x.gD ⟨_, h1⟩, none_of i x.gI hi⟩

theorem CStB.weaken {Cc : Act} {σc σ' : Sig} {G G' : PMap} {s s' : Shared} {i D : Addr} {ds : List Dat} (x : CStB C Cc β σc G s i D G' s' ds) (hw : ∀ x sl, σ'.lookup x = some sl → σc.lookup x = some sl) : CStB C Cc β σ' G s i D G' s' ds :=
  ⟨x.st, x.inv.weaken hw, x.acc, x.gD, x.gI⟩

/-- a store at a name of the comprehension's -/
theorem CStB.store {Cc : Act} {σc : Sig} {A : Around} {G G' : PMap} {s s' : Shared} {i D : Addr} {ds : List Dat} {x : Str} {px : Pos} {v : Value} {d : Dat} {Q : Unit → Shared → Prop} {E : Value → Shared → Prop} (c : CStB C Cc β σc G s i D G' s' ds) (fx : CFix C Cc σc s i D) (hx : Cc.env.kindOf x = some .local) (hv : Rep G' v d)
    (h : ∀ h2 tk2, CStB C Cc β ((x, .val d) :: σc) G s i D G' { s' with heap := h2, toks := tk2 } ds → CFix C Cc ((x, .val d) :: σc) s i D → (∀ b o, b ≠ Cc.env.locals → s'.heap.get? b = some o → h2.get? b = some o) → Q () { s' with heap := h2, toks := tk2 }) :
    wpAny (model C.T.prog C.T.w) A (assign (.Name x px) Cc.env v) Q E s' := by
  rw [← fx.T]
  refine wpAny_assign_Name (wpAny_storeLocal c.inv hx (.val hv) fun h2 tk2 I2 hs2 _ => ?_)
  have kL : ∀ b o, b ≠ Cc.env.locals → s'.heap.get? b = some o → h2.get? b = some o := fun b o hb e => (hs2.2 b hb).trans e
  have gL : G' Cc.env.locals = none := c.inv.privL.g
  have stp2 : Stp C G s G' { s' with heap := h2, toks := tk2 } := c.st.touch fx.L0 gL (fun hp => fx.pex _ hp fx.L0) (fun p hp e => fx.pex p hp (c.st.dom p e)) kL
  obtain ⟨vs, nn, hD1, hD2⟩ := c.acc
  refine h h2 tk2 ⟨stp2, I2, ⟨vs, nn, kL _ _ fx.DL hD1, hD2⟩, c.gD, c.gI⟩ { fx with vals := fun y sl hl => ?_ } kL
  by_cases hy : y = x
  · subst hy; rw [lookup_cons_self] at hl; cases hl; rfl
  · rw [lookup_cons_ne _ _ hy] at hl; exact fx.vals y sl hl

/-- an item behind the others -/
theorem CStB.push {Cc : Act} {σc : Sig} {A : Around} {G G' : PMap} {s s' : Shared} {i D : Addr} {ds : List Dat} {y : Value} {d : Dat} {Q : Value → Shared → Prop} {E : Value → Shared → Prop} (c : CStB C Cc β σc G s i D G' s' ds) (fx : CFix C Cc σc s i D) (bD : β.B D = none) (hz : ds.length ≤ 16777216) (hv : Rep G' y d)
    (h : ∀ h2, CStB C Cc β σc G s i D G' { s' with heap := h2, toks := s'.toks } (ds ++ [d]) → (∀ b o, b ≠ D → s'.heap.get? b = some o → h2.get? b = some o) → Q .none { s' with heap := h2 }) :
    wpAny (model C.T.prog C.T.w) A (call (.builtin "list.append") [.ref D, y]) Q E s' := by
  obtain ⟨vs4, n4, hD4, hr4⟩ := c.acc
  have hz' : vs4.toArray.size ≤ sizeLine := by rw [List.size_toArray, hr4.length, sizeLine_eq]; exact hz
  refine call_meets F.slot_list_append (isList_of hD4).typeIs F.entry_list_append (F.args_list_append_2 _ _) (list_append D vs4.toArray n4 y hz') ⟨hD4, ?_⟩
  obtain ⟨n', hnew⟩ : ∃ n', (s'.heap.update D (Obj.mapSeq fun xs => xs.push y)).get? D = some (listObj (vs4 ++ [y]) n') := by
    have := IsL.update (h := s'.heap) hD4 (fun xs => xs.push y)
    rw [show vs4.toArray.push y = (vs4 ++ [y]).toArray by simp] at this
    exact ⟨_, this⟩
  have kD : ∀ b o, b ≠ D → s'.heap.get? b = some o → (s'.heap.update D (Obj.mapSeq fun xs => xs.push y)).get? b = some o := fun b o hb e => (Heap.get?_update_other _ _ (Ne.symm hb)).trans e
  exact h _ ⟨c.st.touch fx.D0 c.gD (fun hp => fx.pex _ hp fx.D0) (fun p hp e => fx.pex p hp (c.st.dom p e)) kD, (c.inv.writeOff (c.off fx fx.D0 c.gD bD fx.DL) kD).1, ⟨vs4 ++ [y], n', hnew, hr4.append (.one hv)⟩, c.gD, c.gI⟩ kD

theorem Walk.keep {T : Txt} {A : Around} {G G' : PMap} {s s' : Shared} {i : Addr} {ds : List Dat} {fp : List Addr} {n : Nat} {Pv : Nat → Value → Prop} {St : Nat → Heap → Prop} (W : Walk T A G s i ds fp n Pv St) {j : Nat} {h : Heap} (st : St j h) (hs : Sub G G') (hi : ∀ o, h.get? i = some o → s'.heap.get? i = some o) (hk : ∀ b o, G' b = some o → h.get? b = some o → s'.heap.get? b = some o) (hG : Sub G' h.get?) : St j s'.heap :=
  W.W.frame _ _ _ st fun b hb o e => by
    rcases W.fp b hb with rfl | ⟨o', ho'⟩
    · exact hi o e
    · have h1 := hs _ _ ho'
      have h2 := hG _ _ h1
      rw [h2] at e; cases e
      exact hk b _ h1 h2

theorem comp_inner {Cc : Act} {σc : Sig} {A : Around} {G G₁ : PMap} {s s₁ : Shared} {i D : Addr} {x : Str} {px pos : Pos} {elt t0 i0 i1 : Expr} {scope : Scope} {ds pre : List Dat} {fp : List Addr} {n : Nat} {Pv : Nat → Value → Prop} {St : Nat → Heap → Prop} {RR : Result → Shared → Prop}
    (f : Dat → Dat) (fx : CFix C Cc σc s i D) (bi : β.B i = none) (bD : β.B D = none) (hr : Room k A) (W : Walk C.T A G₁ s₁ i ds fp n Pv St) (hx : Cc.env.kindOf x = some .local) (hxσ : σc.lookup x = none) (hz : pre.length + ds.length ≤ 16777216)
    (hb : ∀ d ∈ ds, Ev Cc k ((x, .val d) :: σc) elt (f d))
    (h0 : CStB C Cc β σc G s i D G₁ s₁ pre)
    (hR : ∀ G' s', CStB C Cc β σc G s i D G' s' (pre ++ ds.map f) → Sub G₁ G' → RR (.ok .next) s') :
    codeAny (model C.T.prog C.T.w) A (.compLoop (.ListComp elt [⟨t0, i0, [], 0⟩, ⟨.Name x px, i1, [], 0⟩] scope pos) 1 (.ref i) (.ref D) Cc.env) RR s₁ := by
  refine compLoop_in (fun m s' => ∃ G' j, CStB C Cc β σc G s i D G' s' (pre ++ (ds.take j).map f) ∧ Sub G₁ G' ∧ St j s'.heap ∧ j ≤ n ∧ m = n + 1 - j) ?_ (n + 1) ⟨G₁, 0, by simpa using h0, .refl _, W.st, Nat.zero_le _, rfl⟩
  rintro m s' ⟨G', j, c, sub, st, hj, rfl⟩
  by_cases hlt : j < n
  · refine W.W.item j s' _ _ hlt st fun v h' tk hv st' hk => ?_
    obtain ⟨d, hd, hrep⟩ := W.P j v hlt hv
    have c1 := c.touch (tk := tk) (h' := h') fx bi (fun b o hb e => hk b o (by simp [hb]) e)
    have hmem : d ∈ ds := List.mem_of_getElem? hd
    have htake : ds.take (j + 1) = ds.take j ++ [d] := by rw [List.take_add_one, hd]; rfl
    obtain ⟨oi, hoi⟩ := W.ex _ _ st'
    refine c1.store fx hx (hrep.mono sub) fun h2 tk2 c2 fx2 kL => ?_
    have hi3 : h2.get? i = some oi := kL _ _ fx.iL hoi
    have gL : G' Cc.env.locals = none := c1.inv.privL.g
    have st2 : St (j + 1) h2 := W.keep (s' := { s' with heap := h2 }) st' sub (fun o e => kL _ _ fx.iL e) (fun b o hg e => kL b o (fun hb => by rw [hb, gL] at hg; cases hg) e) c1.inv.sub
    refine wpAny_tests_nil ?_
    rw [if_pos rfl]
    rw [← fx.T]
    refine hb d hmem _ A G' _ _ _ hr c2.inv fun G4 s4 y st4 r4 => ?_
    have c4 := (c2.step fx2 ⟨oi, hi3⟩ st4).weaken (σ' := σc) (fun z sl hl => by
      by_cases hy : z = x
      · subst hy; rw [hxσ] at hl; cases hl
      · rw [lookup_cons_ne _ _ hy]; exact hl)
    have pi : Cc.P ≠ some i := fun hp => fx.pex _ (fx.P ▸ hp) fx.i0
    have st4' : St (j + 1) s4.heap := W.keep (s' := s4) st2 sub (fun o e => st4.keep _ _ e pi) (fun b o hg e => st4.keep b o e fun hp => by rw [(c2.inv.off b hp).2] at hg; cases hg) c2.inv.sub
    rw [fx.T]
    refine c4.push fx bD (by
      have h1 : (ds.take j).length ≤ ds.length := by rw [List.length_take]; omega
      rw [List.length_append, List.length_map]; omega) r4 fun h5 c5 kD => ?_
    refine ⟨n + 1 - (j + 1), by omega, G4, j + 1, ?_, sub.trans st4.sub, ?_, hlt, rfl⟩
    · rw [htake, List.map_append, ← List.append_assoc]; exact c5
    · refine W.keep (s' := { s4 with heap := h5 }) st4' (sub.trans st4.sub) (fun o e => kD _ _ fx.iD e) (fun b o hg e => kD b o (fun hbD => by rw [hbD, c4.gD] at hg; cases hg) e) c4.inv.sub
  · have : j = n := by omega
    subst this
    refine W.W.done s' _ _ st fun h' tk hk => ?_
    have c1 := c.touch (tk := tk) (h' := h') fx bi (fun b o hb e => hk b o (by simp [hb]) e)
    rw [List.take_of_length_le (by rw [W.len]; exact Nat.le_refl _)] at c1
    exact hR G' _ c1 sub

theorem comp_outer {Cc : Act} {σc : Sig} {A : Around} {G G₁ : PMap} {s s₁ : Shared} {i D : Addr} {x0 x1 : Str} {p0 p1 pos : Pos} {elt i0 i1 : Expr} {scope : Scope} {ds0 ds1 : List Dat} {fp : List Addr} {n : Nat} {Pv : Nat → Value → Prop} {St : Nat → Heap → Prop} {RR : Result → Shared → Prop}
    (f : Dat → Dat → Dat) (fx : CFix C Cc σc s i D) (bn : ∀ a, β.B a = none) (hr : Room k A) (W : Walk C.T A G₁ s₁ i ds0 fp n Pv St) (hx0 : Cc.env.kindOf x0 = some .local) (hx1 : Cc.env.kindOf x1 = some .local) (hxσ0 : σc.lookup x0 = none) (hxσ1 : σc.lookup x1 = none) (hne : x1 ≠ x0) (hset : notSet i1 = true) (hz : ds0.length ≤ 1000) (hz1 : ds1.length ≤ 1000)
    (hsrc : ∀ d ∈ ds0, Src Cc k ((x0, .val d) :: σc) i1 ds1) (hb : ∀ d ∈ ds0, ∀ e ∈ ds1, Ev Cc k ((x1, .val e) :: (x0, .val d) :: σc) elt (f d e))
    (h0 : CStB C Cc β σc G s i D G₁ s₁ [])
    (hR : ∀ G' s', CStB C Cc β σc G s i D G' s' (ds0.flatMap fun d => ds1.map (f d)) → RR (.ok .next) s') :
    codeAny (model C.T.prog C.T.w) A (.compLoop (.ListComp elt [⟨.Name x0 p0, i0, [], 0⟩, ⟨.Name x1 p1, i1, [], 0⟩] scope pos) 0 (.ref i) (.ref D) Cc.env) RR s₁ := by
  refine compLoop_out (fun m s' => ∃ G' j, CStB C Cc β σc G s i D G' s' ((ds0.take j).flatMap fun d => ds1.map (f d)) ∧ Sub G₁ G' ∧ St j s'.heap ∧ j ≤ n ∧ m = n + 1 - j) ?_ (n + 1) ⟨G₁, 0, by simpa using h0, .refl _, W.st, Nat.zero_le _, rfl⟩ (fun x => folded_plain hset _ x)
  rintro m s' NE ⟨G', j, c, sub, st, hj, rfl⟩
  by_cases hlt : j < n
  · refine W.W.item j s' _ _ hlt st fun v h' tk hv st' hk => ?_
    obtain ⟨d, hd, hrep⟩ := W.P j v hlt hv
    have c1 := c.touch (tk := tk) (h' := h') fx (bn i) (fun b o hb e => hk b o (by simp [hb]) e)
    have hmem : d ∈ ds0 := List.mem_of_getElem? hd
    have htake : ds0.take (j + 1) = ds0.take j ++ [d] := by rw [List.take_add_one, hd]; rfl
    obtain ⟨oi, hoi⟩ := W.ex _ _ st'
    refine c1.store fx hx0 (hrep.mono sub) fun h2 tk2 c2 fx2 kL => ?_
    have hi3 : h2.get? i = some oi := kL _ _ fx.iL hoi
    have gL : G' Cc.env.locals = none := c1.inv.privL.g
    have st2 : St (j + 1) h2 := W.keep (s' := { s' with heap := h2 }) st' sub (fun o e => kL _ _ fx.iL e) (fun b o hg e => kL b o (fun hb => by rw [hb, gL] at hg; cases hg) e) c1.inv.sub
    rw [← fx.T]
    refine hsrc d hmem β A G' _ _ _ hr c2.inv fun G3 s3 i₁ fp1 n1 Pv1 St1 st3 hn1 hg1 W1 => ?_
    intro R' hR'
    rw [Around.mark_none]
    have c3 := c2.step fx2 ⟨oi, hi3⟩ st3
    have pi : Cc.P ≠ some i := fun hp => fx.pex _ (fx.P ▸ hp) fx.i0
    have hi3' : s3.heap.get? i = some oi := st3.keep _ _ hi3 pi
    have st3' : St (j + 1) s3.heap := W.keep (s' := s3) st2 sub (fun o e => st3.keep _ _ e pi) (fun b o hg e => st3.keep b o e fun hp => by rw [(c2.inv.off b hp).2] at hg; cases hg) c2.inv.sub
    have O := c3.off fx2 fx.i0 c3.gI (bn i) fx.iL
    have I3 := c3.inv.rebase O hi3'
    obtain ⟨vsD, nD, hD, _⟩ := c2.acc
    obtain ⟨mL, oL, _, _, hL, _⟩ := c2.inv.ns
    have ne1 : ∀ b o, h2.get? b = some o → b ≠ i₁ := fun b o e h => by rw [h] at e; rw [show h2.get? i₁ = none from hn1] at e; cases e
    have fx3 : CFix C Cc ((x0, .val d) :: σc) s i₁ D := { fx2 with i0 := c2.st.dom _ hn1, iD := (ne1 _ _ hD).symm, iL := (ne1 _ _ hL).symm }
    have b1 : (β.B.add i oi) i₁ = none := (PMap.add_ne _ _ (ne1 _ _ hi3).symm).trans (bn _)
    have bD : (β.B.add i oi) D = none := (PMap.add_ne _ _ (Ne.symm fx.iD)).trans (bn _)
    have c3' : CStB C Cc ⟨β.B.add i oi, G3, s3.os⟩ ((x0, .val d) :: σc) G s i₁ D G3 s3 ((ds0.take j).flatMap fun d => ds1.map (f d)) := ⟨c3.st, I3, c3.acc, c3.gD, hg1⟩
    have hflen : ((ds0.take j).flatMap fun d => ds1.map (f d)).length ≤ 1000 * 1000 := by
      have hl : ∀ l : List Dat, (l.flatMap fun d => ds1.map (f d)).length = l.length * ds1.length := by
        intro l
        induction l with
        | nil => simp
        | cons a r ih => rw [List.flatMap_cons, List.length_append, ih, List.length_map, List.length_cons, Nat.succ_mul]; omega
      rw [hl]
      have h1 : (ds0.take j).length ≤ 1000 := by rw [List.length_take]; omega
      exact Nat.mul_le_mul h1 hz1
    have W1' : Walk C.T A G3 s3 i₁ ds1 fp1 n1 Pv1 St1 := fx.T ▸ W1
    have loop : codeAny (model C.T.prog C.T.w) A (.compLoop (.ListComp elt [⟨.Name x0 p0, i0, [], 0⟩, ⟨.Name x1 p1, i1, [], 0⟩] scope pos) 1 (.ref i₁) (.ref D) Cc.env) R' s3 := by
      refine comp_inner (β := ⟨β.B.add i oi, G3, s3.os⟩) (f d) fx3 b1 bD hr W1' hx1 ?_ (by omega) (fun e he => hb d hmem e he) c3' fun G4 s4 c4 sub4 => ?_
      · rw [lookup_cons_ne _ _ hne]; exact hxσ1
      · obtain ⟨I4, O4, hi4, _⟩ := c3.inv.unbase O c4.inv
        refine hR' s4 ⟨n + 1 - (j + 1), by omega, G4, j + 1, ?_, (sub.trans st3.sub).trans sub4, ?_, hlt, rfl⟩
        · rw [htake, List.flatMap_append]
          have e1 : (List.flatMap (fun d => List.map (f d) ds1) [d]) = ds1.map (f d) := by simp
          rw [e1]
          refine ⟨c4.st, I4.weaken (fun z sl hl => ?_), c4.acc, c4.gD, O4.priv.g⟩
          by_cases hy : z = x0
          · subst hy; rw [hxσ0] at hl; cases hl
          · rw [lookup_cons_ne _ _ hy]; exact hl
        · exact W.keep (s' := s4) st3' (sub.trans st3.sub) (fun o e => by rw [hi3'] at e; cases e; exact hi4) (fun b o hg _ => c4.inv.sub _ _ (sub4 _ _ hg)) c3.inv.sub
    rw [fx.T]
    exact compStart_in loop (W1'.W.self 0 _ _ _ W1'.st loop)
  · have : j = n := by omega
    subst this
    refine W.W.done s' _ _ st fun h' tk hk => ?_
    have c1 := c.touch (tk := tk) (h' := h') fx (bn i) (fun b o hb e => hk b o (by simp [hb]) e)
    rw [List.take_of_length_le (by rw [W.len]; exact Nat.le_refl _)] at c1
    exact hR G' _ c1

/-- the setting up of any list comprehension -/
theorem comp_setup {A : Around} {G : PMap} {s : Shared} {σc : Sig} {x : Str} {px pos p' : Pos} {elt iter : Expr} {ifs : List Expr} {rest : List Comprehension} {scope : Scope} {ds out : List Dat} {use : Option (Value → Sem Unit)} {Q : Value → Shared → Prop} {E : Value → Shared → Prop}
    (hc : CompOk C σ σc scope x) (hsrc : Src C k σ iter ds) (hset : notSet iter = true) (hr : Room k A) (I : Inv C β σ G s)
    (hloop : ∀ L G1 s1 i D fp n Pv St (RR : Result → Shared → Prop), CFix C (compAct C scope L) σc s i D → Walk C.T A G1 s1 i ds fp n Pv St → CStB C (compAct C scope L) ⟨fun _ => none, fun _ => none, s.os⟩ σc G s i D G1 s1 [] →
      (∀ G' s', CStB C (compAct C scope L) ⟨fun _ => none, fun _ => none, s.os⟩ σc G s i D G' s' out → RR (.ok .next) s') →
      codeAny (model C.T.prog C.T.w) A (.compLoop (.ListComp elt (⟨.Name x px, iter, ifs, 0⟩ :: rest) scope pos) 0 (.ref i) (.ref D) (compAct C scope L).env) RR s1)
    (hfin : ∀ G' s' D L m vs n, Stp C G s G' s' → s.heap.get? D = none → G' D = none → s'.heap.get? D = some (listObj vs n) → Reps G' vs out → s'.heap.Ns L m → s.heap.get? L = none → G' L = none → L ≠ D → compPost (model C.T.prog C.T.w) A E use Q (.ref D) L (.ok .next) s') :
    wpAny (model C.T.prog C.T.w) A (comprehension (.ListComp elt (⟨.Name x px, iter, ifs, 0⟩ :: rest) scope pos) scope C.env p' (newList []) false (eval iter C.env) use) Q E s := by
  refine wpAny_comprehension_free (cl := clo C.env.cells scope.names []) rfl (folded_plain hset _) (closureFor_eq fun q hq hf => (hc.free q hq hf).2) hc.kind hc.names ?_
  refine hsrc β A G s _ E hr I fun G1 s1 i fp n Pv St st1 h0 hg1 W => ?_
  have I1 := I.step st1
  refine wpAny_newObj_type (wpAny_newFunctionEnv hc.nocell (by intro y hy; simp at hy) (fun h₁ hns₁ hsb₁ => ?_) hc.kind)
  dsimp only at hns₁ hsb₁ ⊢
  have hL : (s1.heap.push { cls := .type "list", dict := none, data := .seq ([] : List Value).toArray }).objs.size = s1.heap.objs.size + 1 := Heap.size_push ..
  generalize hLe : (s1.heap.push { cls := .type "list", dict := none, data := .seq ([] : List Value).toArray }).objs.size = L at hns₁ hsb₁ hL ⊢
  have hLD : s1.heap.objs.size ≠ L := by rw [hL]; exact Nat.ne_of_lt (Nat.lt_succ_self _)
  have old : ∀ b o, s1.heap.get? b = some o → h₁.get? b = some o := fun b o e => (hsb₁.2 b (by rw [hL]; exact Nat.ne_of_lt (Nat.lt_succ_of_lt (Heap.lt_size e)))).trans (Heap.get?_push_of_some _ (Heap.get?_push_of_some _ e))
  have fresh1 : ∀ a, s1.heap.objs.size ≤ a → s1.heap.get? a = none := fun a ha => by
    cases e : s1.heap.get? a with
    | none => rfl
    | some o' => exact absurd (Heap.lt_size e) (Nat.not_lt.mpr ha)
  have hD1 : h₁.get? s1.heap.objs.size = some (listObj [] 0) := (hsb₁.2 _ hLD).trans (Heap.get?_push_of_some _ (Heap.get?_push_size _ rfl))
  have g1 : Grow G1 s1 G1 { s1 with heap := h₁, toks := s1.toks + ([] : List (Str × Value)).length } := Grow.kept I1.sub old
  have I2 := I1.step (I1.grow g1)
  have hdom1 : ∀ a, s1.heap.objs.size ≤ a → s.heap.get? a = none := fun a ha => st1.dom a (fresh1 a ha)
  have gnone : ∀ a, s1.heap.objs.size ≤ a → G1 a = none := fun a ha => by
    cases e : G1 a with
    | none => rfl
    | some o => have := I1.sub _ _ e; rw [fresh1 a ha] at this; cases this
  obtain ⟨oi, hoi⟩ := W.ex _ _ W.st
  have hi : i < s1.heap.objs.size := Heap.lt_size hoi
  have hcl : ∀ y c, (clo C.env.cells scope.names []).lookup y = some c → C.env.kindOf y = some .cell ∧ C.env.cells.lookup y = some c := by
    intro y c hl
    rcases clo_mem (mem_of_lookup hl) with h | ⟨h1, h2⟩
    · cases h
    · obtain ⟨k1, c', k2⟩ := hc.free _ h1 rfl
      rw [k2] at h2
      exact ⟨k1, by rw [k2, h2]; rfl⟩
  have hLle : s1.heap.objs.size ≤ L := by rw [hL]; exact Nat.le_succ _
  let Cc := compAct C scope L
  have fx : CFix C Cc σc s i s1.heap.objs.size := {
    T := rfl, P := rfl, X := rfl, i0 := h0, D0 := hdom1 _ (Nat.le_refl _), L0 := hdom1 _ hLle, iD := Nat.ne_of_lt hi, iL := Nat.ne_of_lt (Nat.lt_of_lt_of_le hi hLle), DL := hLD
    pex := fun q hq => (I.tab q hq).2
    cex := fun y c _ hl e => by
      obtain ⟨k1, k2⟩ := hcl y c hl
      obtain ⟨_, _, v, o, ho, _⟩ := I.cells y c (.inl k1) k2
      rw [ho] at e; cases e
    vals := fun y sl hl => by obtain ⟨⟨d, rfl⟩, _⟩ := hc.vals y sl hl; rfl }
  have inv : Inv Cc ⟨fun _ => none, fun _ => none, s.os⟩ σc G1 { s1 with heap := h₁, toks := s1.toks + ([] : List (Str × Value)).length } := by
    refine ⟨⟨_, hns₁⟩, ?_, I2.text, (fun b o e => by cases e), I2.sub, (fun b o e => by cases e), (fun b o e => .inr rfl), st1.os, I2.gens, I2.tab, (fun q hq => ⟨rfl, (I2.off q hq).2⟩), ⟨gnone _ hLle, rfl, fun hp => (I1.tab L hp).2 (fresh1 _ hLle)⟩, ?_, ?_, ?_, fun _ => 0, ?_, ?_⟩
    · exact hc.kind
    · intro y c hk hl
      obtain ⟨k1, k2⟩ := hcl y c hl
      have := I2.privC y c k1 k2
      exact ⟨this.g, rfl, this.p⟩
    · intro y c hk hl
      obtain ⟨k1, k2⟩ := hcl y c hl
      obtain ⟨_, h2, v, o, ho, hd⟩ := I1.cells y c (.inl k1) k2
      exact ⟨Nat.ne_of_lt (Nat.lt_of_lt_of_le (Heap.lt_size ho) hLle), h2, v, o, old _ _ ho, hd⟩
    · intro y z c _ _ hy hz
      obtain ⟨k1, k2⟩ := hcl y c hy
      obtain ⟨k3, k4⟩ := hcl z c hz
      exact I.apart y z c (.inl k1) (.inl k3) k2 k4
    · intro y sl hl
      obtain ⟨⟨d, rfl⟩, h2, h3, h4⟩ := hc.vals y sl hl
      obtain ⟨k1, c, k2⟩ := hc.free _ h3 rfl
      obtain ⟨ad, v1, _⟩ := I2.vals
      obtain ⟨v, loc, hrep⟩ := v1 y _ h2
      refine ⟨v, ?_, hrep⟩
      rcases loc with ⟨e1, _⟩ | ⟨_, c', e2, e3⟩
      · rw [k1] at e1; cases e1
      · rw [k2] at e2; cases e2
        exact .inr ⟨.inl (relabel_free I.kind h4 k1), c, clo_has k2 (.inl h3), e3⟩
    · intro y z sl sl' hy hz ho
      obtain ⟨⟨d, rfl⟩, _⟩ := hc.vals y sl hy
      cases ho
  have c0 : CStB C Cc ⟨fun _ => none, fun _ => none, s.os⟩ σc G s i s1.heap.objs.size G1 { s1 with heap := h₁, toks := s1.toks + ([] : List (Str × Value)).length } [] :=
    ⟨st1.trans (I1.grow g1), inv, ⟨[], 0, hD1, .nil⟩, gnone _ (Nat.le_refl _), hg1⟩
  have W2 : Walk C.T A G1 { s1 with heap := h₁, toks := s1.toks + ([] : List (Str × Value)).length } i ds fp n Pv St := { W with st := W.W.frame _ _ _ W.st fun b _ o e => old b o e }
  have loop : codeAny (model C.T.prog C.T.w) A (.compLoop (.ListComp elt (⟨.Name x px, iter, ifs, 0⟩ :: rest) scope pos) 0 (.ref i) (.ref s1.heap.objs.size) Cc.env) (compPost (model C.T.prog C.T.w) A E use Q (.ref s1.heap.objs.size) L) { s1 with heap := h₁, toks := s1.toks + ([] : List (Str × Value)).length } := by
    refine hloop L G1 _ i _ fp n Pv St _ fx W2 c0 fun G' s' c => ?_
    obtain ⟨vs, nn, h1, h2⟩ := c.acc
    obtain ⟨m, hm⟩ := c.inv.ns
    exact hfin G' s' _ L m vs nn c.st (hdom1 _ (Nat.le_refl _)) c.gD h1 h2 hm (hdom1 _ hLle) c.inv.privL.g (Ne.symm hLD)
  exact codeAny_compStart_list loop (W2.W.self 0 _ _ _ W2.st loop)

/-- y = [elt for x0 in i0 for x1 in i1] -/
theorem ex_assignC2 {σc : Sig} {x0 x1 y : Str} {p0 p1 py pos spos : Pos} {elt i0 i1 : Expr} {scope : Scope} {ds0 ds1 : List Dat} {ss : List Stmt} (f : Dat → Dat → Dat) (hc : CompOk C σ σc scope x0) (hx1 : scope.names.lookup x1 = some .local) (hxσ1 : σc.lookup x1 = none) (hne : x1 ≠ x0) (hsrc : Src C k σ i0 ds0) (hset : notSet i0 = true) (hset1 : notSet i1 = true) (hz : ds0.length ≤ 1000) (hz1 : ds1.length ≤ 1000)
    (hs1 : ∀ L, ∀ d ∈ ds0, Src (compAct C scope L) k ((x0, .val d) :: σc) i1 ds1) (hb : ∀ L, ∀ d ∈ ds0, ∀ e ∈ ds1, Ev (compAct C scope L) k ((x1, .val e) :: (x0, .val d) :: σc) elt (f d e))
    (hy : C.env.kindOf y = some .local) (hl : (py.line == pos.line) = true) (hn : (scope.names.any fun (n, k) => n == y && (k == .local || k == .cell)) = false)
    (h : Ex C k ((y, .lst (ds0.flatMap fun d => ds1.map (f d))) :: σ) ss N K R) : Ex C k σ (.Assign [.Name y py] (.ListComp elt [⟨.Name x0 p0, i0, [], 0⟩, ⟨.Name x1 p1, i1, [], 0⟩] scope pos) spos :: ss) N K R := by
  refine ex_cons fun β A G s Q E hr I h1 h2 h3 => ?_
  rw [exec_Assign_Name_used _ _ _ _ (swaps_comp I.kind hy hl hn)]
  refine wpAny_bind (wpAny_standAt (wpAny_bind ?_))
  show wpAny _ A (do let _ ← comprehension (.ListComp elt [⟨.Name x0 p0, i0, [], 0⟩, ⟨.Name x1 p1, i1, [], 0⟩] scope pos) scope C.env _ (newList []) false (eval i0 C.env) (some (assign (.Name y py) C.env))) _ _ s
  refine wpAny_bind (wpAny_mono (comp_setup (Q := fun _ s' => Q .next s') (E := E) (out := ds0.flatMap fun d => ds1.map (f d)) hc hsrc hset hr I (fun L G1 s1 i D fp n Pv St RR fx W c0 hR => comp_outer f fx (fun _ => rfl) hr W (lookup_relabel_local hc.tx) (lookup_relabel_local hx1) hc.xσ hxσ1 hne hset1 hz hz1 (hs1 L) (hb L) c0 hR) fun G' s' D L m vs n st hD gD hd hreps hm hL gL hLD => ?_) (fun _ s' hq => wpAny_pure (wpAny_pure hq)) fun _ _ e => e)
  have I' := I.step st
  show wpAny _ A (assign (.Name y py) C.env (.ref D)) _ _ _
  refine wpAny_assign_Name (wpAny_storeLocal I' hy (given_fresh (sl := .lst (ds0.flatMap fun d => ds1.map (f d))) I st hD gD rfl ⟨vs, n, hd, hreps⟩) fun h' tk I2 hs2 hloc => ?_)
  have hLn : L ≠ C.env.locals := fun e => by obtain ⟨o, ho⟩ := I.L; rw [← e, hL] at ho; cases ho
  refine ⟨m, hm.sameBut hs2 hLn, fun h'' hs'' => ?_⟩
  have off : Off C β ((y, .lst (ds0.flatMap fun d => ds1.map (f d))) :: σ) G' { s' with heap := h', toks := tk } L := by
    refine ⟨⟨gL, ?_, fun hp => (I.tab _ hp).2 hL⟩, hLn, fun z c hk hcl e => ?_, fun z a sl hz hw S => ?_⟩
    · cases e : β.B L with
      | none => rfl
      | some o => have := I.base _ _ e; rw [hL] at this; cases this
    · obtain ⟨_, _, v, o, ho, _⟩ := I.cells z c hk hcl; rw [e, hL] at ho; cases ho
    · intro e
      by_cases hzy : z = y
      · subst hzy
        exact hLD (e.symm.trans (Value.ref.inj (hloc.1.uniq S.loc)).symm)
      · rw [lookup_cons_ne _ _ hzy] at hz
        obtain ⟨ad, v1, _⟩ := I.vals
        have S0 := (slotAt_own hw).mp (v1 z sl hz)
        have l1 : Loc C.env s'.heap z (.ref (ad z)) := S0.loc.keep (fun o e => st.keep _ o e I.privL.p) fun c o hk hc e => st.keep _ o e (I.cells z c hk hc).2.1
        have e2 := Value.ref.inj ((hloc.2 z _ hzy l1).uniq S.loc)
        obtain ⟨o, ho⟩ := S0.at_.ex hw
        rw [e2, e, hL] at ho; cases ho
  exact h1 G' _ _ (I2.writeOff (tk := tk) off (fun b o hb e => (hs''.2 b hb).trans e)).1 h

/-- one clause -/
theorem comp_one {Cc : Act} {σc : Sig} {A : Around} {G G₁ : PMap} {s s₁ : Shared} {i D : Addr} {x : Str} {px pos : Pos} {elt iter : Expr} {ifs : List Expr} {scope : Scope} {ds : List Dat} {fp : List Addr} {n : Nat} {Pv : Nat → Value → Prop} {St : Nat → Heap → Prop} {RR : Result → Shared → Prop}
    (p : Dat → Bool) (f : Dat → Dat) (fx : CFix C Cc σc s i D) (bi : β.B i = none) (bD : β.B D = none) (hr : Room k A) (W : Walk C.T A G₁ s₁ i ds fp n Pv St) (hx : Cc.env.kindOf x = some .local) (hxσ : σc.lookup x = none) (hz : ds.length ≤ 16777216)
    (hb : ∀ d ∈ ds, Tst Cc k ((x, .val d) :: σc) ifs (p d) ∧ (p d = true → Ev Cc k ((x, .val d) :: σc) elt (f d)))
    (h0 : CStB C Cc β σc G s i D G₁ s₁ [])
    (hR : ∀ G' s', CStB C Cc β σc G s i D G' s' ((ds.filter p).map f) → RR (.ok .next) s') :
    codeAny (model C.T.prog C.T.w) A (.compLoop (.ListComp elt [⟨.Name x px, iter, ifs, 0⟩] scope pos) 0 (.ref i) (.ref D) Cc.env) RR s₁ := by
  refine codeAny_compLoop_tests (fun m s' => ∃ G' j, CStB C Cc β σc G s i D G' s' (((ds.take j).filter p).map f) ∧ Sub G₁ G' ∧ St j s'.heap ∧ j ≤ n ∧ m = n + 1 - j) ?_ (n + 1) ⟨G₁, 0, by simpa using h0, .refl _, W.st, Nat.zero_le _, rfl⟩
  rintro m s' ⟨G', j, c, sub, st, hj, rfl⟩
  by_cases hlt : j < n
  · refine W.W.item j s' _ _ hlt st fun v h' tk hv st' hk => ?_
    obtain ⟨d, hd, hrep⟩ := W.P j v hlt hv
    have c1 := c.touch (tk := tk) (h' := h') fx bi (fun b o hb e => hk b o (by simp [hb]) e)
    obtain ⟨ht, he⟩ := hb d (List.mem_of_getElem? hd)
    have htake : ds.take (j + 1) = ds.take j ++ [d] := by rw [List.take_add_one, hd]; rfl
    obtain ⟨oi, hoi⟩ := W.ex _ _ st'
    refine c1.store fx hx (hrep.mono sub) fun h2 tk2 c2 fx2 kL => ?_
    have hi3 : h2.get? i = some oi := kL _ _ fx.iL hoi
    have gL : G' Cc.env.locals = none := c1.inv.privL.g
    have st2 : St (j + 1) h2 := W.keep (s' := { s' with heap := h2 }) st' sub (fun o e => kL _ _ fx.iL e) (fun b o hg e => kL b o (fun hb => by rw [hb, gL] at hg; cases hg) e) c1.inv.sub
    have pi : Cc.P ≠ some i := fun hp => fx.pex _ (fx.P ▸ hp) fx.i0
    have wk : ∀ z sl, σc.lookup z = some sl → List.lookup z ((x, Slot.val d) :: σc) = some sl := fun z sl hl => by
      by_cases hy : z = x
      · subst hy; rw [hxσ] at hl; cases hl
      · rw [lookup_cons_ne _ _ hy]; exact hl
    have keep : ∀ {G3 : PMap} {s3 : Shared} {G4 : PMap} {s4 : Shared}, Inv Cc β ((x, .val d) :: σc) G3 s3 → Sub G₁ G3 → St (j + 1) s3.heap → Stp Cc G3 s3 G4 s4 → St (j + 1) s4.heap := fun I3 sb sth st3 =>
      W.keep (s' := _) sth sb (fun o e => st3.keep _ _ e pi) (fun b o hg e => st3.keep b o e fun hp => by rw [(I3.off b hp).2] at hg; cases hg) I3.sub
    rw [← fx.T]
    refine ht _ A G' _ _ _ hr c2.inv fun G3 s3 st3 => ?_
    have c3 := c2.step fx2 ⟨oi, hi3⟩ st3
    have s3t := keep c2.inv sub st2 st3
    cases hp : p d with
    | false =>
      rw [if_neg (by simp)]
      refine ⟨n + 1 - (j + 1), by omega, G3, j + 1, ?_, sub.trans st3.sub, s3t, hlt, rfl⟩
      rw [htake, List.filter_append]
      simpa [hp] using c3.weaken wk
    | true =>
      rw [if_pos rfl]
      refine he hp _ A G3 s3 _ _ hr c3.inv fun G4 s4 y st4 r4 => ?_
      have c4 := (c3.step fx2 ⟨oi, st3.keep _ _ hi3 pi⟩ st4).weaken wk
      have s4t := keep c3.inv (sub.trans st3.sub) s3t st4
      rw [fx.T]
      refine c4.push fx bD (by
        have h1 : ((ds.take j).filter p).length ≤ (ds.take j).length := List.length_filter_le _ _
        rw [List.length_take] at h1
        rw [List.length_map]; omega) r4 fun h5 c5 kD => ?_
      refine ⟨n + 1 - (j + 1), by omega, G4, j + 1, ?_, (sub.trans st3.sub).trans st4.sub, ?_, hlt, rfl⟩
      · rw [htake, List.filter_append]
        simpa [hp] using c5
      · exact W.keep (s' := { s4 with heap := h5 }) s4t ((sub.trans st3.sub).trans st4.sub) (fun o e => kD _ _ fx.iD e) (fun b o hg e => kD b o (fun hbD => by rw [hbD, c4.gD] at hg; cases hg) e) c4.inv.sub
  · have : j = n := by omega
    subst this
    refine W.W.done s' _ _ st fun h' tk hk => ?_
    have c1 := c.touch (tk := tk) (h' := h') fx bi (fun b o hb e => hk b o (by simp [hb]) e)
    rw [List.take_of_length_le (by rw [W.len]; exact Nat.le_refl _)] at c1
    exact hR G' _ c1

theorem evF_comp {σc : Sig} {x : Str} {px pos : Pos} {elt iter : Expr} {ifs : List Expr} {scope : Scope} {ds : List Dat} (p : Dat → Bool) (f : Dat → Dat) (hc : CompOk C σ σc scope x) (hsrc : Src C k σ iter ds) (hset : notSet iter = true) (hz : ds.length ≤ 16777216)
    (hb : ∀ L, ∀ d ∈ ds, Tst (compAct C scope L) k ((x, .val d) :: σc) ifs (p d) ∧ (p d = true → Ev (compAct C scope L) k ((x, .val d) :: σc) elt (f d))) :
    EvF C k σ (.ListComp elt [⟨.Name x px, iter, ifs, 0⟩] scope pos) ((ds.filter p).map f) := by
  intro β A G s Q E hr I h
  show wpAny _ A (comprehension (.ListComp elt [⟨.Name x px, iter, ifs, 0⟩] scope pos) scope C.env _ (newList []) false (eval iter C.env) none) Q E s
  refine comp_setup (out := (ds.filter p).map f) hc hsrc hset hr I (fun L G1 s1 i D fp n Pv St RR fx W c0 hR => comp_one p f fx rfl rfl hr W (lookup_relabel_local hc.tx) hc.xσ hz (hb L) c0 hR) fun G' s' D L m vs n st hD gD hd hreps hm hL gL hLD => ⟨m, hm, fun h' hs' => ?_⟩
  have I' := I.step st
  have kL : ∀ b o, b ≠ L → s'.heap.get? b = some o → h'.get? b = some o := fun b o hb e => (hs'.2 b hb).trans e
  exact h G' _ D vs n (st.touch (tk := s'.toks) hL gL (fun hp => (I.tab _ hp).2 hL) (fun q hq => (I'.tab q hq).2) kL) hD gD (kL _ _ (Ne.symm hLD) hd) hreps

/-- y = [..] where the store is the comprehension's -/
theorem ex_assignC {σc : Sig} {x y : Str} {px py pos spos : Pos} {elt iter : Expr} {ifs : List Expr} {scope : Scope} {ds : List Dat} {ss : List Stmt} (p : Dat → Bool) (f : Dat → Dat) (hc : CompOk C σ σc scope x) (hsrc : Src C k σ iter ds) (hset : notSet iter = true) (hz : ds.length ≤ 16777216)
    (hb : ∀ L, ∀ d ∈ ds, Tst (compAct C scope L) k ((x, .val d) :: σc) ifs (p d) ∧ (p d = true → Ev (compAct C scope L) k ((x, .val d) :: σc) elt (f d)))
    (hy : C.env.kindOf y = some .local) (hl : (py.line == pos.line) = true) (hn : (scope.names.any fun (n, k) => n == y && (k == .local || k == .cell)) = false)
    (h : Ex C k ((y, .lst ((ds.filter p).map f)) :: σ) ss N K R) : Ex C k σ (.Assign [.Name y py] (.ListComp elt [⟨.Name x px, iter, ifs, 0⟩] scope pos) spos :: ss) N K R := by
  refine ex_cons fun β A G s Q E hr I h1 h2 h3 => ?_
  rw [exec_Assign_Name_used _ _ _ _ (swaps_comp I.kind hy hl hn)]
  refine wpAny_bind (wpAny_standAt (wpAny_bind ?_))
  show wpAny _ A (do let _ ← comprehension (.ListComp elt [⟨.Name x px, iter, ifs, 0⟩] scope pos) scope C.env _ (newList []) false (eval iter C.env) (some (assign (.Name y py) C.env))) _ _ s
  refine wpAny_bind (wpAny_mono (comp_setup (Q := fun _ s' => Q .next s') (E := E) (out := (ds.filter p).map f) hc hsrc hset hr I (fun L G1 s1 i D fp n Pv St RR fx W c0 hR => comp_one p f fx rfl rfl hr W (lookup_relabel_local hc.tx) hc.xσ hz (hb L) c0 hR) fun G' s' D L m vs n st hD gD hd hreps hm hL gL hLD => ?_) (fun _ s' hq => wpAny_pure (wpAny_pure hq)) fun _ _ e => e)
  have I' := I.step st
  show wpAny _ A (assign (.Name y py) C.env (.ref D)) _ _ _
  refine wpAny_assign_Name (wpAny_storeLocal I' hy (given_fresh (sl := .lst ((ds.filter p).map f)) I st hD gD rfl ⟨vs, n, hd, hreps⟩) fun h' tk I2 hs2 hloc => ?_)
  have hLn : L ≠ C.env.locals := fun e => by obtain ⟨o, ho⟩ := I.L; rw [← e, hL] at ho; cases ho
  refine ⟨m, hm.sameBut hs2 hLn, fun h'' hs'' => ?_⟩
  have off : Off C β ((y, .lst ((ds.filter p).map f)) :: σ) G' { s' with heap := h', toks := tk } L := by
    refine ⟨⟨gL, ?_, fun hp => (I.tab _ hp).2 hL⟩, hLn, fun z c hk hcl e => ?_, fun z a sl hz hw S => ?_⟩
    · cases e : β.B L with
      | none => rfl
      | some o => have := I.base _ _ e; rw [hL] at this; cases this
    · obtain ⟨_, _, v, o, ho, _⟩ := I.cells z c hk hcl; rw [e, hL] at ho; cases ho
    · intro e
      by_cases hzy : z = y
      · subst hzy
        exact hLD (e.symm.trans (Value.ref.inj (hloc.1.uniq S.loc)).symm)
      · rw [lookup_cons_ne _ _ hzy] at hz
        obtain ⟨ad, v1, _⟩ := I.vals
        have S0 := (slotAt_own hw).mp (v1 z sl hz)
        have l1 : Loc C.env s'.heap z (.ref (ad z)) := S0.loc.keep (fun o e => st.keep _ o e I.privL.p) fun c o hk hc e => st.keep _ o e (I.cells z c hk hc).2.1
        have e2 := Value.ref.inj ((hloc.2 z _ hzy l1).uniq S.loc)
        obtain ⟨o, ho⟩ := S0.at_.ex hw
        rw [e2, e, hL] at ho; cases ho
  exact h1 G' _ _ (I2.writeOff (tk := tk) off (fun b o hb e => (hs''.2 b hb).trans e)).1 h
end

noncomputable def fdef (i : Nat) : Stmt := (PySem.Challenge.pw_sx_zsentry_6.main.body)[i]?.getD (.Pass ⟨0, 0, 0, 0⟩)
noncomputable def bodyOf : Stmt → List Stmt
  | .FunctionDef _ _ b _ _ _ _ _ _ _ => b
  | _ => []
noncomputable def scopeOf : Stmt → Scope
  | .FunctionDef _ _ _ _ _ _ s _ _ _ => s
  | _ => default
noncomputable def nameOf : Stmt → Str
  | .FunctionDef n .. => n
  | _ => default
noncomputable def paramsOf : Stmt → Arguments
  | .FunctionDef _ p .. => p
  | _ => default

/-- a def of the text, as the run of the top leaves it -/
noncomputable def FnAt (T : Txt) (i : Nat) : Prop := ∃ a o pm cd doc, T.mg (nameOf (fdef i)) = some (.ref a) ∧ T.H a = some o ∧
  o.data = .func (Calls.docDef (nameOf (fdef i)) (paramsOf (fdef i)) (bodyOf (fdef i)) (scopeOf (fdef i)) pm cd doc) ∧ CodeRecP T.H cd (nameOf (fdef i))

noncomputable def opsL : List Str := ["+", "-", "*", "==", "!=", "<", "and", "or", "%"]
noncomputable def boxL : List (Int × Int) := [(2, 2), (2, 2), (3, 1), (4, 1), (5, 1), (1, 2)]

structure Lib (T : Txt) : Prop where
  fns : ∀ i ∈ [1, 2, 3, 4, 5, 6, 7, 8, 9, 13, 14, 15, 16, 17, 18, 19, 20, 21], FnAt T i
  glen : T.mg "len" = none
  blen : T.mb "len" = some (.builtin "len")
  grange : T.mg "range" = none
  brange : T.mb "range" = some (.type "range")
  glist : T.mg "list" = none
  blist : T.mb "list" = some (.type "list")
  gsorted : T.mg "sorted" = none
  bsorted : T.mb "sorted" = some (.builtin "sorted")
  ops : ∃ v, T.mg "_law_ops" = some v ∧ Rep T.H v (.tup (opsL.map Dat.str))
  boxes : ∃ v, T.mg "_law_boxes" = some v ∧ Rep T.H v (.tup (boxL.map fun b => .tup [.int b.1, .int b.2]))

theorem lk_self {x : Str} {v : Slot} {l : Sig} : List.lookup x ((x, v) :: l) = some v := lookup_cons_self ..
theorem lk_tail {x y : Str} {v : Slot} {l : Sig} {r : Option Slot} (h : (y == x) = false) (h2 : List.lookup y l = r) : List.lookup y ((x, v) :: l) = r := by
  rw [List.lookup_cons, h]; exact h2
theorem wr_of {C : Act} {sc : Scope} (hs : C.env.scope = sc) {x : Str} (h : sc.names.lookup x = some .local) : Wr C x := .inl (by unfold Env.kindOf; rw [hs]; exact h)
theorem gl_of {C : Act} {sc : Scope} (hs : C.env.scope = sc) {x : Str} (h : sc.names.lookup x = some .globalImplicit) : C.env.kindOf x = some .globalImplicit := by unfold Env.kindOf; rw [hs]; exact h

theorem bin_cat {ds es : List Dat} (hz : ds.length + es.length ≤ 16777216) : BinR .Add (.lst ds) (.lst es) (.lst (ds ++ es)) := fun prog w A G s v1 v2 Q E hs r1 r2 h => by
  cases r1 with
  | lst e1 r1 =>
    rename_i a1 vs1 n1
    cases r2 with
    | lst e2 r2 =>
      rename_i a2 vs2 n2
      refine P.add_list (hs _ _ e1) (hs _ _ e2) ?_ (by rw [List.size_toArray, List.size_toArray, r1.length, r2.length, sizeLine_eq]; exact hz)
      have g := Grow.allocG (o := listObj (vs1 ++ vs2) 0) (tk := s.toks) hs rfl
      have : (vs1 ++ vs2).toArray = vs1.toArray ++ vs2.toArray := by simp
      rw [show ({ cls := .type "list", data := .seq (vs1.toArray ++ vs2.toArray) } : Obj) = listObj (vs1 ++ vs2) 0 by rw [listObj, this]]
      exact h _ _ _ g (.lst (PMap.add_self ..) ((r1.append r2).mono g.sub))

theorem len1 {vs : List Value} (h : vs.length = 1) : ∃ a, vs = [a] := by
  cases vs with
  | nil => cases h
  | cons a r => cases r with
    | nil => exact ⟨a, rfl⟩
    | cons _ _ => simp at h
theorem len2 {vs : List Value} (h : vs.length = 2) : ∃ a b, vs = [a, b] := by
  cases vs with
  | nil => cases h
  | cons a r => obtain ⟨b, rfl⟩ := len1 (vs := r) (by simpa using h); exact ⟨a, b, rfl⟩
theorem len3 {vs : List Value} (h : vs.length = 3) : ∃ a b c, vs = [a, b, c] := by
  cases vs with
  | nil => cases h
  | cons a r => obtain ⟨b, c, rfl⟩ := len2 (vs := r) (by simpa using h); exact ⟨a, b, c, rfl⟩
theorem len4 {vs : List Value} (h : vs.length = 4) : ∃ a b c d, vs = [a, b, c, d] := by
  cases vs with
  | nil => cases h
  | cons a r => obtain ⟨b, c, d, rfl⟩ := len3 (vs := r) (by simpa using h); exact ⟨a, b, c, d, rfl⟩

/-- from a def of the text to its contract -/
theorem fn_at {T : Txt} {i : Nat} {k : Nat} {args : List Dat} {d : Dat} (F : FnAt T i) (ps : List Str) (hlen : ps.length = args.length)
    (hbind : ∀ pm cd doc (vs : List Value), vs.length = ps.length → bindArgs (Calls.docDef (nameOf (fdef i)) (paramsOf (fdef i)) (bodyOf (fdef i)) (scopeOf (fdef i)) pm cd doc) ⟨vs, []⟩ = pure (ps.zip vs)) (hnd : ps.Nodup)
    (hkind : ∀ x ∈ ps, (scopeOf (fdef i)).names.lookup x = some .local ∨ (scopeOf (fdef i)).names.lookup x = some .cell)
    (hco : (scopeOf (fdef i)).isCoroutine = false) (hgen : (scopeOf (fdef i)).isGenerator = false) (hk : (scopeOf (fdef i)).kind = .function)
    (h : ∀ C : Act, C.T = T → C.env.scope = scopeOf (fdef i) → (∀ x, (scopeOf (fdef i)).names.lookup x = some .cell → ∃ c, C.env.cells.lookup x = some c) → Ex C k (argSig ps args) (bodyOf (fdef i)) (fun _ => False) (fun _ => False) (fun d' => d' = d)) :
    Fn T (k + 1) (nameOf (fdef i)) args d := by
  obtain ⟨a, o, pm, cd, doc, h1, h2, h3, h4⟩ := F
  exact fn_of ps h1 h2 h3 h4 rfl rfl rfl rfl hlen (hbind pm cd doc) hnd hkind hco hgen hk h

theorem relabel_other {env : Env} {kd : NameKind} (hkd : kd ≠ .free) : ∀ {names : List (Str × NameKind)} {x : Str}, names.lookup x = some kd →
    (names.map fun (n, k) => if (k == NameKind.free && env.scope.kind == .function && env.kindOf n == some .cell) then (n, NameKind.cell) else (n, k)).lookup x = some kd
  | [], _, h => by simp at h
  | (n, kd') :: r, x, h => by
    rw [List.map_cons]
    by_cases hx : x = n
    · subst hx
      rw [lookup_cons_self] at h; cases h
      have : (kd == NameKind.free && env.scope.kind == .function && env.kindOf x == some .cell) = false := by
        have : (kd == NameKind.free) = false := beq_eq_false_iff_ne.mpr hkd
        rw [this]; rfl
      simp only [this]
      exact lookup_cons_self ..
    · rw [lookup_cons_ne _ _ hx] at h
      have ih := relabel_other (env := env) hkd h
      by_cases hq : (kd' == NameKind.free && env.scope.kind == .function && env.kindOf n == some .cell) = true
      · simp only [hq, if_true]; rw [lookup_cons_ne _ _ hx]; exact ih
      · simp only [hq]; rw [if_neg (by simp), lookup_cons_ne _ _ hx]; exact ih
theorem gl_comp {C : Act} {scope : Scope} {L : Addr} {x : Str} (h : scope.names.lookup x = some .globalImplicit) : (compAct C scope L).env.kindOf x = some .globalImplicit := relabel_other (by decide) h

local macro_rules | `(tactic| walk_at "lk") => `(tactic| first | (with_reducible exact lk_self) | (with_reducible assumption) | (with_reducible refine' lk_tail ?ne ?tl; (case ne => decide +kernel); (case tl => walk_at "lk")))
local macro_rules | `(tactic| walk_at "wr") => `(tactic| exact wr_of (by with_reducible assumption) (by decide +kernel))
local macro_rules | `(tactic| walk_at "gl") => `(tactic| first | exact gl_of (by with_reducible assumption) (by decide +kernel) | exact gl_comp (by decide +kernel))
local macro_rules | `(tactic| walk_at "nm") => `(tactic| (refine' ev_name ?h1 ?h2; (case h1 => walk_at "lk"); (case h2 => decide +kernel)))
local macro_rules | `(tactic| walk_at "body") => `(tactic| conv => enter [4]; whnf)
local macro_rules | `(tactic| walk_at "bin") => `(tactic| first | exact bin_add | exact bin_sub | exact bin_mod (by omega) | exact bin_and)
local macro_rules | `(tactic| walk_at "cmp") => `(tactic| first | exact cmp_eqs | exact cmp_eq | exact cmp_ne | exact cmp_lt | exact cmp_isnot)
local macro_rules | `(tactic| walk_at "evb") => `(tactic| first | (refine' evB_own ?h1 ?h2; (case h1 => walk_at "lk"); (case h2 => decide +kernel)) | (refine' Ev.b ?h1; (case h1 => walk_at "ev")))
local macro_rules | `(tactic| walk_at "ev") => `(tactic| first
  | exact ev_int | exact ev_str | exact ev_bool | walk_at "nm"
  | (refine' ev_bin ?h1 ?h2 ?h3; (case h1 => walk_at "ev"); (case h2 => walk_at "ev"); (case h3 => walk_at "bin"))
  | (refine' ev_tup ?h1 ?h2; (case h1 => walk_at "evl"); (case h2 => simp))
  | (refine' ev_idxT ?h1 ?h2 ?h3 ?h4 ?h5 rfl; (case h1 => walk_at "ev"); (case h2 => walk_at "ev"); (case h3 => decide); (case h4 => rfl); (case h5 => simp))
  | (refine' ev_len ?h3 ?h4 ?h5 ?h1 ?h2 rfl; (case h3 => walk_at "gl"); (case h4 => exact Lib.glen (by assumption)); (case h5 => exact Lib.blen (by assumption)); (case h1 => walk_at "evb"); (case h2 => walk_at "sz")))
local macro_rules | `(tactic| walk_at "sz0") => `(tactic| first | (simp; done) | omega | (simp; omega))
local macro_rules | `(tactic| walk_at "sz") => `(tactic| first | (simp; done) | omega | (simp; omega))
local macro_rules | `(tactic| walk_at "evl") => `(tactic| first | exact evL_nil | (refine' evL_cons ?h1 ?h2 (fun _ => rfl); (case h1 => walk_at "ev"); (case h2 => walk_at "evl")))
local macro_rules | `(tactic| walk_at "tr") => `(tactic| (refine' tr_cmp ?h1 ?h2 ?h3 (by omega) rfl; (case h1 => walk_at "ev"); (case h2 => walk_at "ev"); (case h3 => walk_at "cmp")))

noncomputable def applyOp (op : Str) (a b : Int) : Int :=
  if op == "+" then a + b else if op == "-" then a - b else if op == "*" then a * b
  else if op == "==" then (if a == b then 1 else 0) else if op == "!=" then (if a != b then 1 else 0) else if op == "<" then (if decide (a < b) then 1 else 0)
  else if op == "and" then (if a != 0 && b != 0 then 1 else 0) else if op == "or" then (if a != 0 || b != 0 then 1 else 0) else 0

theorem neg_of {b : Bool} (h : b = false) : ¬ b = true := by simp [h]

theorem fn_apply_op {T : Txt} (L : Lib T) (op : Str) (a b : Int) (hm : op = "*" → IntMulOk a b) : Fn T 2 "apply_op" [.str op, .int a, .int b] (.int (applyOp op a b)) := by
  refine fn_at (i := 1) (L.fns 1 (by decide)) ["op", "a", "b"] rfl (fun pm cd doc vs hv => ?_) (by decide +kernel) (by decide +kernel) rfl rfl rfl fun C hT hs hc => ?_
  · obtain ⟨_, _, _, rfl⟩ := len3 hv; rfl
  show Ex C 1 [("op", .val (.str op)), ("a", .val (.int a)), ("b", .val (.int b))] _ _ _ _
  walk_at "body"
  unfold applyOp
  refine ex_if (by walk_at "tr") (fun h => ex_ret (by walk_at "ev") (by rw [if_pos h])) (fun h => ex_nil ?_)
  rw [if_neg (neg_of h)]
  refine ex_if (by walk_at "tr") (fun h => ex_ret (by walk_at "ev") (by rw [if_pos h])) (fun h => ex_nil ?_)
  rw [if_neg (neg_of h)]
  refine ex_if (by walk_at "tr") (fun h => ex_ret (ev_bin (by walk_at "ev") (by walk_at "ev") (bin_mul (hm (by simpa using h)))) (by rw [if_pos h])) (fun h => ex_nil ?_)
  rw [if_neg (neg_of h)]
  refine ex_if (by walk_at "tr") (fun h => ex_ret (d := .int (if a == b then 1 else 0)) (ev_if (by walk_at "tr") (fun e => by rw [if_pos e]; exact ev_int) (fun e => by rw [if_neg (neg_of e)]; exact ev_int)) (by rw [if_pos h])) (fun h => ex_nil ?_)
  rw [if_neg (neg_of h)]
  refine ex_if (by walk_at "tr") (fun h => ex_ret (d := .int (if a != b then 1 else 0)) (ev_if (by walk_at "tr") (fun e => by rw [if_pos e]; exact ev_int) (fun e => by rw [if_neg (neg_of e)]; exact ev_int)) (by rw [if_pos h])) (fun h => ex_nil ?_)
  rw [if_neg (neg_of h)]
  refine ex_if (by walk_at "tr") (fun h => ex_ret (d := .int (if decide (a < b) then 1 else 0)) (ev_if (by walk_at "tr") (fun e => by rw [if_pos e]; exact ev_int) (fun e => by rw [if_neg (neg_of e)]; exact ev_int)) (by rw [if_pos h])) (fun h => ex_nil ?_)
  rw [if_neg (neg_of h)]
  refine ex_if (by walk_at "tr") (fun h => ex_ret (d := .int (if a != 0 && b != 0 then 1 else 0)) (ev_if (tr_and (by walk_at "tr") (fun _ => by walk_at "tr")) (fun e => by rw [if_pos e]; exact ev_int) (fun e => by rw [if_neg (neg_of e)]; exact ev_int)) (by rw [if_pos h])) (fun h => ex_nil ?_)
  rw [if_neg (neg_of h)]
  refine ex_if (by walk_at "tr") (fun h => ex_ret (d := .int (if a != 0 || b != 0 then 1 else 0)) (ev_if (tr_or (by walk_at "tr") (fun _ => by walk_at "tr")) (fun e => by rw [if_pos e]; exact ev_int) (fun e => by rw [if_neg (neg_of e)]; exact ev_int)) (by rw [if_pos h])) (fun h => ex_nil ?_)
  rw [if_neg (neg_of h)]
  exact ex_ret ev_int rfl

noncomputable def intL (ns : List Int) : List Dat := ns.map Dat.int
@[simp] theorem intL_length (ns : List Int) : (intL ns).length = ns.length := by simp [intL]
theorem intL_get {ns : List Int} {k : Nat} {v : Int} (h : ns[k]? = some v) : (intL ns)[k]? = some (.int v) := by simp [intL, h]

noncomputable abbrev itemD (i : Str × Int) : Dat := .tup [.str i.1, .int i.2]
noncomputable abbrev exprD (es : List (Str × Int)) : Dat := .lst (es.map itemD)

/-- one item of an expression upon the stack (its top first) -/
noncomputable def stepV (st : List Int) (i : Str × Int) (stk : List Int) : Option (List Int) :=
  if i.1 == "num" then some (i.2 :: stk)
  else if i.1 == "var" then (if 0 ≤ i.2 then (st[i.2.toNat]?).map (· :: stk) else none)
  else if i.1 == "not" then (match stk with | a :: r => some ((if a == 0 then 1 else 0) :: r) | [] => none)
  else match stk with
    | b :: a :: r => if i.1 == "*" && !(decide (a.natAbs < 2 ^ 60)) then none else some (applyOp i.1 a b :: r)
    | _ => none
noncomputable def runV (st : List Int) : List (Str × Int) → List Int → Option (List Int)
  | [], stk => some stk
  | i :: r, stk => (stepV st i stk).bind (runV st r)

theorem last_rev {α : Type} (a : α) (r : List α) : ((a :: r).reverse)[(a :: r).reverse.length - 1]? = some a := by simp
theorem stk_last {a : Int} {r : List Int} : (intL (a :: r).reverse)[((((intL (a :: r).reverse).length : Nat) : Int) - 1).toNat]? = some (.int a) := by
  refine intL_get ?_
  have : ((((intL (a :: r).reverse).length : Nat) : Int) - 1).toNat = (a :: r).reverse.length - 1 := by rw [intL_length]; omega
  rw [this]; exact last_rev a r
theorem stk_last2 {a b : Int} {r : List Int} : (intL (b :: a :: r).reverse)[((((intL (b :: a :: r).reverse).length : Nat) : Int) - 2).toNat]? = some (.int a) := by
  refine intL_get ?_
  have : ((((intL (b :: a :: r).reverse).length : Nat) : Int) - 2).toNat = r.length := by rw [intL_length]; simp
  rw [this]; simp
theorem stk_cut {a : Int} {r : List Int} : (intL (a :: r).reverse).take ((((intL (a :: r).reverse).length : Nat) : Int) - 1).toNat = intL r.reverse := by
  have : ((((intL (a :: r).reverse).length : Nat) : Int) - 1).toNat = (intL r.reverse).length := by simp
  rw [this]; simp [intL]
theorem stk_cut2 {a b : Int} {r : List Int} : (intL (b :: a :: r).reverse).take ((((intL (b :: a :: r).reverse).length : Nat) : Int) - 2).toNat = intL r.reverse := by
  have : ((((intL (b :: a :: r).reverse).length : Nat) : Int) - 2).toNat = (intL r.reverse).length := by simp
  rw [this]; simp [intL]
theorem stk_push {a : Int} {r : List Int} : intL r.reverse ++ [.int a] = intL (a :: r).reverse := by simp [intL]

noncomputable def stmtAt (ss : List Stmt) (j : Nat) : Stmt := ss[j]?.getD (.Pass ⟨0, 0, 0, 0⟩)
noncomputable def forBody : Stmt → List Stmt
  | .For _ _ b _ _ => b
  | _ => []

noncomputable def whileBody : Stmt → List Stmt
  | .While _ b _ _ => b
  | _ => []
noncomputable def asgVal : Stmt → Expr
  | .Assign _ e _ => e
  | _ => .Constant .none 0 ⟨0, 0, 0, 0⟩
noncomputable abbrev Has (σ : Sig) (x : Str) (sl : Slot) : Prop := List.lookup x σ = some sl

theorem value_loop {C : Act} (hs : C.env.scope = scopeOf (fdef 2)) (L : Lib C.T) (st : List Int) (hzs : st.length ≤ 1000000) {R : Dat → Prop} {N : Sig → Prop} (fin : List Int)
    (hN : ∀ σ, Has σ "stack" (.lst (intL fin.reverse)) → N σ) :
    ∀ (es : List (Str × Int)) (stk : List Int) (σ : Sig), Has σ "stack" (.lst (intL stk.reverse)) → Has σ "state" (.val (.lst (intL st))) → stk.length + es.length ≤ 2000000 → runV st es stk = some fin →
      Iter C 5 "item" (forBody (stmtAt (bodyOf (fdef 2)) 1)) R N (es.map itemD) σ := by
  intro es
  induction es with
  | nil =>
    intro stk σ h1 h2 hz hrun
    cases hrun
    exact hN σ h1
  | cons i r ih =>
    intro stk σ h1 h2 hz hrun
    simp only [List.length_cons] at hz
    obtain ⟨op, arg⟩ := i
    show Ex C 5 (("item", .val (itemD (op, arg))) :: σ) (forBody (stmtAt (bodyOf (fdef 2)) 1)) (Iter C 5 "item" (forBody (stmtAt (bodyOf (fdef 2)) 1)) R N (r.map itemD)) (Iter C 5 "item" (forBody (stmtAt (bodyOf (fdef 2)) 1)) R N (r.map itemD)) R
    walk_at "body"
    unfold runV stepV at hrun
    refine ex_assign (by walk_at "wr") (by walk_at "ev") rfl ?_
    refine ex_assign (by walk_at "wr") (by walk_at "ev") rfl ?_
    refine ex_if (by walk_at "tr") (fun h => ?_) (fun h => ?_)
    · rw [if_pos h] at hrun
      refine ex_append (by walk_at "lk") (by decide +kernel) (by walk_at "ev") (by walk_at "sz0") rfl rfl (ex_nil (ex_nil ?_))
      exact ih (arg :: stk) _ (by rw [stk_push]; walk_at "lk") (by walk_at "lk") (by simp; omega) hrun
    · rw [if_neg (neg_of h)] at hrun
      refine ex_if (by walk_at "tr") (fun h => ?_) (fun h => ?_)
      · rw [if_pos h] at hrun
        by_cases h0 : 0 ≤ arg
        · rw [if_pos h0] at hrun
          cases hg : st[arg.toNat]? with
          | none => rw [hg] at hrun; cases hrun
          | some v =>
            rw [hg] at hrun
            refine ex_append (by walk_at "lk") (by decide +kernel) (ev_idx (by walk_at "evb") (by walk_at "ev") h0 (intL_get hg) (by simp; omega) rfl) (by simp; omega) rfl rfl (ex_nil (ex_nil (ex_nil ?_)))
            exact ih (v :: stk) _ (by rw [stk_push]; walk_at "lk") (by walk_at "lk") (by simp; omega) hrun
        · rw [if_neg h0] at hrun; cases hrun
      · rw [if_neg (neg_of h)] at hrun
        refine ex_if (by walk_at "tr") (fun h => ?_) (fun h => ?_)
        · rw [if_pos h] at hrun
          cases stk with
          | nil => cases hrun
          | cons a rs =>
            simp only [List.length_cons] at hz
            refine ex_assign (by walk_at "wr") (ev_idx (by walk_at "evb") (by walk_at "ev") (by simp) stk_last (by simp; omega) rfl) rfl ?_
            refine ex_assignF (by walk_at "wr") (evF_cat (EvF.ev (evF_upto (by walk_at "evb") (by walk_at "ev") (by walk_at "sz0") (by simp; omega))).b (EvF.ev (evF_list (evL_cons (d := .int (if a == 0 then 1 else 0)) (ev_if (by walk_at "tr") (fun e => by rw [if_pos e]; exact ev_int) (fun e => by rw [if_neg (neg_of e)]; exact ev_int)) evL_nil (fun _ => rfl)) (by simp))).b (by rw [stk_cut]; simp; omega)) rfl (ex_nil (ex_nil (ex_nil (ex_nil ?_))))
            exact ih ((if a == 0 then 1 else 0) :: rs) _ (by rw [stk_cut, stk_push]; walk_at "lk") (by walk_at "lk") (by simp; omega) hrun
        · rw [if_neg (neg_of h)] at hrun
          match stk, hrun with
          | [], hrun => cases hrun
          | [_], hrun => cases hrun
          | b :: a :: rs, hrun =>
            simp only [List.length_cons] at hz
            dsimp only at hrun
            split at hrun
            · cases hrun
            · rename_i hmul
              refine ex_assign (by walk_at "wr") (ev_idx (by walk_at "evb") (by walk_at "ev") (by walk_at "sz0") stk_last2 (by simp; omega) rfl) rfl ?_
              refine ex_assign (by walk_at "wr") (ev_idx (by walk_at "evb") (by walk_at "ev") (by walk_at "sz0") stk_last (by simp; omega) rfl) rfl ?_
              refine ex_assignF (by walk_at "wr") (evF_cat (EvF.ev (evF_upto (by walk_at "evb") (by walk_at "ev") (by walk_at "sz0") (by simp; omega))).b (EvF.ev (evF_list (evL_cons (ev_call (by walk_at "gl") (by decide +kernel) (by walk_at "evl") (fn_apply_op L op a b (fun e => ?_)) (by omega) rfl) evL_nil (fun _ => rfl)) (by simp))).b (by rw [stk_cut2]; simp; omega)) rfl (ex_nil (ex_nil (ex_nil (ex_nil ?_))))
              · refine IntMulOk.of_left (intBits_le_64 ?_ ?_)
                all_goals
                  subst e
                  simp at hmul
                  omega
              · exact ih (applyOp op a b :: rs) _ (by rw [stk_cut2, stk_push]; walk_at "lk") (by walk_at "lk") (by simp; omega) hrun

theorem runV_length (st : List Int) : ∀ (es : List (Str × Int)) (stk fin : List Int), runV st es stk = some fin → fin.length ≤ stk.length + es.length
  | [], stk, fin, h => by cases h; simp
  | i :: r, stk, fin, h => by
    unfold runV at h
    cases hs : stepV st i stk with
    | none => rw [hs] at h; cases h
    | some s1 =>
      rw [hs] at h
      have h1 := runV_length st r s1 fin h
      have h2 : s1.length ≤ stk.length + 1 := by
        unfold stepV at hs
        split at hs
        · cases hs; simp
        · split at hs
          · split at hs
            · cases hg : st[i.2.toNat]? with
              | none => rw [hg] at hs; cases hs
              | some v => rw [hg] at hs; cases hs; simp
            · cases hs
          · split at hs
            · split at hs
              · cases hs; simp
              · cases hs
            · split at hs
              · split at hs
                · cases hs
                · cases hs; simp
              · cases hs
      rw [List.length_cons]; omega

noncomputable def valE (e : List (Str × Int)) (st : List Int) : Option Int := (runV st e []).bind fun stk => stk.reverse[0]?

theorem fn_value_of {T : Txt} (L : Lib T) (es : List (Str × Int)) (st : List Int) (v : Int) (hz : es.length ≤ 1000000) (hzs : st.length ≤ 1000000) (hval : valE es st = some v) :
    Fn T 6 "value_of" [exprD es, .lst (intL st)] (.int v) := by
  obtain ⟨stk, hrun, hv⟩ : ∃ stk, runV st es [] = some stk ∧ stk.reverse[0]? = some v := by
    unfold valE at hval
    cases h : runV st es [] with
    | none => rw [h] at hval; cases hval
    | some stk => rw [h] at hval; exact ⟨stk, rfl, hval⟩
  refine fn_at (i := 2) (L.fns 2 (by decide)) ["expr", "state"] rfl (fun pm cd doc vs hv => ?_) (by decide +kernel) (by decide +kernel) rfl rfl rfl fun C hT hs hc => ?_
  · obtain ⟨_, _, rfl⟩ := len2 hv; rfl
  subst hT
  show Ex C 5 [("expr", .val (exprD es)), ("state", .val (.lst (intL st)))] _ _ _ _
  walk_at "body"
  refine ex_assignF (by walk_at "wr") (evF_list evL_nil (by simp)) rfl ?_
  refine ex_for (by walk_at "wr") (by walk_at "ev") rfl ?_
  refine value_loop hs L st hzs stk (fun σ h1 => ?_) es [] _ lk_self (by walk_at "lk") (by simp; omega) hrun
  have hlen := runV_length st es [] stk hrun
  exact ex_ret (ev_idx (by walk_at "evb") ev_int (by decide) (intL_get hv) (by simp at hlen ⊢; omega) rfl) rfl

inductive AllIn (σ : Sig) : Sig → Prop
  | nil : AllIn σ []
  | cons {x : Str} {d : Dat} {r : Sig} : List.lookup x σ = some (.val d) → AllIn σ r → AllIn σ ((x, .val d) :: r)
theorem AllIn.get {σ σc : Sig} (h : AllIn σ σc) : ∀ {y : Str} {sl : Slot}, σc.lookup y = some sl → (∃ d, sl = .val d) ∧ σ.lookup y = some sl ∧ y ∈ σc.map (·.1) := by
  induction h with
  | nil => intro y sl h; cases h
  | cons h1 _ ih =>
    rename_i x d r _
    intro y sl h
    by_cases hy : y = x
    · subst hy; rw [lookup_cons_self] at h; cases h; exact ⟨⟨_, rfl⟩, h1, by simp⟩
    · rw [lookup_cons_ne _ _ hy] at h
      obtain ⟨a, b, c⟩ := ih h
      exact ⟨a, b, by simp [c]⟩

noncomputable def compChk (osc scope : Scope) (x : Str) (fs : List Str) : Bool :=
  scope.kind == .function && scope.names.all (fun y => y.2 != .cell) && scope.names.all (fun y => y.2 != .local || scope.names.lookup y.1 == some .local) && scope.names.lookup x == some .local && !fs.contains x &&
  scope.names.all (fun y => y.2 != .free || osc.names.lookup y.1 == some .cell) && fs.all (fun y => scope.names.contains (y, .free) && scope.names.lookup y == some .free)

theorem compOk_of {C : Act} {σ σc : Sig} {scope osc : Scope} {x : Str} (hs : C.env.scope = osc) (hcl : ∀ x, osc.names.lookup x = some .cell → ∃ c, C.env.cells.lookup x = some c) (hσ : AllIn σ σc) {fs : List Str} (hfs : σc.map (·.1) = fs) (chk : compChk osc scope x fs = true) : CompOk C σ σc scope x := by
  subst hfs
  unfold compChk at chk
  simp only [Bool.and_eq_true, beq_iff_eq, List.all_eq_true, Bool.not_eq_true', Bool.or_eq_true, bne_iff_ne, ne_eq] at chk
  obtain ⟨⟨⟨⟨⟨⟨h1, h2⟩, h3⟩, h4⟩, h5⟩, h6⟩, h7⟩ := chk
  refine ⟨h1, h2, fun y hy hl => ?_, h4, ?_, fun y hy hf => ?_, fun y sl hl => ?_⟩
  · rcases h3 y hy with h | h
    · exact absurd hl h
    · exact h
  · cases e : σc.lookup x with
    | none => rfl
    | some sl =>
      have := (hσ.get e).2.2
      rw [List.contains_eq_mem] at h5
      simp [this] at h5
  · rcases h6 y hy with h | h
    · exact absurd hf h
    · exact ⟨by unfold Env.kindOf; rw [hs]; exact h, hcl _ h⟩
  · obtain ⟨a, b, c⟩ := hσ.get hl
    obtain ⟨d, e⟩ := h7 y c
    exact ⟨a, b, by simpa using d, e⟩


noncomputable abbrev Xp := List (Str × Int)
noncomputable abbrev setD (a : Int × Xp) : Dat := .tup [.int a.1, exprD a.2]
noncomputable abbrev ruleD (r : Xp × List (Int × Xp)) : Dat := .tup [exprD r.1, .lst (r.2.map setD)]
noncomputable abbrev modelD (base : Int) (start : List Int) (rules : List (Xp × List (Int × Xp))) : Dat := .tup [.int base, .lst (intL start), .lst (rules.map ruleD)]

/-- the enabled rules, by the values of their guards -/
noncomputable def enD (n : Nat) (g : Nat → Int) : List Dat := ((List.range n).filter fun j => g j != 0).map fun j : Nat => Dat.int (j : Int)

noncomputable def pick0 (g : Nat → Int) : Dat → Bool
  | .int j => g j.toNat != 0
  | _ => false
theorem range_filter (n : Nat) (g : Nat → Int) : ((rangeD n).filter (pick0 g)).map (fun d => d) = enD n g := by
  unfold rangeD enD
  rw [List.filter_map, List.map_id']
  congr 1

theorem fn_enabled {T : Txt} (L : Lib T) (base : Int) (start st : List Int) (rules : List (Xp × List (Int × Xp))) (g : Nat → Int) (hz : rules.length ≤ 1000) (hzs : st.length ≤ 1000) (hg : ∀ j r, rules[j]? = some r → r.1.length ≤ 1000 ∧ valE r.1 st = some (g j)) :
    Fn T 9 "enabled" [modelD base start rules, .lst (intL st)] (.lst (enD rules.length g)) := by
  refine fn_at (i := 3) (L.fns 3 (by decide)) ["model", "state"] rfl (fun pm cd doc vs hv => ?_) (by decide +kernel) (by decide +kernel) rfl rfl rfl fun C hT hs hc => ?_
  · obtain ⟨_, _, rfl⟩ := len2 hv; rfl
  subst hT
  show Ex C 8 [("model", .val (modelD base start rules)), ("state", .val (.lst (intL st)))] _ _ _ _
  walk_at "body"
  have wr : Wr C "rules" := .inr ⟨by unfold Env.kindOf; rw [hs]; decide +kernel, hc _ (by decide +kernel)⟩
  refine ex_assign wr (by walk_at "ev") rfl ?_
  rw [← range_filter]
  refine ex_ret (EvF.ev (evF_comp (σc := [("rules", .val (.lst (rules.map ruleD))), ("state", .val (.lst (intL st)))]) (pick0 g) (fun d => d) (compOk_of hs hc (.cons (by walk_at "lk") (.cons (by walk_at "lk") .nil)) (fs := ["rules", "state"]) rfl (by decide +kernel))
    (src_range ⟨by walk_at "gl", L.grange, L.brange⟩ (m := rules.length) ?_ rfl (by omega)) rfl (by rw [rangeD_length]; omega) fun Lc d hd => ?_)) rfl
  · rw [show (rules.length : Int) = ((rules.map ruleD).length : Int) by simp]
    walk_at "ev"
  · obtain ⟨j, hj, rfl⟩ := List.mem_map.mp hd
    have hj' : j < rules.length := List.mem_range.mp hj
    obtain ⟨h1, h2⟩ := hg j _ (List.getElem?_eq_getElem hj')
    refine ⟨tst_one (tr_cmp (ev_call (by walk_at "gl") (by decide +kernel) (evL_cons (ev_idxT (ev_idx (by walk_at "evb") (by walk_at "ev") (by omega) (d := ruleD rules[j]) (by simp [hj']) (by simp; omega) rfl) ev_int (by decide) rfl (by simp) rfl) (by walk_at "evl") (fun _ => rfl)) (fn_value_of L _ st (g j) (by omega) (by omega) h2) (by omega) rfl) ev_int cmp_ne (by omega) rfl), fun _ => by walk_at "ev"⟩

/-- the assignments of a rule, one behind the other -/
noncomputable def fireL (base : Int) (st : List Int) : List (Int × Xp) → List Int → Option (List Int)
  | [], new => some new
  | (i, e) :: r, new => match valE e st with
    | some v => if 0 ≤ i ∧ i < new.length ∧ e.length ≤ 1000 then fireL base st r (new.set i.toNat (v % base)) else none
    | none => none

theorem intL_set (ns : List Int) (j : Nat) (v : Int) : (intL ns).set j (.int v) = intL (ns.set j v) := by simp [intL, List.map_set]

theorem fired_loop {C : Act} (hs : C.env.scope = scopeOf (fdef 4)) (L : Lib C.T) (base : Int) (hb : 0 < base) (st : List Int) (hzs : st.length ≤ 1000) {R : Dat → Prop} {N : Sig → Prop} (fin : List Int)
    (hN : ∀ σ, Has σ "new" (.lst (intL fin)) → N σ) :
    ∀ (sets : List (Int × Xp)) (new : List Int) (σ : Sig), Has σ "new" (.lst (intL new)) → Has σ "state" (.val (.lst (intL st))) → Has σ "base" (.val (.int base)) → new.length ≤ 1000 → fireL base st sets new = some fin →
      Iter C 7 "assignment" (forBody (stmtAt (bodyOf (fdef 4)) 2)) R N (sets.map setD) σ := by
  intro sets
  induction sets with
  | nil =>
    intro new σ h1 h2 h3 hz hrun
    cases hrun
    exact hN σ h1
  | cons a r ih =>
    intro new σ h1 h2 h3 hz hrun
    obtain ⟨i, e⟩ := a
    show Ex C 7 (("assignment", .val (setD (i, e))) :: σ) (forBody (stmtAt (bodyOf (fdef 4)) 2)) (Iter C 7 "assignment" (forBody (stmtAt (bodyOf (fdef 4)) 2)) R N (r.map setD)) (Iter C 7 "assignment" (forBody (stmtAt (bodyOf (fdef 4)) 2)) R N (r.map setD)) R
    walk_at "body"
    unfold fireL at hrun
    cases hv : valE e st with
    | none => rw [hv] at hrun; cases hrun
    | some v =>
      rw [hv] at hrun
      dsimp only at hrun
      split at hrun
      · rename_i hi
        refine ex_setIdx (by walk_at "lk") (by decide +kernel) (ev_bin (ev_call (by walk_at "gl") (by decide +kernel) (by walk_at "evl") (fn_value_of L e st v (by omega) (by omega) hv) (by omega) rfl) (by walk_at "ev") (bin_mod hb)) (by walk_at "ev") rfl hi.1 (by simp; exact hi.2.1) (by simp; omega) (ex_nil ?_)
        exact ih _ _ (by rw [intL_set]; walk_at "lk") (by walk_at "lk") (by walk_at "lk") (by simp; omega) hrun
      · cases hrun

theorem fn_fired {T : Txt} (L : Lib T) (base : Int) (hb : 0 < base) (start st : List Int) (rules : List (Xp × List (Int × Xp))) (k : Nat) (r : Xp × List (Int × Xp)) (out : List Int) (hz : rules.length ≤ 1000) (hzs : st.length ≤ 1000) (hk : rules[k]? = some r) (hf : fireL base st r.2 st = some out) :
    Fn T 8 "fired" [modelD base start rules, .lst (intL st), .int k] (.lst (intL out)) := by
  refine fn_at (i := 4) (L.fns 4 (by decide)) ["model", "state", "k"] rfl (fun pm cd doc vs hv => ?_) (by decide +kernel) (by decide +kernel) rfl rfl rfl fun C hT hs hc => ?_
  · obtain ⟨_, _, _, rfl⟩ := len3 hv; rfl
  subst hT
  show Ex C 7 [("model", .val (modelD base start rules)), ("state", .val (.lst (intL st))), ("k", .val (.int k))] _ _ _ _
  walk_at "body"
  refine ex_assign (by walk_at "wr") (by walk_at "ev") rfl ?_
  refine ex_assignF (by walk_at "wr") (evF_listOf (by walk_at "gl") L.glist L.blist (by walk_at "evb") (by simp; omega) rfl) rfl ?_
  refine ex_for (by walk_at "wr") (ev_idxT (ds := [exprD r.1, .lst (r.2.map setD)]) (ev_idx (Ev.b (by walk_at "ev")) (by walk_at "ev") (by omega) (d := ruleD r) (by simp [hk]) (by simp; omega) rfl) ev_int (by decide) rfl (by simp) rfl) rfl ?_
  refine fired_loop hs L base hb st hzs out (fun σ h1 => ?_) r.2 st _ (by walk_at "lk") (by walk_at "lk") (by walk_at "lk") hzs hf
  exact Ex.freeze (by walk_at "lk") (ex_ret (by walk_at "ev") rfl)

/-- the code of a state -/
noncomputable def codeL (base : Int) (st : List Int) : Int := st.foldl (fun c v => c * base + v) 0

theorem code_loop {C : Act} (hs : C.env.scope = scopeOf (fdef 5)) (base : Int) (hb : 0 ≤ base) (hb2 : base < 1000) {R : Dat → Prop} {N : Sig → Prop} (fin : Int) (hN : ∀ σ, Has σ "code" (.val (.int fin)) → N σ) :
    ∀ (st : List Int) (c : Int) (σ : Sig), Has σ "code" (.val (.int c)) → Has σ "base" (.val (.int base)) → st.foldl (fun c v => c * base + v) c = fin →
      Iter C 1 "v" (forBody (stmtAt (bodyOf (fdef 5)) 2)) R N (intL st) σ := by
  intro st
  induction st with
  | nil => intro c σ h1 h2 e; cases e; exact hN σ h1
  | cons v r ih =>
    intro c σ h1 h2 e
    show Ex C 1 (("v", .val (.int v)) :: σ) (forBody (stmtAt (bodyOf (fdef 5)) 2)) (Iter C 1 "v" (forBody (stmtAt (bodyOf (fdef 5)) 2)) R N (intL r)) (Iter C 1 "v" (forBody (stmtAt (bodyOf (fdef 5)) 2)) R N (intL r)) R
    walk_at "body"
    refine ex_assign (by walk_at "wr") (ev_bin (ev_bin (by walk_at "ev") (by walk_at "ev") (bin_mul (IntMulOk.of_right (intBits_le_64 (by omega) (by omega))))) (by walk_at "ev") bin_add) rfl (ex_nil ?_)
    exact ih _ _ (by walk_at "lk") (by walk_at "lk") e

theorem fn_code_of {T : Txt} (L : Lib T) (base : Int) (hb : 0 ≤ base) (hb2 : base < 1000) (start st : List Int) (rules : List (Xp × List (Int × Xp))) : Fn T 2 "code_of" [modelD base start rules, .lst (intL st)] (.int (codeL base st)) := by
  refine fn_at (i := 5) (L.fns 5 (by decide)) ["model", "state"] rfl (fun pm cd doc vs hv => ?_) (by decide +kernel) (by decide +kernel) rfl rfl rfl fun C hT hs hc => ?_
  · obtain ⟨_, _, rfl⟩ := len2 hv; rfl
  subst hT
  show Ex C 1 [("model", .val (modelD base start rules)), ("state", .val (.lst (intL st)))] _ _ _ _
  walk_at "body"
  refine ex_assign (by walk_at "wr") (by walk_at "ev") rfl ?_
  refine ex_assign (by walk_at "wr") ev_int rfl ?_
  refine ex_for (by walk_at "wr") (by walk_at "ev") rfl ?_
  refine code_loop hs base hb hb2 (codeL base st) (fun σ h1 => ?_) st 0 _ (by walk_at "lk") (by walk_at "lk") rfl
  exact ex_ret (by walk_at "ev") rfl

/-- the state of a code -/
noncomputable def stOf (base : Int) : Nat → Int → List Int → List Int
  | 0, _, acc => acc
  | n + 1, rest, acc => stOf base n (rest / base) (rest % base :: acc)

theorem state_loop {C : Act} (hs : C.env.scope = scopeOf (fdef 6)) (base : Int) (hb : 0 < base) (hb2 : base < 1000) {R : Dat → Prop} {N : Sig → Prop} (fin : List Int) (hN : ∀ σ, Has σ "state" (.val (.lst (intL fin))) → N σ) :
    ∀ (js : List Dat) (rest : Int) (acc : List Int) (σ : Sig), Has σ "state" (.val (.lst (intL acc))) → Has σ "rest" (.val (.int rest)) → Has σ "base" (.val (.int base)) → acc.length + js.length ≤ 1000 → stOf base js.length rest acc = fin →
      Iter C 1 "i" (forBody (stmtAt (bodyOf (fdef 6)) 3)) R N js σ := by
  intro js
  induction js with
  | nil => intro rest acc σ h1 h2 h3 hz e; cases e; exact hN σ h1
  | cons j r ih =>
    intro rest acc σ h1 h2 h3 hz e
    simp only [List.length_cons] at hz
    show Ex C 1 (("i", .val j) :: σ) (forBody (stmtAt (bodyOf (fdef 6)) 3)) (Iter C 1 "i" (forBody (stmtAt (bodyOf (fdef 6)) 3)) R N r) (Iter C 1 "i" (forBody (stmtAt (bodyOf (fdef 6)) 3)) R N r) R
    walk_at "body"
    refine ex_assign (by walk_at "wr") (ev_bin (EvF.ev (evF_list (evL_cons (ev_bin (by walk_at "ev") (by walk_at "ev") (bin_mod hb)) evL_nil (fun _ => rfl)) (by simp))) (by walk_at "ev") (bin_cat (by simp; omega))) rfl ?_
    refine ex_assign (by walk_at "wr") (ev_bin (by walk_at "ev") (by walk_at "ev") (bin_fdiv hb (PyProof.noPylong_small (by omega)))) rfl (ex_nil ?_)
    exact ih _ (rest % base :: acc) _ (lk_tail (by decide +kernel) lk_self) (by walk_at "lk") (by walk_at "lk") (by simp; omega) e

theorem fn_state_of {T : Txt} (L : Lib T) (base : Int) (hb : 0 < base) (hb2 : base < 1000) (start : List Int) (rules : List (Xp × List (Int × Xp))) (c : Int) (hz : start.length ≤ 1000) : Fn T 2 "state_of" [modelD base start rules, .int c] (.lst (intL (stOf base start.length c []))) := by
  refine fn_at (i := 6) (L.fns 6 (by decide)) ["model", "code"] rfl (fun pm cd doc vs hv => ?_) (by decide +kernel) (by decide +kernel) rfl rfl rfl fun C hT hs hc => ?_
  · obtain ⟨_, _, rfl⟩ := len2 hv; rfl
  subst hT
  show Ex C 1 [("model", .val (modelD base start rules)), ("code", .val (.int c))] _ _ _ _
  walk_at "body"
  refine ex_assign (by walk_at "wr") (by walk_at "ev") rfl ?_
  refine ex_assign (by walk_at "wr") (EvF.ev (evF_list evL_nil (by simp))) rfl ?_
  refine ex_assign (by walk_at "wr") (by walk_at "ev") rfl ?_
  refine ex_forR ⟨by walk_at "gl", L.grange, L.brange⟩ (by walk_at "wr") (m := start.length) (by rw [show (start.length : Int) = ((intL start).length : Int) by simp]; walk_at "ev") rfl (by omega) ?_
  refine state_loop hs base hb hb2 (stOf base start.length c []) (fun σ h1 => ?_) (rangeD start.length) c [] _ (lk_tail (by decide +kernel) lk_self) (by walk_at "lk") (by walk_at "lk") (by simp [rangeD_length]; omega) (by rw [rangeD_length])
  exact ex_ret (by walk_at "ev") rfl

theorem intBits_small {a : Int} (h : a.natAbs < 1024) : Builtin.Int.intBits a ≤ 10 := by
  unfold Builtin.Int.intBits
  split
  · exact Nat.zero_le _
  · have : a.natAbs.log2 < 10 := by
      rcases Nat.eq_zero_or_pos a.natAbs with h0 | hp
      · rw [h0]; decide
      · exact (Nat.log2_lt (Nat.ne_of_gt hp)).mpr h
    omega

theorem fn_box_size {T : Txt} (L : Lib T) (base : Int) (hb : 0 < base) (hb2 : base < 1000) (start : List Int) (rules : List (Xp × List (Int × Xp))) (hz : start.length ≤ 1000) : Fn T 2 "box_size" [modelD base start rules] (.int (base ^ start.length)) := by
  refine fn_at (i := 7) (L.fns 7 (by decide)) ["model"] rfl (fun pm cd doc vs hv => ?_) (by decide +kernel) (by decide +kernel) rfl rfl rfl fun C hT hs hc => ?_
  · obtain ⟨_, rfl⟩ := len1 hv; rfl
  subst hT
  show Ex C 1 [("model", .val (modelD base start rules))] _ _ _ _
  walk_at "body"
  have hbits := intBits_small (a := base) (by omega)
  refine ex_ret (ev_bin (by walk_at "ev") (by walk_at "ev") (bin_pow (by omega) ?_)) (by simp)
  simp only [intL_length]
  have h1 : ((Builtin.Int.intBits base : Nat) : Int) ≤ 10 := by omega
  have h2 : ((Builtin.Int.intBits base : Nat) : Int) * (start.length : Int) ≤ 10 * 1000 := Int.mul_le_mul h1 (by omega) (by omega) (by omega)
  omega

/-- a model, and what its defs make of it -/
structure MS where
  base : Int
  start : List Int
  rules : List (Xp × List (Int × Xp))
  size : Nat
  S : Nat → List Int
  g : Nat → Nat → Int
  T : Nat → Nat → Nat
  s0 : Nat

structure MOk (m : MS) : Prop where
  b0 : 0 < m.base
  b1 : m.base < 1000
  z0 : m.start.length ≤ 10
  zr : m.rules.length ≤ 10
  sz : m.base ^ m.start.length = (m.size : Int)
  sz1 : m.size ≤ 1000
  hS : ∀ c, c < m.size → stOf m.base m.start.length c [] = m.S c ∧ (m.S c).length ≤ 10 ∧ codeL m.base (m.S c) = c
  hg : ∀ c, c < m.size → ∀ j r, m.rules[j]? = some r → r.1.length ≤ 1000 ∧ valE r.1 (m.S c) = some (m.g c j)
  hT : ∀ c, c < m.size → ∀ j r, m.rules[j]? = some r → fireL m.base (m.S c) r.2 (m.S c) = some (m.S (m.T c j)) ∧ m.T c j < m.size
  st : m.start = m.S m.s0
  s1 : m.s0 < m.size

noncomputable abbrev MS.D (m : MS) : Dat := modelD m.base m.start m.rules
noncomputable def MS.en (m : MS) (c : Nat) : List Nat := (List.range m.rules.length).filter fun j => m.g c j != 0
noncomputable def natD (js : List Nat) : List Dat := js.map fun j : Nat => Dat.int (j : Int)

theorem fn_enabledM {T : Txt} (L : Lib T) {m : MS} (M : MOk m) (c : Nat) (hc : c < m.size) : Fn T 9 "enabled" [m.D, .lst (intL (m.S c))] (.lst (natD (m.en c))) :=
  fn_enabled L m.base m.start (m.S c) m.rules (m.g c) (by have := M.zr; omega) (by have := (M.hS c hc).2.1; omega) (M.hg c hc)
theorem fn_state_ofM {T : Txt} (L : Lib T) {m : MS} (M : MOk m) (c : Nat) (hc : c < m.size) : Fn T 2 "state_of" [m.D, .int c] (.lst (intL (m.S c))) := by
  have := fn_state_of L m.base M.b0 M.b1 m.start m.rules c (by have := M.z0; omega)
  rw [(M.hS c hc).1] at this; exact this
theorem fn_firedM {T : Txt} (L : Lib T) {m : MS} (M : MOk m) (c j : Nat) (hc : c < m.size) (hj : j < m.rules.length) : Fn T 8 "fired" [m.D, .lst (intL (m.S c)), .int j] (.lst (intL (m.S (m.T c j)))) :=
  fn_fired L m.base M.b0 m.start (m.S c) m.rules j _ _ (by have := M.zr; omega) (by have := (M.hS c hc).2.1; omega) (List.getElem?_eq_getElem hj) (M.hT c hc j _ (List.getElem?_eq_getElem hj)).1
theorem fn_box_sizeM {T : Txt} (L : Lib T) {m : MS} (M : MOk m) : Fn T 2 "box_size" [m.D] (.int m.size) := by
  have := fn_box_size L m.base M.b0 M.b1 m.start m.rules (by have := M.z0; omega)
  rw [M.sz] at this; exact this
theorem MS.en_lt {m : MS} {c j : Nat} (h : j ∈ m.en c) : j < m.rules.length := by
  unfold MS.en at h
  exact List.mem_range.mp (List.mem_filter.mp h).1

/-- is the property kept at c -/
noncomputable def okAt (m : MS) (P : Nat → Int) (c : Nat) : Bool := P c == 0 || (m.en c).all fun j => P (m.T c j) != 0
noncomputable def indR (m : MS) (P : Nat → Int) : Bool := P m.s0 != 0 && (List.range m.size).all (okAt m P)

theorem ind_inner {C : Act} (hs : C.env.scope = scopeOf (fdef 8)) (L : Lib C.T) {m : MS} (M : MOk m) (prop : Xp) (hz : prop.length ≤ 1000) (P : Nat → Int) (hP : ∀ c, c < m.size → valE prop (m.S c) = some (P c)) (c : Nat) (hc : c < m.size) {res : Bool} {N : Sig → Prop} (rest : Bool)
    (hN : rest = res → ∀ σ, Has σ "model" (.val m.D) → Has σ "prop" (.val (exprD prop)) → N σ) :
    ∀ (js : List Nat) (σ : Sig), (∀ j ∈ js, j < m.rules.length) → Has σ "model" (.val m.D) → Has σ "prop" (.val (exprD prop)) → Has σ "here" (.val (.lst (intL (m.S c)))) → ((js.all fun j => P (m.T c j) != 0) && rest) = res →
      Iter C 11 "k" (forBody (stmtAt (forBody (stmtAt (bodyOf (fdef 8)) 1)) 2)) (fun d => d = .bool res) N (natD js) σ := by
  intro js
  induction js with
  | nil => intro σ hj h1 h2 h3 hr; exact hN (by simpa using hr) σ h1 h2
  | cons j r ih =>
    intro σ hj h1 h2 h3 hr
    have hjl := hj j (by simp)
    show Ex C 11 (("k", .val (.int j)) :: σ) (forBody (stmtAt (forBody (stmtAt (bodyOf (fdef 8)) 1)) 2)) (Iter C 11 "k" (forBody (stmtAt (forBody (stmtAt (bodyOf (fdef 8)) 1)) 2)) (fun d => d = .bool res) N (natD r)) (Iter C 11 "k" (forBody (stmtAt (forBody (stmtAt (bodyOf (fdef 8)) 1)) 2)) (fun d => d = .bool res) N (natD r)) (fun d => d = .bool res)
    walk_at "body"
    have hT := M.hT c hc j _ (List.getElem?_eq_getElem hjl)
    have hlen := (M.hS _ hT.2).2.1
    refine ex_if (tr_cmp (ev_call (by walk_at "gl") (by decide +kernel) (evL_cons (by walk_at "ev") (evL_cons (ev_call (by walk_at "gl") (by decide +kernel) (by walk_at "evl") (fn_firedM L M c j hc hjl) (by omega) rfl) evL_nil (fun _ => rfl)) (fun _ => rfl)) (fn_value_of L prop _ _ (by omega) (by omega) (hP _ hT.2)) (by omega) rfl) ev_int cmp_eq (by omega) rfl) (fun h => ?_) (fun h => ?_)
    · refine ex_ret ev_bool ?_
      have h0 : P (m.T c j) = 0 := by simpa using h
      simp [h0] at hr
      rw [← hr]
    · refine ex_nil (ex_nil ?_)
      have h0 : ¬ P (m.T c j) = 0 := by simpa using h
      refine ih _ (fun j hj' => hj j (by simp [hj'])) (by walk_at "lk") (by walk_at "lk") (by walk_at "lk") ?_
      have hb : (P (m.T c j) != 0) = true := by simpa using h0
      rw [List.all_cons, hb, Bool.true_and] at hr
      exact hr

theorem ind_loop {C : Act} (hs : C.env.scope = scopeOf (fdef 8)) (L : Lib C.T) {m : MS} (M : MOk m) (prop : Xp) (hz : prop.length ≤ 1000) (P : Nat → Int) (hP : ∀ c, c < m.size → valE prop (m.S c) = some (P c)) {res : Bool} {N : Sig → Prop}
    (hN : true = res → ∀ σ, N σ) :
    ∀ (cs : List Nat) (σ : Sig), (∀ c ∈ cs, c < m.size) → Has σ "model" (.val m.D) → Has σ "prop" (.val (exprD prop)) → cs.all (okAt m P) = res →
      Iter C 11 "c" (forBody (stmtAt (bodyOf (fdef 8)) 1)) (fun d => d = .bool res) N (natD cs) σ := by
  intro cs
  induction cs with
  | nil => intro σ hc h1 h2 hr; exact hN hr σ
  | cons c r ih =>
    intro σ hcs h1 h2 hr
    have hc := hcs c (by simp)
    show Ex C 11 (("c", .val (.int c)) :: σ) (forBody (stmtAt (bodyOf (fdef 8)) 1)) (Iter C 11 "c" (forBody (stmtAt (bodyOf (fdef 8)) 1)) (fun d => d = .bool res) N (natD r)) (Iter C 11 "c" (forBody (stmtAt (bodyOf (fdef 8)) 1)) (fun d => d = .bool res) N (natD r)) (fun d => d = .bool res)
    walk_at "body"
    have hlen := (M.hS c hc).2.1
    refine ex_assign (by walk_at "wr") (ev_call (by walk_at "gl") (by decide +kernel) (by walk_at "evl") (fn_state_ofM L M c hc) (by omega) rfl) rfl ?_
    refine ex_if (tr_cmp (ev_call (by walk_at "gl") (by decide +kernel) (by walk_at "evl") (fn_value_of L prop _ _ (by omega) (by omega) (hP c hc)) (by omega) rfl) ev_int cmp_eq (by omega) rfl) (fun h => ?_) (fun h => ?_)
    · refine ex_cont ?_
      have h0 : P c = 0 := by simpa using h
      refine ih _ (fun c hc' => hcs c (by simp [hc'])) (by walk_at "lk") (by walk_at "lk") ?_
      simpa [okAt, h0] using hr
    · have h0 : ¬ P c = 0 := by simpa using h
      refine ex_nil ?_
      refine ex_for (by walk_at "wr") (ev_call (by walk_at "gl") (by decide +kernel) (by walk_at "evl") (fn_enabledM L M c hc) (by omega) rfl) rfl ?_
      refine ind_inner hs L M prop hz P hP c hc (r.all (okAt m P)) (fun hrest σ g1 g2 => ?_) (m.en c) _ (fun j hj => MS.en_lt hj) (by walk_at "lk") (by walk_at "lk") (by walk_at "lk") ?_
      · exact ex_nil (ih σ (fun c hc' => hcs c (by simp [hc'])) g1 g2 hrest)
      · have hb : (P c == 0) = false := by simpa using h0
        rw [List.all_cons] at hr
        unfold okAt at hr
        rw [hb, Bool.false_or] at hr
        exact hr

theorem fn_is_inductive {T : Txt} (L : Lib T) {m : MS} (M : MOk m) (prop : Xp) (hz : prop.length ≤ 1000) (P : Nat → Int) (hP : ∀ c, c < m.size → valE prop (m.S c) = some (P c)) : Fn T 12 "is_inductive" [m.D, exprD prop] (.bool (indR m P)) := by
  refine fn_at (i := 8) (L.fns 8 (by decide)) ["model", "prop"] rfl (fun pm cd doc vs hv => ?_) (by decide +kernel) (by decide +kernel) rfl rfl rfl fun C hT hs hc => ?_
  · obtain ⟨_, _, rfl⟩ := len2 hv; rfl
  subst hT
  show Ex C 11 [("model", .val m.D), ("prop", .val (exprD prop))] _ _ _ _
  walk_at "body"
  have hst : valE prop m.start = some (P m.s0) := by rw [M.st]; exact hP _ M.s1
  have hz0 := M.z0
  refine ex_if (tr_cmp (ev_call (by walk_at "gl") (by decide +kernel) (evL_cons (by walk_at "ev") (evL_cons (ev_idxT (by walk_at "ev") ev_int (by decide) rfl (by simp) rfl) evL_nil (fun _ => rfl)) (fun _ => rfl)) (fn_value_of L prop m.start _ (by omega) (by omega) hst) (by omega) rfl) ev_int cmp_eq (by omega) rfl) (fun h => ?_) (fun h => ?_)
  · refine ex_ret ev_bool ?_
    have h0 : P m.s0 = 0 := by simpa using h
    simp [indR, h0]
  · have h0 : ¬ P m.s0 = 0 := by simpa using h
    refine ex_nil ?_
    refine ex_forR ⟨by walk_at "gl", L.grange, L.brange⟩ (by walk_at "wr") (m := m.size) (ev_call (by walk_at "gl") (by decide +kernel) (by walk_at "evl") (fn_box_sizeM L M) (by omega) rfl) rfl (by have := M.sz1; omega) ?_
    refine ind_loop hs L M prop hz P hP (res := indR m P) (fun hres σ => ?_) (List.range m.size) _ (fun c hc => List.mem_range.mp hc) (by walk_at "lk") (by walk_at "lk") ?_
    · exact ex_ret ev_bool (by rw [← hres])
    · simp [indR, h0]

noncomputable def addAll : List Nat → List Nat → List Nat
  | [], todo => todo
  | c :: r, todo => addAll r (if c ∈ todo then todo else todo ++ [c])
noncomputable def MS.succ (m : MS) (c : Nat) : List Nat := (m.en c).map (m.T c)
noncomputable def bfs (m : MS) : Nat → List Nat → Nat → List Nat
  | 0, todo, _ => todo
  | f + 1, todo, place => match todo[place]? with
    | some c => bfs m f (addAll (m.succ c) todo) (place + 1)
    | none => todo

noncomputable def Good (n : Nat) (todo : List Nat) : Prop := todo.Nodup ∧ ∀ c ∈ todo, c < n
theorem Good.add {n : Nat} {todo : List Nat} {c : Nat} (h : Good n todo) (hc : c < n) : Good n (if c ∈ todo then todo else todo ++ [c]) := by
  split
  · exact h
  · rename_i hn
    refine ⟨List.nodup_append.mpr ⟨h.1, by simp, fun a ha b hb e => ?_⟩, fun x hx => ?_⟩
    · simp at hb; subst hb; subst e; exact hn ha
    · rcases List.mem_append.mp hx with hx | hx
      · exact h.2 x hx
      · simp at hx; subst hx; exact hc
theorem Good.addAll {n : Nat} : ∀ {cs todo : List Nat}, Good n todo → (∀ c ∈ cs, c < n) → Good n (addAll cs todo)
  | [], _, h, _ => h
  | c :: r, todo, h, hc => (h.add (hc c (by simp))).addAll fun x hx => hc x (by simp [hx])
theorem Good.length {n : Nat} {todo : List Nat} (h : Good n todo) : todo.length ≤ n := by
  have := List.Nodup.length_le_of_subset (l₁ := todo) (l₂ := List.range n) h.1 fun x hx => List.mem_range.mpr (h.2 x hx)
  simpa using this
theorem addAll_length : ∀ (cs todo : List Nat), todo.length ≤ (addAll cs todo).length
  | [], _ => Nat.le_refl _
  | c :: r, todo => by
    unfold addAll
    refine Nat.le_trans ?_ (addAll_length r _)
    split <;> simp

@[simp] theorem natD_length (js : List Nat) : (natD js).length = js.length := by simp [natD]
theorem natD_get {js : List Nat} {k c : Nat} (h : js[k]? = some c) : (natD js)[k]? = some (.int c) := by simp [natD, h]
theorem natD_push (js : List Nat) (c : Nat) : natD js ++ [.int c] = natD (js ++ [c]) := by simp [natD]
theorem natD_int (js : List Nat) : natD js = (js.map fun j : Nat => (j : Int)).map Dat.int := by simp [natD]

/-- the table holds what the list holds -/
noncomputable def Same (ks : List Int) (todo : List Nat) : Prop := ks.length = todo.length ∧ ∀ x : Nat, (x : Int) ∈ ks ↔ x ∈ todo

theorem sat_inner {C : Act} (hs : C.env.scope = scopeOf (fdef 9)) (L : Lib C.T) {m : MS} (M : MOk m) (c : Nat) (hc : c < m.size) {R : Dat → Prop} {N : Sig → Prop} (fin : List Nat) (place : Nat)
    (hN : ∀ σ ks, Has σ "model" (.val m.D) → Has σ "place" (.val (.int place)) → Has σ "todo" (.lst (natD fin)) → Has σ "seen" (.set ks) → Same ks fin → N σ) :
    ∀ (js : List Nat) (todo : List Nat) (ks : List Int) (σ : Sig), (∀ j ∈ js, j < m.rules.length) → Has σ "model" (.val m.D) → Has σ "here" (.val (.lst (intL (m.S c)))) → Has σ "place" (.val (.int place)) → Has σ "todo" (.lst (natD todo)) → Has σ "seen" (.set ks) → Same ks todo → Good m.size todo →
      addAll (js.map (m.T c)) todo = fin →
      Iter C 11 "k" (forBody (stmtAt (whileBody (stmtAt (bodyOf (fdef 9)) 4)) 1)) R N (natD js) σ := by
  intro js
  induction js with
  | nil => intro todo ks σ hj h1 h2 h3 h4 h5 hs hg e; cases e; exact hN σ ks h1 h3 h4 h5 hs
  | cons j r ih =>
    intro todo ks σ hj h1 h2 h3 h4 h5 hsm hg e
    have hjl := hj j (by simp)
    show Ex C 11 (("k", .val (.int j)) :: σ) (forBody (stmtAt (whileBody (stmtAt (bodyOf (fdef 9)) 4)) 1)) (Iter C 11 "k" (forBody (stmtAt (whileBody (stmtAt (bodyOf (fdef 9)) 4)) 1)) R N (natD r)) (Iter C 11 "k" (forBody (stmtAt (whileBody (stmtAt (bodyOf (fdef 9)) 4)) 1)) R N (natD r)) R
    walk_at "body"
    have hT := M.hT c hc j _ (List.getElem?_eq_getElem hjl)
    have hcode := (M.hS _ hT.2).2.2
    have hfn := fn_code_of L m.base (by have := M.b0; omega) M.b1 m.start (m.S (m.T c j)) m.rules
    rw [hcode] at hfn
    have hlen := hg.length
    have hsz := M.sz1
    refine ex_assign (by walk_at "wr") (ev_call (by walk_at "gl") (by decide +kernel) (evL_cons (by walk_at "ev") (evL_cons (ev_call (by walk_at "gl") (by decide +kernel) (by walk_at "evl") (fn_firedM L M c j hc hjl) (by omega) rfl) evL_nil (fun _ => rfl)) (fun _ => rfl)) hfn (by omega) rfl) rfl ?_
    simp only [List.map_cons, addAll] at e
    refine ex_if (tr_notin (by walk_at "lk") (by decide +kernel) (by walk_at "ev")) (fun h => ?_) (fun h => ?_)
    · have hin : ¬ m.T c j ∈ todo := by
        have : ¬ ((m.T c j : Nat) : Int) ∈ ks := by simpa using h
        exact fun h' => this ((hsm.2 _).mpr h')
      rw [if_neg hin] at e
      refine ex_setKey (by walk_at "lk") (by decide +kernel) ev_bool (by walk_at "ev") rfl (by have := hsm.1; omega) ?_
      refine ex_append (by walk_at "lk") (by decide +kernel) (by walk_at "ev") (by simp; omega) rfl rfl (ex_nil (ex_nil ?_))
      refine ih (todo ++ [m.T c j]) (((m.T c j : Nat) : Int) :: ks) _ (fun j hj' => hj j (by simp [hj'])) (by walk_at "lk") (by walk_at "lk") (by walk_at "lk") (by rw [natD_push]; walk_at "lk") (by walk_at "lk") ⟨by simp [hsm.1], fun x => ?_⟩ ?_ e
      · rw [List.mem_cons, List.mem_append, hsm.2 x]
        constructor
        · rintro (h | h)
          · right; simp; omega
          · left; exact h
        · rintro (h | h)
          · right; exact h
          · left; simp at h; omega
      · have := hg.add hT.2
        rw [if_neg hin] at this; exact this
    · have hin : m.T c j ∈ todo := by
        have : ((m.T c j : Nat) : Int) ∈ ks := by simpa using h
        exact (hsm.2 _).mp this
      rw [if_pos hin] at e
      refine ex_nil (ex_nil ?_)
      exact ih todo ks _ (fun j hj' => hj j (by simp [hj'])) (by walk_at "lk") (by walk_at "lk") (by walk_at "lk") (by walk_at "lk") (by walk_at "lk") hsm hg e

theorem fn_saturated {T : Txt} (L : Lib T) {m : MS} (M : MOk m) (hm : m.size < 64) (out : List Nat) (ho : out.Perm (bfs m m.size [m.s0] 0)) (hsorted : out.Pairwise (· ≤ ·)) : Fn T 12 "saturated_fast" [m.D] (.lst (natD out)) := by
  refine fn_at (i := 9) (L.fns 9 (by decide)) ["model"] rfl (fun pm cd doc vs hv => ?_) (by decide +kernel) (by decide +kernel) rfl rfl rfl fun C hT hs hc => ?_
  · obtain ⟨_, rfl⟩ := len1 hv; rfl
  subst hT
  show Ex C 11 [("model", .val m.D)] _ _ _ _
  walk_at "body"
  have hz0 := M.z0
  have hcode := (M.hS _ M.s1).2.2
  rw [← M.st] at hcode
  have hfn := fn_code_of L m.base (by have := M.b0; omega) M.b1 m.start m.start m.rules
  rw [hcode] at hfn
  refine ex_assign (by walk_at "wr") (ev_call (by walk_at "gl") (by decide +kernel) (evL_cons (by walk_at "ev") (evL_cons (ev_idxT (by walk_at "ev") ev_int (by decide) rfl (by simp) rfl) evL_nil (fun _ => rfl)) (fun _ => rfl)) hfn (by omega) rfl) rfl ?_
  refine ex_dict1 (by walk_at "wr") (by walk_at "ev") ev_bool ?_
  refine ex_assignF (by walk_at "wr") (evF_list (by walk_at "evl") (by simp)) rfl ?_
  refine ex_assign (by walk_at "wr") ev_int rfl ?_
  refine ex_while (fun n σ => ∃ (todo : List Nat) (place : Nat) (ks : List Int), Has σ "model" (.val m.D) ∧ Has σ "place" (.val (.int place)) ∧ Has σ "todo" (.lst (natD todo)) ∧ Has σ "seen" (.set ks) ∧ Same ks todo ∧ Good m.size todo ∧ place ≤ todo.length ∧ n = m.size - place ∧ bfs m (m.size - place) todo place = bfs m m.size [m.s0] 0) m.size
    ⟨[m.s0], 0, [(m.s0 : Int)], by walk_at "lk", lk_self, lk_tail (by decide +kernel) lk_self, by walk_at "lk", ⟨rfl, fun x => by simp; omega⟩, ⟨by simp, fun c hc => by simp at hc; subst hc; exact M.s1⟩, by simp, rfl, rfl⟩ ?_
  rintro n σ ⟨todo, place, ks, h1, h2, h3, h4, hsm, hg, hpl, rfl, hfin⟩
  have hlen := hg.length
  refine ⟨decide ((place : Int) < ((natD todo).length : Int)), tr_cmp (by walk_at "ev") (by walk_at "ev") cmp_lt (by omega) rfl, fun h => ?_, fun h => ?_⟩
  · have hlt : place < todo.length := by simpa using h
    have hc := List.getElem?_eq_getElem hlt
    generalize todo[place] = c at hc
    have hcm : c < m.size := hg.2 c (List.mem_of_getElem? hc)
    have hfu : m.size - place = (m.size - (place + 1)) + 1 := by omega
    have hstep : bfs m (m.size - (place + 1) + 1) todo place = bfs m (m.size - (place + 1)) (addAll (m.succ c) todo) (place + 1) := by
      conv => lhs; unfold bfs
      rw [hc]
    rw [hfu, hstep] at hfin
    refine ex_assign (by walk_at "wr") (ev_call (by walk_at "gl") (by decide +kernel) (evL_cons (by walk_at "ev") (evL_cons (ev_idx (by walk_at "evb") (by walk_at "ev") (by omega) (natD_get hc) (by simp; omega) rfl) evL_nil (fun _ => rfl)) (fun _ => rfl)) (fn_state_ofM L M c hcm) (by omega) rfl) rfl ?_
    refine ex_for (by walk_at "wr") (ev_call (by walk_at "gl") (by decide +kernel) (by walk_at "evl") (fn_enabledM L M c hcm) (by omega) rfl) rfl ?_
    refine sat_inner hs L M c hcm (addAll (m.succ c) todo) place (fun σ' ks' g1 g2 g3 g4 g5 => ?_) (m.en c) todo ks _ (fun j hj => MS.en_lt hj) (by walk_at "lk") (by walk_at "lk") (by walk_at "lk") (by walk_at "lk") (by walk_at "lk") hsm hg rfl
    refine ex_assign (by walk_at "wr") (by walk_at "ev") rfl (ex_nil ?_)
    have hg' : Good m.size (addAll (m.succ c) todo) := hg.addAll fun x hx => by
      obtain ⟨j, hj, rfl⟩ := List.mem_map.mp hx
      exact (M.hT c hcm j _ (List.getElem?_eq_getElem (MS.en_lt hj))).2
    have hle := addAll_length (m.succ c) todo
    exact ⟨m.size - (place + 1), by omega, addAll (m.succ c) todo, place + 1, ks', by walk_at "lk", by rw [show ((place + 1 : Nat) : Int) = (place : Int) + 1 by omega]; walk_at "lk", by walk_at "lk", by walk_at "lk", g5, hg', by omega, rfl, hfin⟩
  · have hge : ¬ place < todo.length := by simpa using h
    have hnone : todo[place]? = none := List.getElem?_eq_none (by omega)
    have heq : bfs m (m.size - place) todo place = todo := by
      cases m.size - place with
      | zero => rfl
      | succ f => unfold bfs; rw [hnone]
    rw [heq] at hfin
    rw [← hfin] at ho
    rw [natD_int]
    refine ex_ret (ev_sorted (by walk_at "gl") L.gsorted L.bsorted (ns := todo.map fun j : Nat => (j : Int)) (by rw [← natD_int]; walk_at "evb") (by simp; omega) rfl (ho.map _) ?_) rfl
    rw [List.pairwise_map]
    exact hsorted.imp fun h => by omega

noncomputable def leafI (a n : Int) : Str × Int := if a % 6 < 3 then ("num", a % 6) else ("var", a % 6 % n)
noncomputable def opN (o : Int) : Str := opsL.getD o.toNat "%"
noncomputable def notIf (c : Bool) : Xp := if c then [(("not" : Str), (0 : Int))] else []
noncomputable def exprI (a o b n : Int) : Xp := [leafI a n] ++ ([leafI b n] ++ notIf ((a + o + b) % 3 == 1)) ++ [(opN (o % 8), 0)] ++ notIf ((a + o + b) % 3 == 2)
theorem notIf_length (c : Bool) : (notIf c).length ≤ 1 := by unfold notIf; split <;> simp

theorem fn_leaf {T : Txt} (L : Lib T) (a n : Int) (hn : 0 < n) : Fn T 2 "_law_leaf" [.int a, .int n] (itemD (leafI a n)) := by
  refine fn_at (i := 13) (L.fns 13 (by decide)) ["a", "n"] rfl (fun pm cd doc vs hv => ?_) (by decide +kernel) (by decide +kernel) rfl rfl rfl fun C hT hs hc => ?_
  · obtain ⟨_, _, rfl⟩ := len2 hv; rfl
  subst hT
  show Ex C 1 [("a", .val (.int a)), ("n", .val (.int n))] _ _ _ _
  walk_at "body"
  refine ex_assign (by walk_at "wr") (by walk_at "ev") rfl ?_
  refine ex_if (by walk_at "tr") (fun h => ?_) (fun h => ?_)
  · have h' : a % 6 < 3 := by simpa using h
    refine ex_ret (by walk_at "ev") ?_
    simp [leafI, h']
  · have h' : ¬ a % 6 < 3 := by simpa using h
    refine ex_nil (ex_ret (ev_tup (evL_cons ev_str (evL_cons (ev_bin (by walk_at "ev") (by walk_at "ev") (bin_mod hn)) evL_nil (fun _ => rfl)) (fun _ => rfl)) (by simp)) ?_)
    simp [leafI, h']

theorem opN_get {o : Int} (h0 : 0 ≤ o) (h1 : o < 9) : (opsL.map Dat.str)[o.toNat]? = some (.str (opN o)) := by
  have : o.toNat < opsL.length := by show o.toNat < 9; omega
  simp [opN, List.getD, this]

theorem ev_ops {C : Act} {k : Nat} {σ : Sig} {p pos : Pos} {e : Expr} {o : Int} (L : Lib C.T) (hk : C.env.kindOf "_law_ops" = some .globalImplicit) (he : Ev C k σ e (.int o)) (h0 : 0 ≤ o) (h1 : o < 9) (hs : isSlice e = false) :
    Ev C k σ (.Subscript (.Name "_law_ops" p) e pos) (.str (opN o)) := by
  obtain ⟨v, hv, hr⟩ := L.ops
  exact ev_idxT (ev_global hk (by decide +kernel) hv hr) he h0 (opN_get h0 h1) (by simp [opsL]) hs

theorem fn_expr {T : Txt} (L : Lib T) (a o b n : Int) (hn : 0 < n) : Fn T 4 "_law_expr" [.int a, .int o, .int b, .int n] (exprD (exprI a o b n)) := by
  refine fn_at (i := 14) (L.fns 14 (by decide)) ["a", "o", "b", "n"] rfl (fun pm cd doc vs hv => ?_) (by decide +kernel) (by decide +kernel) rfl rfl rfl fun C hT hs hc => ?_
  · obtain ⟨_, _, _, _, rfl⟩ := len4 hv; rfl
  subst hT
  show Ex C 3 [("a", .val (.int a)), ("o", .val (.int o)), ("b", .val (.int b)), ("n", .val (.int n))] _ _ _ _
  walk_at "body"
  refine ex_assign (by walk_at "wr") (EvF.ev (evF_list (evL_cons (ev_call (by walk_at "gl") (by decide +kernel) (by walk_at "evl") (fn_leaf L b n hn) (by omega) rfl) evL_nil (fun _ => rfl)) (by simp))) rfl ?_
  refine ex_assign (by walk_at "wr") (by walk_at "ev") rfl ?_
  -- both ways of the first test meet
  have step2 : ∀ σ, Has σ "a" (.val (.int a)) → Has σ "o" (.val (.int o)) → Has σ "n" (.val (.int n)) → Has σ "form" (.val (.int ((a + o + b) % 3))) → Has σ "right" (.val (.lst (([leafI b n] ++ notIf ((a + o + b) % 3 == 1)).map itemD))) →
      Ex C 3 σ ((bodyOf (fdef 14)).drop 3) (fun _ => False) (fun _ => False) (fun d => d = exprD (exprI a o b n)) := by
    intro σ h1 h2 h3 h4 h5
    have hl := notIf_length ((a + o + b) % 3 == 1)
    walk_at "body"
    refine ex_assign (by walk_at "wr") (ev_bin (ev_bin (EvF.ev (evF_list (evL_cons (ev_call (by walk_at "gl") (by decide +kernel) (by walk_at "evl") (fn_leaf L a n hn) (by omega) rfl) evL_nil (fun _ => rfl)) (by simp))) (by walk_at "ev") (bin_cat (by simp; omega)))
      (EvF.ev (evF_list (evL_cons (ev_tup (evL_cons (ev_ops L (by walk_at "gl") (by walk_at "ev") (by omega) (by omega) rfl) (by walk_at "evl") (fun _ => rfl)) (by simp)) evL_nil (fun _ => rfl)) (by simp))) (bin_cat (by simp; omega))) rfl ?_
    refine ex_if (by walk_at "tr") (fun h => ?_) (fun h => ?_)
    · have h' : ((a + o + b) % 3 == 2) = true := h
      refine ex_assign (by walk_at "wr") (ev_bin (by walk_at "ev") (EvF.ev (evF_list (by walk_at "evl") (by simp))) (bin_cat (by simp; omega))) rfl (ex_nil ?_)
      refine ex_ret (by walk_at "ev") ?_
      rw [exprI, h']; simp [notIf]
    · have h' : ((a + o + b) % 3 == 2) = false := h
      refine ex_nil (ex_ret (by walk_at "ev") ?_)
      rw [exprI, h']; simp [notIf]
  refine ex_if (by walk_at "tr") (fun h => ?_) (fun h => ?_)
  · have h' : ((a + o + b) % 3 == 1) = true := h
    refine ex_assign (by walk_at "wr") (ev_bin (by walk_at "ev") (EvF.ev (evF_list (by walk_at "evl") (by simp))) (bin_cat (by simp))) rfl (ex_nil ?_)
    refine step2 _ (by walk_at "lk") (by walk_at "lk") (by walk_at "lk") (by walk_at "lk") ?_
    rw [h']; exact lk_self
  · have h' : ((a + o + b) % 3 == 1) = false := h
    refine ex_nil (step2 _ (by walk_at "lk") (by walk_at "lk") (by walk_at "lk") (by walk_at "lk") ?_)
    rw [h']; exact lk_tail (by decide +kernel) lk_self

/-- a row of the script -/
structure Row where
  g : Int
  p : Int
  h : Int
  t : Int
  a : Int
  o : Int
  b : Int
noncomputable abbrev Row.D (r : Row) : Dat := .tup [.int r.g, .int r.p, .int r.h, .int r.t, .int r.a, .int r.o, .int r.b]

noncomputable def ruleI (n : Int) (r : Row) : Xp × List (Int × Xp) := (exprI r.g r.p r.h n, [(r.t % n, exprI r.a r.o r.b n), ((r.t + 1) % n, exprI r.h r.o r.a n)].take (r.t % 3).toNat)

theorem fn_rule {T : Txt} (L : Lib T) (r : Row) (n : Int) (hn : 0 < n) : Fn T 6 "_law_rule" [r.D, .int n] (ruleD (ruleI n r)) := by
  refine fn_at (i := 15) (L.fns 15 (by decide)) ["r", "n"] rfl (fun pm cd doc vs hv => ?_) (by decide +kernel) (by decide +kernel) rfl rfl rfl fun C hT hs hc => ?_
  · obtain ⟨_, _, rfl⟩ := len2 hv; rfl
  subst hT
  show Ex C 5 [("r", .val r.D), ("n", .val (.int n))] _ _ _ _
  walk_at "body"
  refine ex_unpack (xs := ["g", "p", "h", "t", "a", "o", "b"]) (.cons (.cons (.cons (.cons (.cons (.cons (.cons .nil))))))) (fun x hx => ?_) (by walk_at "ev") rfl rfl rfl ?_
  · refine wr_of hs ?_
    have : ∀ x ∈ (["g", "p", "h", "t", "a", "o", "b"] : List Str), (scopeOf (fdef 15)).names.lookup x = some .local := by decide +kernel
    exact this x hx
  show Ex C 5 [("b", .val (.int r.b)), ("o", .val (.int r.o)), ("a", .val (.int r.a)), ("t", .val (.int r.t)), ("h", .val (.int r.h)), ("p", .val (.int r.p)), ("g", .val (.int r.g)), ("r", .val r.D), ("n", .val (.int n))] _ _ _ _
  have hset : Ev C 5 [("b", .val (.int r.b)), ("o", .val (.int r.o)), ("a", .val (.int r.a)), ("t", .val (.int r.t)), ("h", .val (.int r.h)), ("p", .val (.int r.p)), ("g", .val (.int r.g)), ("r", .val r.D), ("n", .val (.int n))] (asgVal (stmtAt (bodyOf (fdef 15)) 1)) (.lst ([(r.t % n, exprI r.a r.o r.b n), ((r.t + 1) % n, exprI r.h r.o r.a n)].map setD)) := by
    conv => enter [4]; whnf
    refine EvF.ev (evF_list (evL_cons (ev_tup (evL_cons (ev_bin (by walk_at "ev") (by walk_at "ev") (bin_mod hn)) (evL_cons (ev_call (by walk_at "gl") (by decide +kernel) (by walk_at "evl") (fn_expr L r.a r.o r.b n hn) (by omega) rfl) evL_nil (fun _ => rfl)) (fun _ => rfl)) (by simp))
      (evL_cons (ev_tup (evL_cons (ev_bin (by walk_at "ev") (by walk_at "ev") (bin_mod hn)) (evL_cons (ev_call (by walk_at "gl") (by decide +kernel) (by walk_at "evl") (fn_expr L r.h r.o r.a n hn) (by omega) rfl) evL_nil (fun _ => rfl)) (fun _ => rfl)) (by simp)) evL_nil (fun _ => rfl)) (fun _ => rfl)) (by simp))
  refine ex_assign (by walk_at "wr") hset rfl ?_
  refine ex_ret (ev_tup (evL_cons (ev_call (by walk_at "gl") (by decide +kernel) (by walk_at "evl") (fn_expr L r.g r.p r.h n hn) (by omega) rfl) (evL_cons (EvF.ev (evF_upto (ds := [(r.t % n, exprI r.a r.o r.b n), ((r.t + 1) % n, exprI r.h r.o r.a n)].map setD) (by walk_at "evb") (by walk_at "ev") (by omega) (by simp))) evL_nil (fun _ => rfl)) (fun _ => rfl)) (by simp)) ?_
  unfold ruleI ruleD
  rw [List.map_take]

theorem model_loop {C : Act} (hs : C.env.scope = scopeOf (fdef 16)) (L : Lib C.T) (n : Int) (hn : 0 < n) {R : Dat → Prop} {N : Sig → Prop} (fin : List Row) (base : Int) (start : List Int)
    (hN : ∀ σ, Has σ "rules" (.lst (fin.map fun r => ruleD (ruleI n r))) → Has σ "base" (.val (.int base)) → Has σ "start" (.val (.lst (intL start))) → N σ) :
    ∀ (rows pre : List Row) (σ : Sig), Has σ "rules" (.lst (pre.map fun r => ruleD (ruleI n r))) → Has σ "n" (.val (.int n)) → Has σ "base" (.val (.int base)) → Has σ "start" (.val (.lst (intL start))) → pre ++ rows = fin → pre.length + rows.length ≤ 1000 →
      Iter C 7 "r" (forBody (stmtAt (bodyOf (fdef 16)) 1)) R N (rows.map Row.D) σ := by
  intro rows
  induction rows with
  | nil => intro pre σ h1 h2 h3 h4 e hz; rw [List.append_nil] at e; subst e; exact hN σ h1 h3 h4
  | cons r rs ih =>
    intro pre σ h1 h2 h3 h4 e hz
    simp only [List.length_cons] at hz
    show Ex C 7 (("r", .val r.D) :: σ) (forBody (stmtAt (bodyOf (fdef 16)) 1)) (Iter C 7 "r" (forBody (stmtAt (bodyOf (fdef 16)) 1)) R N (rs.map Row.D)) (Iter C 7 "r" (forBody (stmtAt (bodyOf (fdef 16)) 1)) R N (rs.map Row.D)) R
    walk_at "body"
    refine ex_append (by walk_at "lk") (by decide +kernel) (ev_call (by walk_at "gl") (by decide +kernel) (by walk_at "evl") (fn_rule L r n hn) (by omega) rfl) (by simp; omega) rfl rfl (ex_nil ?_)
    refine ih (pre ++ [r]) _ ?_ (by walk_at "lk") (by walk_at "lk") (by walk_at "lk") (by simp [e]) (by simp; omega)
    rw [List.map_append]; exact lk_self

theorem fn_model {T : Txt} (L : Lib T) (base : Int) (start : List Int) (rows : List Row) (n : Int) (hn : 0 < n) (hz : rows.length ≤ 1000) (hz2 : start.length ≤ 1000) : Fn T 8 "_law_model" [.int base, .lst (intL start), .lst (rows.map Row.D), .int n] (modelD base start (rows.map (ruleI n))) := by
  refine fn_at (i := 16) (L.fns 16 (by decide)) ["base", "start", "rows", "n"] rfl (fun pm cd doc vs hv => ?_) (by decide +kernel) (by decide +kernel) rfl rfl rfl fun C hT hs hc => ?_
  · obtain ⟨_, _, _, _, rfl⟩ := len4 hv; rfl
  subst hT
  show Ex C 7 [("base", .val (.int base)), ("start", .val (.lst (intL start))), ("rows", .val (.lst (rows.map Row.D))), ("n", .val (.int n))] _ _ _ _
  walk_at "body"
  refine ex_assignF (by walk_at "wr") (evF_list evL_nil (by simp)) rfl ?_
  refine ex_for (by walk_at "wr") (by walk_at "ev") rfl ?_
  refine model_loop hs L n hn rows base start (fun σ g1 g2 g3 => ?_) rows [] _ lk_self (by walk_at "lk") (by walk_at "lk") (by walk_at "lk") rfl (by simp; omega)
  refine Ex.freeze g1 ?_
  refine ex_ret (ev_tup (evL_cons (by walk_at "ev") (evL_cons (EvF.ev (evF_listOf (by walk_at "gl") L.glist L.blist (by walk_at "evb") (by simp; omega) rfl)) (evL_cons (by walk_at "ev") evL_nil (fun _ => rfl)) (fun _ => rfl)) (fun _ => rfl)) (by simp)) ?_
  simp [modelD]

/-- a leaf's value -/
noncomputable def valI (a : Int) (st : List Int) : Int := if a % 6 < 3 then a % 6 else st.getD (a % 6 % st.length).toNat 0

theorem fn_value {T : Txt} (L : Lib T) (a : Int) (st : List Int) (h0 : 0 < st.length) (hz : st.length ≤ 1000) : Fn T 2 "_law_value" [.int a, .lst (intL st)] (.int (valI a st)) := by
  refine fn_at (i := 17) (L.fns 17 (by decide)) ["a", "st"] rfl (fun pm cd doc vs hv => ?_) (by decide +kernel) (by decide +kernel) rfl rfl rfl fun C hT hs hc => ?_
  · obtain ⟨_, _, rfl⟩ := len2 hv; rfl
  subst hT
  show Ex C 1 [("a", .val (.int a)), ("st", .val (.lst (intL st)))] _ _ _ _
  walk_at "body"
  refine ex_assign (by walk_at "wr") (by walk_at "ev") rfl ?_
  refine ex_if (by walk_at "tr") (fun h => ?_) (fun h => ?_)
  · have h' : a % 6 < 3 := by simpa using h
    refine ex_ret (by walk_at "ev") ?_
    simp [valI, h']
  · have h' : ¬ a % 6 < 3 := by simpa using h
    have hm := Int.emod_nonneg (a % 6) (b := (st.length : Int)) (by omega)
    have hm2 := Int.emod_lt_of_pos (a % 6) (b := (st.length : Int)) (by omega)
    have hget : st[(a % 6 % (st.length : Int)).toNat]? = some (valI a st) := by
      have hlt : (a % 6 % (st.length : Int)).toNat < st.length := by omega
      simp [valI, h', List.getD, hlt]
    refine ex_nil (ex_ret (ev_idx (by walk_at "evb") (ev_bin (by walk_at "ev") (by walk_at "ev") (bin_mod (by simp; omega))) (by simpa using hm) (intL_get (by simpa using hget)) (by simp; omega) rfl) rfl)

noncomputable def opI (o x y : Int) : Int :=
  [x + y, x - y, x * y, if x == y then 1 else 0, 1 - (if x == y then 1 else 0), if decide (x < y) then 1 else 0, if x != 0 && y != 0 then 1 else 0, if x != 0 || y != 0 then 1 else 0, 0].getD o.toNat 0

theorem fn_op {T : Txt} (L : Lib T) (o x y : Int) (h0 : 0 ≤ o) (h1 : o < 9) (hm : IntMulOk x y) : Fn T 2 "_law_op" [.int o, .int x, .int y] (.int (opI o x y)) := by
  refine fn_at (i := 18) (L.fns 18 (by decide)) ["o", "x", "y"] rfl (fun pm cd doc vs hv => ?_) (by decide +kernel) (by decide +kernel) rfl rfl rfl fun C hT hs hc => ?_
  · obtain ⟨_, _, _, rfl⟩ := len3 hv; rfl
  subst hT
  show Ex C 1 [("o", .val (.int o)), ("x", .val (.int x)), ("y", .val (.int y))] _ _ _ _
  walk_at "body"
  refine ex_assign (by walk_at "wr") (d := .int (if x == y then 1 else 0)) (ev_if (by walk_at "tr") (fun e => by rw [if_pos e]; exact ev_int) (fun e => by rw [if_neg (neg_of e)]; exact ev_int)) rfl ?_
  refine ex_assign (by walk_at "wr") (d := .int (if decide (x < y) then 1 else 0)) (ev_if (by walk_at "tr") (fun e => by rw [if_pos e]; exact ev_int) (fun e => by rw [if_neg (neg_of e)]; exact ev_int)) rfl ?_
  refine ex_assign (by walk_at "wr") (d := .int (if x != 0 && y != 0 then 1 else 0)) (ev_if (tr_and (by walk_at "tr") (fun _ => by walk_at "tr")) (fun e => by rw [if_pos e]; exact ev_int) (fun e => by rw [if_neg (neg_of e)]; exact ev_int)) rfl ?_
  refine ex_assign (by walk_at "wr") (d := .int (if x != 0 || y != 0 then 1 else 0)) (ev_if (tr_or (by walk_at "tr") (fun _ => by walk_at "tr")) (fun e => by rw [if_pos e]; exact ev_int) (fun e => by rw [if_neg (neg_of e)]; exact ev_int)) rfl ?_
  have hlt : o.toNat < ([x + y, x - y, x * y, if x == y then 1 else 0, 1 - (if x == y then 1 else 0), if decide (x < y) then 1 else 0, if x != 0 && y != 0 then 1 else 0, if x != 0 || y != 0 then 1 else 0, 0] : List Int).length := by show o.toNat < 9; omega
  refine ex_ret (ev_idxT (ds := intL [x + y, x - y, x * y, if x == y then 1 else 0, 1 - (if x == y then 1 else 0), if decide (x < y) then 1 else 0, if x != 0 && y != 0 then 1 else 0, if x != 0 || y != 0 then 1 else 0, 0])
    (ev_tup (evL_cons (by walk_at "ev") (evL_cons (by walk_at "ev") (evL_cons (ev_bin (by walk_at "ev") (by walk_at "ev") (bin_mul hm)) (by walk_at "evl") (fun _ => rfl)) (fun _ => rfl)) (fun _ => rfl)) (by simp)) (by walk_at "ev") h0 (d := .int (opI o x y)) (intL_get ?_) (by simp) rfl) rfl
  rw [List.getElem?_eq_getElem hlt, opI, List.getD_eq_getElem?_getD, List.getElem?_eq_getElem hlt]; rfl

noncomputable def dueI (a o b : Int) (st : List Int) : Int :=
  let y := if (a + o + b) % 3 == 1 then (if valI b st == 0 then 1 else 0) else valI b st
  let v := opI (o % 8) (valI a st) y
  if (a + o + b) % 3 == 2 then (if v == 0 then 1 else 0) else v

theorem fn_due {T : Txt} (L : Lib T) (a o b : Int) (st : List Int) (h0 : 0 < st.length) (hz : st.length ≤ 1000) (hsm : ∀ v ∈ st, -1000 ≤ v ∧ v ≤ 1000) : Fn T 4 "_law_due" [.int a, .int o, .int b, .lst (intL st)] (.int (dueI a o b st)) := by
  refine fn_at (i := 19) (L.fns 19 (by decide)) ["a", "o", "b", "st"] rfl (fun pm cd doc vs hv => ?_) (by decide +kernel) (by decide +kernel) rfl rfl rfl fun C hT hs hc => ?_
  · obtain ⟨_, _, _, _, rfl⟩ := len4 hv; rfl
  subst hT
  show Ex C 3 [("a", .val (.int a)), ("o", .val (.int o)), ("b", .val (.int b)), ("st", .val (.lst (intL st)))] _ _ _ _
  have hval : -1000 ≤ valI a st ∧ valI a st ≤ 1000 := by
    unfold valI
    split
    · omega
    · have hm := Int.emod_nonneg (a % 6) (b := (st.length : Int)) (by omega)
      have hm2 := Int.emod_lt_of_pos (a % 6) (b := (st.length : Int)) (by omega)
      have hlt : (a % 6 % (st.length : Int)).toNat < st.length := by omega
      rw [List.getD_eq_getElem?_getD, List.getElem?_eq_getElem hlt]
      exact hsm _ (List.getElem_mem hlt)
  walk_at "body"
  refine ex_assign (by walk_at "wr") (ev_call (by walk_at "gl") (by decide +kernel) (by walk_at "evl") (fn_value L a st h0 hz) (by omega) rfl) rfl ?_
  refine ex_assign (by walk_at "wr") (ev_call (by walk_at "gl") (by decide +kernel) (by walk_at "evl") (fn_value L b st h0 hz) (by omega) rfl) rfl ?_
  refine ex_assign (by walk_at "wr") (by walk_at "ev") rfl ?_
  have step2 : ∀ σ, Has σ "o" (.val (.int o)) → Has σ "x" (.val (.int (valI a st))) → Has σ "form" (.val (.int ((a + o + b) % 3))) → Has σ "y" (.val (.int (if (a + o + b) % 3 == 1 then (if valI b st == 0 then 1 else 0) else valI b st))) →
      Ex C 3 σ ((bodyOf (fdef 19)).drop 4) (fun _ => False) (fun _ => False) (fun d => d = .int (dueI a o b st)) := by
    intro σ h1 h2 h3 h4
    walk_at "body"
    refine ex_assign (by walk_at "wr") (ev_call (by walk_at "gl") (by decide +kernel) (evL_cons (by walk_at "ev") (by walk_at "evl") (fun _ => rfl)) (fn_op L (o % 8) _ _ (by omega) (by omega) (IntMulOk.of_left (intBits_le_64 (by omega) (by omega)))) (by omega) rfl) rfl ?_
    refine ex_if (by walk_at "tr") (fun h => ?_) (fun h => ?_)
    · refine ex_assign (by walk_at "wr") (d := .int (if opI (o % 8) (valI a st) (if (a + o + b) % 3 == 1 then (if valI b st == 0 then 1 else 0) else valI b st) == 0 then 1 else 0)) (ev_if (by walk_at "tr") (fun e => by rw [if_pos e]; exact ev_int) (fun e => by rw [if_neg (neg_of e)]; exact ev_int)) rfl (ex_nil ?_)
      refine ex_ret (by walk_at "ev") ?_
      unfold dueI
      rw [h]; rfl
    · refine ex_nil (ex_ret (by walk_at "ev") ?_)
      unfold dueI
      rw [h]; rfl
  refine ex_if (by walk_at "tr") (fun h => ?_) (fun h => ?_)
  · refine ex_assign (by walk_at "wr") (d := .int (if valI b st == 0 then 1 else 0)) (ev_if (by walk_at "tr") (fun e => by rw [if_pos e]; exact ev_int) (fun e => by rw [if_neg (neg_of e)]; exact ev_int)) rfl (ex_nil ?_)
    refine step2 _ (by walk_at "lk") (by walk_at "lk") (by walk_at "lk") ?_
    rw [h]; exact lk_self
  · refine ex_nil (step2 _ (by walk_at "lk") (by walk_at "lk") (by walk_at "lk") ?_)
    rw [h]; exact lk_tail (by decide +kernel) lk_self

theorem bit_eq (mk c : Nat) : Builtin.bitAnd ((mk : Int).fdiv (2 ^ ((c : Int).toNat))) 1 = if mk.testBit c then 1 else 0 := by
  have e1 : (mk : Int).fdiv (2 ^ ((c : Int).toNat)) = ((mk / 2 ^ c : Nat) : Int) := by
    rw [Int.fdiv_eq_ediv_of_nonneg _ (by exact Int.le_of_lt (Int.pow_pos (by decide)))]
    simp
  rw [e1]
  unfold Builtin.bitAnd
  have h1 : decide (0 ≤ ((mk / 2 ^ c : Nat) : Int)) = true := decide_eq_true (Int.natCast_nonneg _)
  rw [h1]
  show ((((mk / 2 ^ c : Nat) : Int).toNat &&& (1 : Int).toNat : Nat) : Int) = _
  rw [Int.toNat_natCast, show (1 : Int).toNat = 1 from rfl, Nat.and_one_is_mod, Nat.testBit_eq_decide_div_mod_eq]
  by_cases h : mk / 2 ^ c % 2 = 1
  · simp [h]
  · have : mk / 2 ^ c % 2 = 0 := by omega
    simp [this]

noncomputable def codeI (base n : Int) : List (Str × Int) := if n == 2 then [("var", 0), ("num", base), ("*", 0), ("var", 1), ("+", 0)] else [("var", 0)]
noncomputable def propFrom (mk : Nat) (base n : Int) : List Nat → List (Str × Int) → List (Str × Int)
  | [], made => made
  | c :: r, made => propFrom mk base n r (if mk.testBit c then made else made ++ codeI base n ++ ([("num", (c : Int)), ("-", 0), ("*", 0)] : List (Str × Int)))
noncomputable def propI (mk size : Nat) (base n : Int) : List (Str × Int) := propFrom mk base n (List.range size) [("num", 1)]

theorem codeI_len (base n : Int) : (codeI base n).length ≤ 5 := by unfold codeI; split <;> simp

theorem bit0 {C : Act} {k : Nat} {σ : Sig} {p1 p2 p3 p4 p5 p6 p7 : Pos} {k1 k2 : Nat} {xm xc : Str} {mk c : Nat} (hk : 1 ≤ k) (i : Int) (h1 : Has σ xm (.val (.int mk))) (h2 : Has σ xc (.val (.int c))) (n1 : plainName xm = true) (n2 : plainName xc = true) :
    Tr C k σ (.Compare (.BinOp (.BinOp (.Name xm p1) .RShift (.Name xc p2) p3) .BitAnd (.Constant (.int 1) k1 p4) p5) [.Eq] [.Constant (.int i) k2 p6] p7) ((if mk.testBit c then 1 else 0) == i) := by
  rw [← bit_eq]
  exact tr_cmp (ev_bin (ev_bin (ev_name h1 n1) (ev_name h2 n2) (bin_shr (by omega))) ev_int bin_and) ev_int cmp_eq hk rfl

theorem prop_loop {C : Act} (hs : C.env.scope = scopeOf (fdef 21)) (mk : Nat) (base n : Int) {R : Dat → Prop} {N : Sig → Prop} (fin : List (Str × Int)) (hN : ∀ σ, Has σ "made" (.val (exprD fin)) → N σ) :
    ∀ (cs : List Nat) (made : List (Str × Int)) (σ : Sig), Has σ "made" (.val (exprD made)) → Has σ "code" (.val (exprD (codeI base n))) → Has σ "mask" (.val (.int mk)) → made.length + 8 * cs.length ≤ 10000 → propFrom mk base n cs made = fin →
      Iter C 1 "c" (forBody (stmtAt (bodyOf (fdef 21)) 3)) R N (cs.map fun (i : Nat) => Dat.int (i : Int)) σ := by
  intro cs
  induction cs with
  | nil => intro made σ h1 h2 h3 hz e; cases e; exact hN σ h1
  | cons c r ih =>
    intro made σ h1 h2 h3 hz e
    simp only [List.length_cons] at hz
    have hc := codeI_len base n
    show Ex C 1 (("c", .val (.int c)) :: σ) (forBody (stmtAt (bodyOf (fdef 21)) 3)) (Iter C 1 "c" (forBody (stmtAt (bodyOf (fdef 21)) 3)) R N (r.map fun (i : Nat) => Dat.int (i : Int))) (Iter C 1 "c" (forBody (stmtAt (bodyOf (fdef 21)) 3)) R N (r.map fun (i : Nat) => Dat.int (i : Int))) R
    walk_at "body"
    refine ex_if (bit0 (mk := mk) (c := c) (by omega) 0 (by walk_at "lk") (by walk_at "lk") (by decide +kernel) (by decide +kernel)) (fun h => ?_) (fun h => ?_)
    · have hb : mk.testBit c = false := by
        cases hb : mk.testBit c with
        | false => rfl
        | true => rw [hb] at h; cases h
      unfold propFrom at e
      rw [hb] at e
      have hmade : Ev C 1 (("c", .val (.int c)) :: σ) (.Name "made" default) (.lst (made.map itemD)) := by walk_at "ev"
      refine ex_assign (by walk_at "wr") (d := exprD (made ++ codeI base n ++ ([("num", (c : Int)), ("-", 0), ("*", 0)] : List (Str × Int)))) (EvF.ev ?_) rfl (ex_nil (ex_nil ?_))
      · rw [List.map_append, List.map_append]
        exact evF_cat (EvF.ev (evF_cat (Ev.b (ev_name (lk_tail (by decide +kernel) h1) (by decide +kernel))) (Ev.b (ev_name (lk_tail (by decide +kernel) h2) (by decide +kernel))) (by simp; omega))).b (EvF.ev (evF_list (by walk_at "evl") (by simp))).b (by simp; omega)
      · exact ih _ _ lk_self (by walk_at "lk") (by walk_at "lk") (by simp; omega) e
    · have hb : mk.testBit c = true := by
        cases hb : mk.testBit c with
        | true => rfl
        | false => rw [hb] at h; cases h
      unfold propFrom at e
      rw [hb] at e
      exact ex_nil (ex_nil (ih made _ (by walk_at "lk") (by walk_at "lk") (by walk_at "lk") (by omega) e))

theorem fn_prop {T : Txt} (L : Lib T) (mk size : Nat) (base n : Int) (hz : size ≤ 100) : Fn T 2 "_law_prop" [.int mk, .int size, .int base, .int n] (exprD (propI mk size base n)) := by
  refine fn_at (i := 21) (L.fns 21 (by decide)) ["mask", "size", "base", "n"] rfl (fun pm cd doc vs hv => ?_) (by decide +kernel) (by decide +kernel) rfl rfl rfl fun C hT hs hc => ?_
  · obtain ⟨_, _, _, _, rfl⟩ := len4 hv; rfl
  subst hT
  have rest : ∀ σ, Has σ "code" (.val (exprD (codeI base n))) → Has σ "mask" (.val (.int mk)) → Has σ "size" (.val (.int size)) → Ex C 1 σ ((bodyOf (fdef 21)).drop 2) (fun _ => False) (fun _ => False) (fun d => d = exprD (propI mk size base n)) := by
    intro σ h1 h2 h3
    walk_at "body"
    refine ex_assign (by walk_at "wr") (d := exprD [("num", 1)]) (EvF.ev (evF_list (by walk_at "evl") (by simp))) rfl ?_
    refine ex_forR ⟨by walk_at "gl", L.grange, L.brange⟩ (by walk_at "wr") (by walk_at "ev") rfl (by omega) ?_
    refine prop_loop hs mk base n (propI mk size base n) (fun σ g => ?_) (List.range size) [("num", 1)] _ lk_self (by walk_at "lk") (by walk_at "lk") (by simp; omega) rfl
    exact ex_ret (ev_name g (by decide +kernel)) rfl
  show Ex C 1 [("mask", .val (.int mk)), ("size", .val (.int size)), ("base", .val (.int base)), ("n", .val (.int n))] _ _ _ _
  walk_at "body"
  refine ex_assign (by walk_at "wr") (d := exprD [("var", 0)]) (EvF.ev (evF_list (by walk_at "evl") (by simp))) rfl ?_
  refine ex_if (by walk_at "tr") (fun h => ?_) (fun h => ?_)
  · refine ex_assign (by walk_at "wr") (d := exprD [("var", 0), ("num", base), ("*", 0), ("var", 1), ("+", 0)]) (EvF.ev (evF_list (by walk_at "evl") (by simp))) rfl (ex_nil ?_)
    refine rest _ ?_ (by walk_at "lk") (by walk_at "lk")
    unfold codeI; rw [if_pos h]; exact lk_self
  · refine ex_nil (rest _ ?_ (by walk_at "lk") (by walk_at "lk"))
    unfold codeI; rw [if_neg (neg_of h)]; exact lk_self

structure Lib2 (T : Txt) : Prop extends Lib T where
  gdict : T.mg "dict" = none
  bdict : T.mb "dict" = some (.type "dict")
  genum : T.mg "enumerate" = none
  benum : T.mb "enumerate" = some (.type "enumerate")
  gall : T.mg "all" = none
  ball : T.mb "all" = some (.builtin "all")
  gtype : T.mg "type" = none
  btype : T.mb "type" = some (.type "type")
  gint : T.mg "int" = none
  bint : T.mb "int" = some (.type "int")

noncomputable def enumP : Int → List Int → List (Int × Int)
  | _, [] => []
  | i, d :: r => (i, d) :: enumP (i + 1) r
theorem enumP_eq : ∀ (st : List Int) (i : Int), enumD i (intL st) = (enumP i st).map pairD
  | [], _ => rfl
  | d :: r, i => by
    show Dat.tup [.int i, .int d] :: enumD (i + 1) (intL r) = _
    rw [enumP_eq r (i + 1)]; rfl
theorem enumP_length : ∀ (st : List Int) (i : Int), (enumP i st).length = st.length
  | [], _ => rfl
  | d :: r, i => by show (enumP (i + 1) r).length + 1 = _; rw [enumP_length r]; rfl

noncomputable def newsI (r : Row) (st : List Int) (base : Int) : List (Int × Int) := [(r.t % st.length, dueI r.a r.o r.b st % base), ((r.t + 1) % st.length, dueI r.h r.o r.a st % base)]
noncomputable def afterM (r : Row) (st : List Int) (base : Int) : Int → Option Int := mapOfL (enumP 0 st ++ (newsI r st base).take (r.t % 3).toNat) fun _ => none
noncomputable def afterI (r : Row) (st : List Int) (base : Int) : List Int := (List.range st.length).map fun (i : Nat) => (afterM r st base i).getD 0

theorem mapOfL_append (ps qs : List (Int × Int)) (f : Int → Option Int) : mapOfL (ps ++ qs) f = mapOfL qs (mapOfL ps f) := by
  induction ps generalizing f with
  | nil => rfl
  | cons p r ih => exact ih _
theorem mapOfL_some (ps : List (Int × Int)) {f : Int → Option Int} {x : Int} (h : (f x).isSome = true) : (mapOfL ps f x).isSome = true := by
  induction ps generalizing f with
  | nil => exact h
  | cons p r ih =>
    refine ih ?_
    unfold mapPut
    split
    · rfl
    · exact h
theorem enumP_some : ∀ (st : List Int) (i : Int) (f : Int → Option Int) (x : Int), i ≤ x → x < i + st.length → (mapOfL (enumP i st) f x).isSome = true
  | [], i, f, x, h1, h2 => by simp at h2; omega
  | d :: r, i, f, x, h1, h2 => by
    by_cases hx : x = i
    · refine mapOfL_some (enumP (i + 1) r) ?_
      simp [mapPut, hx]
    · refine enumP_some r (i + 1) _ x (by omega) ?_
      simp only [List.length_cons] at h2; omega

theorem fn_after {T : Txt} (L : Lib2 T) (r : Row) (st : List Int) (base : Int) (h0 : 0 < st.length) (hz : st.length ≤ 100) (hb : 0 < base) (hsm : ∀ v ∈ st, -1000 ≤ v ∧ v ≤ 1000) : Fn T 6 "_law_after" [r.D, .lst (intL st), .int base] (.lst (intL (afterI r st base))) := by
  refine fn_at (i := 20) (L.fns 20 (by decide)) ["r", "st", "base"] rfl (fun pm cd doc vs hv => ?_) (by decide +kernel) (by decide +kernel) rfl rfl rfl fun C hT hs hc => ?_
  · obtain ⟨_, _, _, rfl⟩ := len3 hv; rfl
  subst hT
  have L0 : Lib C.T := L.toLib
  show Ex C 5 [("r", .val r.D), ("st", .val (.lst (intL st))), ("base", .val (.int base))] _ _ _ _
  walk_at "body"
  refine ex_unpack (xs := ["g", "p", "h", "t", "a", "o", "b"]) (.cons (.cons (.cons (.cons (.cons (.cons (.cons .nil))))))) (fun x hx => ?_) (by walk_at "ev") rfl rfl rfl ?_
  · refine wr_of hs ?_
    have : ∀ x ∈ (["g", "p", "h", "t", "a", "o", "b"] : List Str), (scopeOf (fdef 20)).names.lookup x = some .local := by decide +kernel
    exact this x hx
  show Ex C 5 [("b", .val (.int r.b)), ("o", .val (.int r.o)), ("a", .val (.int r.a)), ("t", .val (.int r.t)), ("h", .val (.int r.h)), ("p", .val (.int r.p)), ("g", .val (.int r.g)), ("r", .val r.D), ("st", .val (.lst (intL st))), ("base", .val (.int base))] _ _ _ _
  refine ex_assign (by walk_at "wr") (d := .int st.length) (by rw [← intL_length st]; walk_at "ev") rfl ?_
  refine ex_assign (by walk_at "wr") (d := .lst ((newsI r st base).map pairD)) (EvF.ev (evF_list (ds := (newsI r st base).map pairD) (evL_cons (ev_tup (evL_cons (ev_bin (by walk_at "ev") (by walk_at "ev") (bin_mod (by omega))) (evL_cons (ev_bin (ev_call (by walk_at "gl") (by decide +kernel) (by walk_at "evl") (fn_due L0 r.a r.o r.b st h0 (by omega) hsm) (by omega) rfl) (by walk_at "ev") (bin_mod hb)) evL_nil (fun _ => rfl)) (fun _ => rfl)) (by simp))
      (evL_cons (ev_tup (evL_cons (ev_bin (by walk_at "ev") (by walk_at "ev") (bin_mod (by omega))) (evL_cons (ev_bin (ev_call (by walk_at "gl") (by decide +kernel) (by walk_at "evl") (fn_due L0 r.h r.o r.a st h0 (by omega) hsm) (by omega) rfl) (by walk_at "ev") (bin_mod hb)) evL_nil (fun _ => rfl)) (fun _ => rfl)) (by simp)) evL_nil (fun _ => rfl)) (fun _ => rfl)) (by simp [newsI]))) rfl ?_
  have wr : Wr C "pairs" := .inr ⟨by unfold Env.kindOf; rw [hs]; decide +kernel, hc _ (by decide +kernel)⟩
  refine ex_assign wr (d := .map (afterM r st base)) (ev_dictOf (ps := enumP 0 st ++ (newsI r st base).take (r.t % 3).toNat) (by walk_at "gl") L.gdict L.bdict ?_ ?_ rfl) rfl ?_
  · rw [List.map_append, ← enumP_eq, List.map_take]
    refine (EvF.ev (evF_cat (EvF.ev (evF_listEnum (by walk_at "gl") L0.glist L0.blist (by walk_at "gl") L.genum L.benum (by walk_at "ev") (by simp; omega) rfl)).b (EvF.ev (evF_upto (by walk_at "evb") (by walk_at "ev") (by omega) (by simp [newsI]))).b ?_)).b
    have e1 : (enumD 0 (intL st)).length = st.length := by rw [enumP_eq, List.length_map, enumP_length]
    rw [e1]; simp [newsI]; omega
  · rw [List.length_append, enumP_length]; simp [newsI]; omega
  refine ex_ret (d := .lst (intL (afterI r st base))) ?_ rfl
  have e : intL (afterI r st base) = ((rangeD st.length).filter fun _ => true).map fun d => match d with | .int i => .int ((afterM r st base i).getD 0) | d => d := by
    rw [List.filter_eq_self.mpr (fun _ _ => rfl), intL, afterI, rangeD, List.map_map, List.map_map]; rfl
  rw [e]
  refine EvF.ev (evF_comp (σc := [("pairs", .val (.map (afterM r st base)))]) (fun _ => true) _ (compOk_of hs hc (.cons (by walk_at "lk") .nil) (fs := ["pairs"]) rfl (by decide +kernel)) (src_range ⟨by walk_at "gl", L0.grange, L0.brange⟩ (m := st.length) (by walk_at "ev") rfl (by omega)) rfl (by rw [rangeD_length]; omega) fun Lc d hd => ⟨tst_nil, fun _ => ?_⟩)
  obtain ⟨j, hj, rfl⟩ := List.mem_map.mp hd
  have hj' : j < st.length := List.mem_range.mp hj
  have hsome : (afterM r st base j).isSome = true := by
    unfold afterM; rw [mapOfL_append]
    exact mapOfL_some _ (enumP_some st 0 _ j (by omega) (by omega))
  obtain ⟨v, hv⟩ := Option.isSome_iff_exists.mp hsome
  refine ev_idxM (by walk_at "ev") (by walk_at "ev") ?_ rfl
  rw [hv]; rfl

noncomputable abbrev tabObj (ps : Array Value) : Obj := { cls := .none, data := .fields ps }
noncomputable def TabX : Option Obj → Prop := fun o => ∃ ps, o = some (tabObj ps) ∧ TriplesOk ps.toList
noncomputable def CodeQ (H : PMap) (c Pt : Addr) : Prop := (∃ o vs file tf flags tg inF text tt, H c = some o ∧ o.data = .fields vs ∧ vs.getD 11 .none = .ref Pt ∧ vs.getD 18 .none = .str file tf ∧ vs.getD 7 .none = .int flags tg ∧ vs.getD 9 .none = .bool inF ∧ vs.getD 10 .none = .int text tt ∧ c ≠ Pt) ∧
  ∃ o vs, H c = some o ∧ o.cls = .type "code" ∧ o.data = .fields vs ∧ vs[11]? = some (.ref Pt)

theorem genexpr_any {M : Model} {A : Around} {E : Value → Shared → Prop} {s : Shared} {env : Env} {c P : Addr} {ps : Array Value} {pos : Pos} {qualname : Str} {scope : Scope} {Q : Value → Shared → Prop} (hc : env.code = .ref c) (hok : s.heap.IsCode c P ps) (htab : s.heap.TableAt c P ps)
    (hQ : ∀ code h' tk ps', Heap.ExtBut P s.heap h' → h'.get? P = some (tabObj ps') → TriplesOk ps'.toList → Q code { s with heap := h', toks := tk }) : wpAny M A (genexprCode env pos qualname scope) Q E s := by
  cases hnf : codeAmong pos ps.toList with
  | none =>
    refine wpAny_genexprCodeX hc hok htab hnf fun c' h' tk hx _ _ hok' _ htab' _ => hQ _ h' tk _ hx htab'.2 ?_
    obtain ⟨_, _, _, _, _, _, _, _, _, op, _, _, _, _, _, _, _, e1, e2, e3, _⟩ := hok'
    exact e3
  | some cv =>
    obtain ⟨o, vs, file, tf, flags, tg, inF, text, tt, op, ho, hd, h11, h2, h7, h9, h10, hop, hpd, htr, hne⟩ := id hok
    unfold genexprCode codeAt
    rw [hc, if_neg (show ¬ ((Value.ref c == Value.none) = true) from Bool.false_ne_true)]
    refine wpAny_bind (wpAny_fieldsOf ho hd ?_)
    rw [h11]
    refine wpAny_bind (wpAny_fieldsOf hop hpd ?_)
    rw [hnf]
    exact wpAny_pure (hQ cv s.heap s.toks ps (Heap.ExtBut.refl _ _) htab.2 htr)

structure GenOk (C : Act) (c Pt bm : Addr) (ob : Obj) : Prop where
  code : C.env.code = .ref c
  P : C.P = some Pt
  X : C.X = TabX
  rec_ : CodeQ C.T.H c Pt
  name : C.T.mg "__builtins__" = some (.ref bm)
  ne : bm ≠ builtinsNs
  obj : C.T.H bm = some ob
  cls : ob.cls = .type "module"
  dict : ob.dict = some builtinsNs
  data : ob.data = .plain

section
variable {C : Act} {k : Nat} {σ : Sig} {β : Bs} {c Pt bm : Addr} {ob : Obj}

theorem GenOk.isCode (g : GenOk C c Pt bm ob) {G : PMap} {s : Shared} (I : Inv C β σ G s) : ∃ ps, s.heap.IsCode c Pt ps ∧ s.heap.TableAt c Pt ps := by
  obtain ⟨⟨o, vs, file, tf, flags, tg, inF, text, tt, h1, h2, h3, h4, h5, h6, h7, h8⟩, o', vs', k1, k2, k3, k4⟩ := g.rec_
  obtain ⟨x, _⟩ := I.tab Pt g.P
  rw [g.X] at x
  obtain ⟨ps, e1, e3⟩ := x
  exact ⟨ps, ⟨o, vs, file, tf, flags, tg, inF, text, tt, _, I.sub _ _ (I.text _ _ h1), h2, h3, h4, h5, h6, h7, e1, rfl, e3, h8⟩, ⟨o', vs', I.sub _ _ (I.text _ _ k1), k2, k3, k4⟩, e1⟩

/-- a run that turns the text's table and objects of its own alone -/
theorem gen_stp {G : PMap} {s1 s' : Shared} (g : GenOk C c Pt bm ob) (I : Inv C β σ G s1) (k' : ∀ b o, b ≠ Pt → s1.heap.get? b = some o → s'.heap.get? b = some o) (x' : TabX (s'.heap.get? Pt)) (os : s'.os = s1.os) (gens : AllBare s'.gens) : Stp C G s1 G s' := by
  refine ⟨.refl _, fun b o e hp => k' b o (fun h => hp (h ▸ g.P)) e, fun b e => ?_, fun b o e => .inl e, fun b o e => ?_, os, fun _ => gens, fun p hp _ => ?_⟩
  · by_cases hb : b = Pt
    · obtain ⟨_, h, _⟩ := x'
      rw [hb, h] at e; cases e
    · cases h : s1.heap.get? b with
      | none => rfl
      | some o => have := k' b o hb h; rw [e] at this; cases this
  · exact k' b o (fun h => by rw [h, (I.off Pt g.P).2] at e; cases e) (I.sub _ _ e)
  · rw [g.P] at hp; cases hp; rw [g.X]; exact x'

/-- what holds while the generator runs, seen from the frame around -/
noncomputable abbrev Kept (C : Act) (s1 s2 : Shared) : Prop := ∀ b o, s1.heap.get? b = some o → C.P ≠ some b → s2.heap.get? b = some o

theorem all_rangeO {β : Type} (B : List β) (q : β → Bool) : (List.range B.length).all (fun j => (B[j]?.map q).getD true) = B.all q := by
  rw [Bool.eq_iff_iff, List.all_eq_true, List.all_eq_true]
  constructor
  · intro h b hb
    obtain ⟨j, hj, rfl⟩ := List.getElem_of_mem hb
    simpa [List.getElem?_eq_getElem hj] using h j (List.mem_range.mpr hj)
  · intro h j hj
    have hj' := List.mem_range.mp hj
    simp [List.getElem?_eq_getElem hj', h _ (List.getElem_mem hj')]
theorem filter_pass {α : Type} (es : List α) (p : α → Bool) (q : α → Bool) (d : α) :
    (List.range (passing (fun i => (es[i]?.map p).getD false) es.length 0).length).all (fun j => ((passing (fun i => (es[i]?.map p).getD false) es.length 0)[j]?.map fun i => (es[i]?.map q).getD true).getD true) = (es.filter p).all q := by
  have hpass : passing (fun i => (es[i]?.map p).getD false) es.length 0 = (List.range es.length).filter fun i => (es[i]?.map p).getD false := by simp [passing]
  rw [hpass]
  generalize hB : (List.range es.length).filter (fun i => (es[i]?.map p).getD false) = B
  rw [all_rangeO B (fun i => (es[i]?.map q).getD true)]
  have hidx := idx_map es p
  rw [hB] at hidx
  have e1 : B.all (fun i => (es[i]?.map q).getD true) = (B.map (fun i => es[i]?)).all (fun o => (o.map q).getD true) := by rw [List.all_map]; rfl
  rw [e1, hidx, List.all_map]
  rfl

theorem tr_allT {iter elt : Expr} {ifs : List Expr} {xa xb : Str} {pa pb pt pos pos' pn : Pos} {kt : Nat} {scope : Scope} {es : List (Nat × Nat)} (p q : Nat × Nat → Bool)
    (hk : C.env.kindOf "all" = some .globalImplicit) (hg : C.T.mg "all" = none) (hb : C.T.mb "all" = some (.builtin "all")) (g : GenOk C c Pt bm ob)
    (hiter : Ev C k σ iter (.lst (es.map fun e => .tup [.int e.1, .int e.2]))) (hfold : ∀ env x, genFold iter env x = pure x)
    (hco : scope.isCoroutine = false) (hcell : ∀ y ∈ scope.names, y.2 ≠ .cell) (h0 : scope.names.lookup (".0" : Str) = some NameKind.local) (hxa : scope.names.lookup xa = some .local) (hxb : scope.names.lookup xb = some .local) (hab : xa ≠ xb) (hkind : scope.kind = .function)
    (hfree : ∀ y ∈ scope.names, y.2 = .free → ∃ c, C.env.cells.lookup y.1 = some c) (hk1 : 1 ≤ k)
    (hq1 : ∀ (β : Bs) (G1 : PMap) (s1 : Shared), Inv C β σ G1 s1 → ∀ (L : Addr) (code : Value) (A' : Around) (E' : Value → Shared → Prop) (a b : Nat) (ta tb : Tok) (s2 : Shared) m2, (a, b) ∈ es → s2.heap.Ns L m2 → m2 xa = some (.int a ta) → m2 xb = some (.int b tb) → Kept C s1 s2 →
      wpAny (model C.T.prog C.T.w) A' (forIn ifs true fun c r => if r = true then do let ok ← isTrue c (genEnv scope (clo C.env.cells scope.names []) L code builtinsNs C.env) (eval c (genEnv scope (clo C.env.cells scope.names []) L code builtinsNs C.env)); pure (ForInStep.yield ok) else pure (ForInStep.yield r)) (fun ok s3 => ok = p (a, b) ∧ Keeps s2 s3) E' s2)
    (hq2 : ∀ (β : Bs) (G1 : PMap) (s1 : Shared), Inv C β σ G1 s1 → ∀ (L : Addr) (code : Value) (A' : Around) (E' : Value → Shared → Prop) (a b : Nat) (ta tb : Tok) (s2 : Shared) m2, (a, b) ∈ es → s2.heap.Ns L m2 → m2 xa = some (.int a ta) → m2 xb = some (.int b tb) → Kept C s1 s2 →
      wpAny (model C.T.prog C.T.w) A' (eval elt (genEnv scope (clo C.env.cells scope.names []) L code builtinsNs C.env)) (fun y s3 => y = .bool (q (a, b)) ∧ Keeps s2 s3) E' s2) :
    Tr C k σ (.Call (.Name "all" pn) [.GeneratorExp elt [⟨.Tuple [.Name xa pa, .Name xb pb] kt pt, iter, ifs, 0⟩] scope pos] [] pos') ((es.filter p).all q) := by
  intro β A G s Q E hr I h
  refine wpAny_isTrue_value (callBuiltin (id := "all") I hk (by decide +kernel) hg hb ?_)
  refine Calls.callWith_builtin (backTo_plain _ _ rfl) ?_
  rw [starEach_plain rfl C.env]
  refine Calls.evalArgs_plain (Calls.spliced_cons ?_)
  have hclos : closureFor scope C.env = pure (clo C.env.cells scope.names []) := closureFor_eq fun y hy hf => hfree y hy hf
  refine wpAny_GeneratorExp_walksQTD hr.1 hco hclos hcell h0 hxa hxb hab hkind (by have := hr.2.1; omega) (hiter β A G s _ E hr I fun G1 s1 v st1 r1 => ?_) (hfold _)
  have I1 := I.step st1
  generalize hds : (es.map fun e => Dat.tup [.int e.1, .int e.2]) = ds at r1
  cases r1 with
  | lst ha hd =>
    rename_i l vs n
    subst hds
    have hl : s1.heap.get? l = some (listObj vs n) := I1.sub _ _ ha
    have hlen : vs.length = es.length := by rw [hd.length, List.length_map]
    refine wpAny_pyIter_list (isList_of hl) ?_
    have gI := Grow.alloc (o := { cls := .type "list_iterator", data := .fields #[.ref l, .int 0 0] }) (tk := s1.toks) I1.sub
    have I2 := I1.step (I1.grow gI)
    have hIn : s1.heap.get? s1.heap.objs.size = none := get?_size
    have hk2 : ∀ b o, s1.heap.get? b = some o → (s1.heap.push { cls := .type "list_iterator", data := .fields #[.ref l, .int 0 0] }).get? b = some o := fun b o e => Heap.get?_push_of_some _ e
    have hI2 : (s1.heap.push { cls := .type "list_iterator", data := .fields #[.ref l, .int 0 0] }).IsListIter s1.heap.objs.size l 0 := ⟨_, Heap.get?_push_size _ rfl, rfl, rfl⟩
    generalize hIa : s1.heap.objs.size = Ia at hIn hI2
    generalize hh2 : s1.heap.push { cls := .type "list_iterator", data := .fields #[.ref l, .int 0 0] } = h2 at gI I2 hk2 hI2
    refine ⟨I2.nolimit, ?_⟩
    obtain ⟨ps, hcode, htab⟩ := g.isCode I2
    refine genexpr_any g.code hcode htab fun code h3 tk3 ps' hx3 hP3 hT3 => ?_
    have hk3 : ∀ b o, b ≠ Pt → s1.heap.get? b = some o → h3.get? b = some o := fun b o hb e => hx3 b o hb (hk2 b o e)
    have offP : ∀ b o, G1 b = some o → b ≠ Pt := fun b o e hb => by rw [hb, (I1.off Pt g.P).2] at e; cases e
    have hH3 : Sub C.T.H h3.get? := fun b o e => hk3 b o (offP b o (I1.text _ _ e)) (I1.sub _ _ (I1.text _ _ e))
    have hgl : h3.Ns C.env.globals C.T.mg := by rw [C.hg]; exact C.T.g.at hH3
    refine wpAny_builtinsFor hgl g.name g.ne (hH3 _ _ g.obj) g.cls g.dict g.data ?_
    -- the items
    have item : ∀ j, j < vs.length → ∃ (T : Addr) (a b : Nat) (ta tb : Tok) (tn : Nat), vs[j]? = some (.ref T) ∧ es[j]? = some (a, b) ∧ G1 T = some (tupObj [.int a ta, .int b tb] tn) := by
      intro j hj
      have hj' : j < es.length := by omega
      obtain ⟨v, hv, hrep⟩ := hd.get (k := j) (d := .tup [.int (es[j]).1, .int (es[j]).2]) (by simp [hj'])
      generalize hdd : Dat.tup [.int (es[j]).1, .int (es[j]).2] = dd at hrep
      cases hrep with
      | tup h1 h2 =>
        rename_i T tvs tn ds
        cases hdd
        cases h2 with
        | cons r1 r2 => cases r2 with
          | cons r2 r3 => cases r3; cases r1; cases r2; exact ⟨T, _, _, _, _, _, hv, by simp [hj'], h1⟩
      | _ => cases hdd
    let Ts : Nat → Addr := fun j => match vs[j]? with | some (.ref T) => T | _ => 0
    have Ts_eq : ∀ j T, vs[j]? = some (.ref T) → Ts j = T := fun j T e => by show (match vs[j]? with | some (.ref T) => T | _ => 0) = T; rw [e]
    let vals : Nat → Array Value := fun j => match h3.get? (Ts j) with | some o => (match o.data with | .seq xs _ => xs | _ => #[]) | none => #[]
    have valsAt : ∀ j, j < vs.length → ∃ (a b : Nat) (ta tb : Tok), es[j]? = some (a, b) ∧ vals j = #[.int a ta, .int b tb] ∧ h3.IsTuple (Ts j) (vals j) ∧ vs[j]? = some (.ref (Ts j)) ∧ (∃ o, G1 (Ts j) = some o) := by
      intro j hj
      obtain ⟨T, a, b, ta, tb, tn, e1, e2, e3⟩ := item j hj
      have eT := Ts_eq j T e1
      have h3T : h3.get? T = some (tupObj [.int a ta, .int b tb] tn) := hk3 T _ (offP _ _ e3) (I1.sub _ _ e3)
      have ev : vals j = #[.int a ta, .int b tb] := by
        show (match h3.get? (Ts j) with | some o => (match o.data with | .seq xs _ => xs | _ => #[]) | none => #[]) = _
        rw [eT, h3T]
      refine ⟨a, b, ta, tb, e2, ev, ?_, by rw [eT]; exact e1, by rw [eT]; exact ⟨_, e3⟩⟩
      rw [ev, eT]
      exact ⟨_, h3T, rfl, tn, rfl⟩
    have lI : l ≠ Ia := fun e => by rw [e] at hl; rw [hIn] at hl; cases hl
    have TI : ∀ j, j < vs.length → Ts j ≠ Ia := fun j hj e => by
      obtain ⟨_, _, _, _, _, _, _, _, o, ho⟩ := valsAt j hj
      have := I1.sub _ _ ho; rw [e, hIn] at this; cases this
    have hPl : l ≠ Pt := offP _ _ ha
    have IP : Ia ≠ Pt := fun e => (I1.tab Pt g.P).2 (e ▸ hIn)
    have W := fun (A' : Around) (hA : A'.handled = none) => (WalksU.listOfTuples (prog := C.T.prog) (w := C.T.w) hA Ia l lI vs.toArray Ts vals (fun j hj => by
        have hj' : j < vs.length := by simpa using hj
        obtain ⟨_, _, _, _, _, _, _, e, _⟩ := valsAt j hj'
        simpa using e) (fun j hj => TI j (by simpa using hj))).bound
    refine ⟨Ia, _, _, _, _, _, _, (fun i => (es[i]?.map p).getD false), (fun i y => ∃ e, es[i]? = some e ∧ y = .bool (q e)), rfl, W, ?_, ?_, ?_, ?_, ?_, ?_, ?_⟩
    · rintro i w ⟨hi, rfl⟩
      obtain ⟨a, b, ta, tb, _, e, _⟩ := valsAt i (by simpa using hi)
      exact ⟨_, _, e⟩
    · refine ⟨?_, isList_of (hk3 _ _ hPl hl), fun j hj => ?_⟩
      · obtain ⟨o, ho, r⟩ := hI2; exact ⟨o, hx3 _ _ IP ho, r⟩
      · obtain ⟨_, _, _, _, _, _, e, _⟩ := valsAt j (by simpa using hj); exact e
    · intro b hb
      have ex : ∀ b o, h3.get? b = some o → b < h3.objs.size := fun b o e => Heap.lt_size e
      simp only [List.mem_cons, List.mem_map, List.mem_range] at hb
      rcases hb with rfl | rfl | ⟨j, hj, rfl⟩
      · obtain ⟨o, ho, _⟩ := hI2; exact ex _ _ (hx3 _ _ IP ho)
      · exact ex _ _ (hk3 _ _ hPl hl)
      · obtain ⟨_, _, _, _, _, _, ⟨o, ho, _⟩, _⟩ := valsAt j (by simpa using hj); exact ex _ _ ho
    · exact C.T.nolimit (.refl _) hH3
    · intro hm
      simp only [List.mem_singleton] at hm
      obtain ⟨mc, ⟨o, es', ep, ho, _⟩, _⟩ := C.T.lim
      have := I1.sub _ _ (I1.text _ _ ho); rw [hm, hIn] at this; cases this
    · intro href hhref
      have kept : ∀ (s2 : Shared), (∀ b ∈ List.range h3.objs.size, b ∉ [Ia] → ∀ o, href.get? b = some o → s2.heap.get? b = some o) → Kept C s1 s2 := fun s2 hkp b o e hp => by
        have e3 := hk3 b o (fun h => hp (h ▸ g.P)) e
        exact hkp b (List.mem_range.mpr (Heap.lt_size e3)) (fun hm => by simp only [List.mem_singleton] at hm; rw [hm, hIn] at e; cases e) o (hhref b o e3)
      constructor
      · rintro A' E' i va vb s2 m2 hA hD hU ⟨hi, hv⟩ hn hma hmb hkp
        obtain ⟨a, b, ta, tb, e1, e2, _⟩ := valsAt i (by simpa using hi)
        rw [e2] at hv
        have := Array.mk.inj hv
        simp only [List.cons.injEq, and_true] at this
        obtain ⟨rfl, rfl⟩ := this
        refine wpAny_mono (hq1 β G1 s1 I1 _ code A' E' a b ta tb s2 m2 (List.mem_of_getElem? e1) hn hma hmb (kept s2 hkp)) (fun ok s3 r => ⟨r.1.trans (by simp [e1]), r.2⟩) fun _ _ e => e
      · rintro A' E' i va vb s2 m2 hA hD hU ⟨hi, hv⟩ hp hn hma hmb hkp
        obtain ⟨a, b, ta, tb, e1, e2, _⟩ := valsAt i (by simpa using hi)
        rw [e2] at hv
        have := Array.mk.inj hv
        simp only [List.cons.injEq, and_true] at this
        obtain ⟨rfl, rfl⟩ := this
        refine wpAny_mono (hq2 β G1 s1 I1 _ code A' E' a b ta tb s2 m2 (List.mem_of_getElem? e1) hn hma hmb (kept s2 hkp)) (fun y s3 r => ⟨⟨_, e1, r.1⟩, r.2⟩) fun _ _ e => e
    · intro a h5 tk gs hgb hag hsz5 hk5 WS hat
      refine Calls.spliced_nil ?_
      have WS1 := WS.in4_1
      refine call_all_walkS (WS1.self 0 _ _ _ hat ⟨a, _, _, _, _, _, _, (fun j => ((passing (fun i => (es[i]?.map p).getD false) vs.toArray.size 0)[j]?.map fun i => (es[i]?.map q).getD true).getD true), rfl, WS1, hat, ?_, fun s' hm => ?_⟩)
      · rintro j v s2 Q2 E2 ⟨i, hi, e, he, rfl⟩ hQ2
        refine wpAny_truthy_bool ?_
        have hQ3 : Q2 (((passing (fun i => (es[i]?.map p).getD false) vs.toArray.size 0)[j]?.map fun i => (es[i]?.map q).getD true).getD true) s2 := hQ2
        rw [hi, Option.map_some, Option.getD_some, he, Option.map_some, Option.getD_some] at hQ3
        exact hQ3
      · have hsz : vs.toArray.size = es.length := by simp [hlen]
        rw [hsz, filter_pass es p q (0, 0)]
        have k' : ∀ b o, b ≠ Pt → s1.heap.get? b = some o → s'.heap.get? b = some o := fun b o hb e => by
          have e3 := hk3 b o hb e
          refine hm.heap b o (fun hmem => ?_) (hk5 b o e3)
          simp only [List.mem_cons, List.not_mem_nil, or_false] at hmem
          rcases hmem with h | h
          · exact absurd (h ▸ Heap.lt_size e3) (Nat.lt_irrefl _)
          · rw [h, hIn] at e; cases e
        have x' : TabX (s'.heap.get? Pt) := by
          refine ⟨ps', hm.heap Pt _ (fun hmem => ?_) (hk5 _ _ hP3), hT3⟩
          simp only [List.mem_cons, List.not_mem_nil, or_false] at hmem
          rcases hmem with h | h
          · exact absurd (h ▸ Heap.lt_size hP3) (Nat.lt_irrefl _)
          · exact IP h.symm
        have gens' : AllBare s'.gens := AllBare.movedS (AllBare.push I1.gens hgb) hm
        exact wpAny_truthy_bool (h G1 s' (st1.trans (gen_stp g I1 k' x' hm.os gens')))
end

mutual
noncomputable def toW : Dat → PySem.W.Dat
  | .none => .none
  | .bool b => .bool b
  | .int i => .int i
  | .str x => .str x
  | .tup ds => .tuple (toWs ds)
  | .lst ds => .list (toWs ds)
  | .map _ => .bool true
noncomputable def toWs : List Dat → List PySem.W.Dat
  | [] => []
  | d :: r => toW d :: toWs r
end
theorem toWs_eq (ds : List Dat) : toWs ds = ds.map toW := by
  induction ds with
  | nil => rfl
  | cons d r ih => rw [toWs, ih]; rfl

noncomputable abbrev okW (n : Nat) (d : Dat) : Bool := PySem.W.kqdOk n (toW d)

theorem reads_of {G : PMap} {h : Heap} (hs : Sub G h.get?) : ∀ (n : Nat) {v : Value} {d : Dat}, Rep G v d → okW n d = true → ∃ as, Reads h v (PySem.W.kqdP (toW d)) as := by
  have all : ∀ n, (∀ {v : Value} {d : Dat}, Rep G v d → okW n d = true → ∃ as, Reads h v (PySem.W.kqdP (toW d)) as) → ∀ (ds : List Dat) (vs : List Value), Reps G vs ds → (∀ d ∈ ds, okW n d = true) → ∃ as, ReadsAll h vs (PySem.W.kqdPs (toWs ds)) as := by
    intro n ih ds
    induction ds with
    | nil => intro vs hr _; cases hr; exact ⟨_, ReadsAll.nil⟩
    | cons d r hi =>
      intro vs hr hk
      cases hr with
      | cons h1 h2 =>
        obtain ⟨as, q⟩ := ih h1 (hk d (.head _))
        obtain ⟨bs, p⟩ := hi _ h2 fun e he => hk e (.tail _ he)
        rw [toWs, PySem.W.kqdPs]
        exact ⟨_, ReadsAll.cons q p⟩
  intro n
  induction n with
  | zero =>
    intro v d hr hk
    cases hr with
    | none => exact ⟨_, by rw [toW, PySem.W.kqdP]; exact Reads.none⟩
    | bool b => exact ⟨_, by rw [toW, PySem.W.kqdP]; exact Reads.bool b⟩
    | int i t => exact ⟨_, by rw [toW, PySem.W.kqdP]; exact Reads.int i t⟩
    | str x t => exact ⟨_, by rw [toW, PySem.W.kqdP]; exact Reads.str x t⟩
    | tup _ _ => simp [okW, toW, PySem.W.kqdOk] at hk
    | lst _ _ => simp [okW, toW, PySem.W.kqdOk] at hk
    | map _ _ _ _ _ => simp [okW, toW, PySem.W.kqdOk] at hk
  | succ n ih =>
    intro v d hr hk
    cases hr with
    | none => exact ⟨_, by rw [toW, PySem.W.kqdP]; exact Reads.none⟩
    | bool b => exact ⟨_, by rw [toW, PySem.W.kqdP]; exact Reads.bool b⟩
    | int i t => exact ⟨_, by rw [toW, PySem.W.kqdP]; exact Reads.int i t⟩
    | str x t => exact ⟨_, by rw [toW, PySem.W.kqdP]; exact Reads.str x t⟩
    | tup ha hd =>
      rename_i a vs m ds
      have hk' : ∀ d ∈ ds, okW n d = true := by simpa [okW, toW, PySem.W.kqdOk, toWs_eq] using hk
      obtain ⟨as, q⟩ := all n ih ds vs hd hk'
      exact ⟨_, by rw [toW, PySem.W.kqdP]; exact reads_tuple_at (hs _ _ ha) rfl rfl (by simpa using q)⟩
    | lst ha hd =>
      rename_i a vs m ds
      have hk' : ∀ d ∈ ds, okW n d = true := by simpa [okW, toW, PySem.W.kqdOk, toWs_eq] using hk
      obtain ⟨as, q⟩ := all n ih ds vs hd hk'
      exact ⟨_, by rw [toW, PySem.W.kqdP]; exact reads_list_at (hs _ _ ha) rfl rfl (by simpa using q)⟩
    | map _ _ _ _ _ => simp [okW, toW, PySem.W.kqdOk] at hk

section
variable {C : Act} {k : Nat} {σ : Sig}

theorem tr_neD {l r : Expr} {pos : Pos} {d1 d2 : Dat} {b : Bool} (h1 : Ev C k σ l d1) (h2 : Ev C k σ r d2) (o1 : okW 9 d1 = true) (o2 : okW 9 d2 = true) (hb : b = false ↔ toW d1 = toW d2) (hk : 4 ≤ k) (hm : behindInMarks .NotEq r = false) : Tr C k σ (.Compare l [.NotEq] [r] pos) b := by
  intro β A G s Q E hr I h
  refine wpAny_isTrue_Compare1 (h1 β A G s _ E hr I fun G1 s1 v1 st1 r1 => h2 β A G1 s1 _ E hr (I.step st1) fun G2 s2 v2 st2 r2 => ?_) hm
  obtain ⟨as, ra⟩ := reads_of st2.sub' 9 (r1.mono st2.sub) o1
  obtain ⟨bs, rb⟩ := reads_of st2.sub' 9 r2 o2
  have la := PySem.W.kqd_lay 9 _ o1
  have lb := PySem.W.kqd_lay 9 _ o2
  have e : (!PyData.eqv (PySem.W.kqdP (toW d1)) (PySem.W.kqdP (toW d2))) = b := by
    have q := PySem.W.kqd_eqv 9 (toW d1) (toW d2) 9 o1 o2
    cases hq : PyData.eqv (PySem.W.kqdP (toW d1)) (PySem.W.kqdP (toW d2)) with
    | true => exact (hb.mpr (q.mp hq)).symm
    | false =>
      cases b with
      | true => rfl
      | false => have := q.mpr (hb.mp rfl); rw [hq] at this; cases this
  refine ne_dataH ra rb ?_ ?_ (by have := hr.2.2; omega) ?_
  · unfold SeqAt.shaped; rw [la.1, Bool.true_and]; exact decide_eq_true (Nat.le_trans la.2 (by decide))
  · unfold SeqAt.shaped; rw [lb.1, Bool.true_and]; exact decide_eq_true (Nat.le_trans lb.2 (by decide))
  · rw [e]
    exact wpAny_truthy_bool (h G2 s2 (st1.trans st2))

theorem okW_ints (n : Nat) (ns : List Int) : okW (n + 1) (.lst (intL ns)) = true := by
  simp [okW, toW, PySem.W.kqdOk, toWs_eq, intL]
theorem toW_ints {a b : List Int} : toW (.lst (intL a)) = toW (.lst (intL b)) ↔ a = b := by
  have inj : ∀ a b : List Int, toWs (intL a) = toWs (intL b) → a = b := by
    intro a
    induction a with
    | nil => intro b h; cases b with
      | nil => rfl
      | cons _ _ => simp [intL, toWs] at h
    | cons x r ih => intro b h; cases b with
      | nil => simp [intL, toWs] at h
      | cons y t =>
        simp only [intL, List.map_cons, toWs, toW, List.cons.injEq, PySem.W.Dat.int.injEq] at h
        rw [h.1, ih t h.2]
  constructor
  · intro h; rw [toW, toW] at h; exact inj a b (PySem.W.Dat.list.inj h)
  · intro h; rw [h]
theorem tr_neI {l r : Expr} {pos : Pos} {a b : List Int} (h1 : Ev C k σ l (.lst (intL a))) (h2 : Ev C k σ r (.lst (intL b))) (hk : 4 ≤ k) (hm : behindInMarks .NotEq r = false) : Tr C k σ (.Compare l [.NotEq] [r] pos) (!decide (a = b)) :=
  tr_neD h1 h2 (okW_ints 8 a) (okW_ints 8 b) (by rw [toW_ints]; simp) hk hm

theorem kqdPs_ints (b : List Int) : PySem.W.kqdPs (toWs (intL b)) = b.map PyData.int := by
  induction b with
  | nil => rfl
  | cons x r ih =>
    show PySem.W.kqdPs (toW (.int x) :: toWs (intL r)) = _
    rw [PySem.W.kqdPs, ih]; rfl
theorem any_ints (a : Int) (b : List Int) : ((b.map PyData.int).any fun y => PyData.eqv y (.int a)) = decide (a ∈ b) := by
  induction b with
  | nil => simp
  | cons x r ih =>
    rw [List.map_cons, List.any_cons, ih]
    have e3 : PyData.eqv (.int x) (.int a) = decide (a = x) := by
      simp only [PyData.eqv]
      rw [Bool.eq_iff_iff, beq_iff_eq, decide_eq_true_eq]
      exact ⟨fun h => h.symm, fun h => h.symm⟩
    rw [e3]
    simp [List.mem_cons, Bool.decide_or]

theorem tr_inI {l r : Expr} {pos : Pos} {a : Int} {b : List Int} (h1 : Ev C k σ l (.int a)) (h2 : Ev C k σ r (.lst (intL b))) (hk : 4 ≤ k) (hm : behindInMarks .In r = false) : Tr C k σ (.Compare l [.In] [r] pos) (decide (a ∈ b)) := by
  intro β A G s Q E hr I h
  refine wpAny_isTrue_Compare1 (h1 β A G s _ E hr I fun G1 s1 v1 st1 r1 => h2 β A G1 s1 _ E hr (I.step st1) fun G2 s2 v2 st2 r2 => ?_) hm
  obtain ⟨bs, rb⟩ := reads_of st2.sub' 9 r2 (okW_ints 8 b)
  have rb' : Reads s2.heap v2 (.list (b.map PyData.int)) bs := by
    rw [← kqdPs_ints]; exact rb
  obtain ⟨t, rfl⟩ : ∃ t, v1 = .int a t := by cases r1; exact ⟨_, rfl⟩
  refine SeqAt.in_list_reads rb' (Reads.int a t) (PySem.W.ke_canLayAll0 b) rfl (by rw [PySem.W.ke_depthAll]; have := hr.2.2; simp; omega) ?_
  rw [any_ints]
  exact wpAny_truthy_bool (h G2 s2 (st1.trans st2))

/-- x.index(e), x a settled list of lists of whole numbers -/
theorem ev_index {x : Str} {px apos pos : Pos} {e : Expr} {bs : List (List Int)} {a : List Int} {j : Nat} (hx : Ev C k σ (.Name x px) (.lst (bs.map fun b => .lst (intL b)))) (he : Ev C k σ e (.lst (intL a))) (hj : bs[j]? = some a) (hno : ∀ m, m < j → bs[m]? ≠ some a) (hz : bs.length ≤ 1000) (hk : 4 ≤ k) (hp : plainArg e = true) (hline : (apos.endLine == pos.line) = true) :
    Ev C k σ (.Call (.Attribute (.Name x px) "index" apos) [e] [] pos) (.int j) := by
  intro β A G s Q E hr I h
  have ht : backTo pos (starEach [e] C.env) = [(false, eval e C.env)] := by rw [starEach_plain hp]; rfl
  refine wpAny_Call_method rfl (by rw [ht]; rfl) hline F.plainAttrs_list F.slot_list_index rfl (hx β A G s _ E hr I fun G1 s1 v st1 r1 => ?_)
  have I1 := I.step st1
  generalize hds : (bs.map fun b => Dat.lst (intL b)) = ds at r1
  cases r1 with
  | lst ha hd =>
    rename_i l vs n
    have hl : s1.heap.get? l = some (listObj vs n) := I1.sub _ _ ha
    refine ⟨⟨_, hl, rfl⟩, fun a e => by cases e; exact ⟨_, hl, rfl⟩, ?_⟩
    rw [ht]
    refine seqMethod1_meets F.slot_list_index F.entry_list_index (he β A G1 s1 _ E hr I1 fun G2 s2 v2 st2 r2 => ?_)
    have I2 := I1.step st2
    have hl2 : s2.heap.get? l = some (listObj vs n) := I2.sub _ _ (st2.sub _ _ ha)
    have hk1 : ∀ d ∈ ds, okW 8 d = true := by
      intro d hd'; subst hds
      obtain ⟨b, _, rfl⟩ := List.mem_map.mp hd'
      exact okW_ints 7 b
    have okds : okW 9 (.lst ds) = true := by simpa [okW, toW, PySem.W.kqdOk, toWs_eq] using hk1
    obtain ⟨as, ra⟩ := reads_of I2.sub 9 (Rep.lst (st2.sub _ _ ha) (hd.mono st2.sub)) okds
    obtain ⟨cs, rc⟩ := reads_of I2.sub 9 r2 (okW_ints 8 a)
    have la := PySem.W.kqd_lay 9 _ okds
    have lc := PySem.W.kqd_lay 9 _ (okW_ints 8 a)
    have ra' : ∃ as, ReadsAll s2.heap vs (PySem.W.kqdPs (toWs ds)) as := by
      have ra2 : Reads s2.heap (.ref l) (.list (PySem.W.kqdPs (toWs ds))) as := ra
      cases ra2 with
      | list h1 h2 h3 h4 =>
        rw [hl2] at h1; cases h1
        cases h3
        exact ⟨_, by simpa using h4⟩
    obtain ⟨as', ra'⟩ := ra'
    have la' : PyData.canLayAll0 (PySem.W.kqdPs (toWs ds)) = true ∧ PyData.depthAll (PySem.W.kqdPs (toWs ds)) ≤ 9 := PySem.W.kqd_layL (ds := toWs ds) (by rw [toWs_eq]; intro d hd'; obtain ⟨d', h1, rfl⟩ := List.mem_map.mp hd'; exact hk1 d' h1)
    have hlen : vs.length = bs.length := by rw [hd.length, ← hds, List.length_map]
    have hjlt : j < bs.length := (List.getElem?_eq_some_iff.mp hj).1
    have val : ∀ m (hm : m < vs.length), PyData.eqv (SeqAt.readOf s2.heap vs[m]) (PySem.W.kqdP (toW (.lst (intL a)))) = decide (bs[m]? = some a) := by
      intro m hm
      have hm' : m < bs.length := by omega
      have e1 := SeqAt.readsAll_map _ _ _ la'.1 ra'
      have e2 : SeqAt.readOf s2.heap vs[m] = PySem.W.kqdP (toW (.lst (intL bs[m]))) := by
        have e3 := congrArg (fun t => t[m]?) e1
        have e4 : ∀ l : List PySem.W.Dat, PySem.W.kqdPs l = l.map PySem.W.kqdP := by
          intro l; induction l with
          | nil => rfl
          | cons y t ih => rw [PySem.W.kqdPs, ih]; rfl
        simp only [List.getElem?_map, e4, toWs_eq, ← hds] at e3
        simpa [hm, hm'] using e3
      rw [e2]
      have q := PySem.W.kqd_eqv 9 (toW (.lst (intL bs[m]))) (toW (.lst (intL a))) 9 (okW_ints 8 _) (okW_ints 8 _)
      rw [toW_ints] at q
      by_cases hq : bs[m] = a
      · rw [decide_eq_true (by rw [List.getElem?_eq_getElem hm', hq])]; exact q.mpr hq
      · rw [decide_eq_false (by rw [List.getElem?_eq_getElem hm', Option.some.injEq]; exact hq)]; exact Bool.eq_false_iff.mpr fun x => hq (q.mp x)
    refine ⟨⟨_, hl2, rfl⟩, F.args_list_index_2 _ _, _, SeqAt.list_indexAt l vs.toArray n none #[] v2 (fun y => PyData.eqv (SeqAt.readOf s2.heap y) (PySem.W.kqdP (toW (.lst (intL a))))) j (by simp; omega) (by omega) ?_ ?_, hl2, ?_, ?_⟩
    · show PyData.eqv (SeqAt.readOf s2.heap vs[j]) _ = true
      rw [val j (by omega), hj]; simp
    · intro m hm hlt
      show PyData.eqv (SeqAt.readOf s2.heap vs[m]) _ = false
      rw [val m (by omega)]; simpa using hno m hlt
    · refine SeqAt.items_eqAt (by simpa using ra') rc la'.1 lc.1 ?_
      have := Nat.min_le_left (PyData.depthAll (PySem.W.kqdPs (toWs ds))) (PySem.W.kqdP (toW (.lst (intL a)))).depth
      have h2 := la'.2
      have h3 := hr.2.2
      omega
    · exact h G2 _ _ ((st1.trans st2).trans (I2.grow (Grow.toks I2.sub))) (.int _ _)

/-- type(e) is int -/
theorem tr_isInt {p1 p2 p3 pos : Pos} {e : Expr} {i : Int} (hk : C.env.kindOf "type" = some .globalImplicit) (hg : C.T.mg "type" = none) (hb : C.T.mb "type" = some (.type "type")) (hk' : C.env.kindOf "int" = some .globalImplicit) (hg' : C.T.mg "int" = none) (hb' : C.T.mb "int" = some (.type "int"))
    (he : Ev C k σ e (.int i)) (hp : plainArg e = true) : Tr C k σ (.Compare (.Call (.Name "type" p1) [e] [] p2) [.Is] [.Name "int" p3] pos) true := by
  intro β A G s Q E hr I h
  refine wpAny_isTrue_Compare1 (callBuiltin (id := "type") I hk (by decide +kernel) hg hb ?_) rfl
  refine PySem.callWith_type (backTo_plain _ _ (by simp [hp])) ?_
  rw [starEach_plain hp C.env]
  refine Calls.evalArgs_plain (Calls.spliced_cons (he β A G s _ E hr I fun G1 s1 v st1 r1 => Calls.spliced_nil ?_))
  obtain ⟨t, rfl⟩ : ∃ t, v = .int i t := by cases r1; exact ⟨_, rfl⟩
  have I1 := I.step st1
  refine call_type_of (Tx := "int") rfl (by decide) ?_
  refine Calls.Name_function_global I1.kind hk' (Calls.loadGlobal_builtin I1.globals hg' I1.builtins hb' ?_) (by decide +kernel)
  exact wpAny_is_self rfl (wpAny_truthy_bool (h G1 s1 st1))
end

section
variable {C : Act} {k : Nat} {σ : Sig} {β : Bs} {c Pt bm : Addr} {ob : Obj}

theorem tr_allN {iter elt : Expr} {x : Str} {px pos pos' pn : Pos} {scope : Scope} {es : List Int}
    (hk : C.env.kindOf "all" = some .globalImplicit) (hg : C.T.mg "all" = none) (hb : C.T.mb "all" = some (.builtin "all")) (g : GenOk C c Pt bm ob)
    (hiter : Ev C k σ iter (.lst (intL es))) (hfold : ∀ env x, genFold iter env x = pure x)
    (hco : scope.isCoroutine = false) (hcell : ∀ y ∈ scope.names, y.2 ≠ .cell) (h0 : scope.names.lookup (".0" : Str) = some NameKind.local) (hx : scope.names.lookup x = some .local) (hkind : scope.kind = .function)
    (hfree : ∀ y ∈ scope.names, y.2 = .free → ∃ c, C.env.cells.lookup y.1 = some c) (hk1 : 1 ≤ k)
    (hq2 : ∀ (β : Bs) (G1 : PMap) (s1 : Shared), Inv C β σ G1 s1 → ∀ (L : Addr) (code : Value) (A' : Around) (E' : Value → Shared → Prop) (a : Int) (ta : Tok) (s2 : Shared) m2, s2.heap.Ns L m2 → m2 x = some (.int a ta) → Kept C s1 s2 →
      wpAny (model C.T.prog C.T.w) A' (eval elt (genEnv scope (clo C.env.cells scope.names []) L code builtinsNs C.env)) (fun y s3 => y = .bool true ∧ Keeps s2 s3) E' s2) :
    Tr C k σ (.Call (.Name "all" pn) [.GeneratorExp elt [⟨.Name x px, iter, [], 0⟩] scope pos] [] pos') true := by
  intro β A G s Q E hr I h
  refine wpAny_isTrue_value (callBuiltin (id := "all") I hk (by decide +kernel) hg hb ?_)
  refine Calls.callWith_builtin (backTo_plain _ _ rfl) ?_
  rw [starEach_plain rfl C.env]
  refine Calls.evalArgs_plain (Calls.spliced_cons ?_)
  have hclos : closureFor scope C.env = pure (clo C.env.cells scope.names []) := closureFor_eq fun y hy hf => hfree y hy hf
  refine wpAny_GeneratorExp_walksQD hr.1 hco hclos hcell h0 hx hkind (by have := hr.2.1; omega) (hiter β A G s _ E hr I fun G1 s1 v st1 r1 => ?_) (hfold _)
  have I1 := I.step st1
  generalize hds : intL es = ds at r1
  cases r1 with
  | lst ha hd =>
    rename_i l vs n
    subst hds
    have hl : s1.heap.get? l = some (listObj vs n) := I1.sub _ _ ha
    refine wpAny_pyIter_list (isList_of hl) ?_
    have gI := Grow.alloc (o := { cls := .type "list_iterator", data := .fields #[.ref l, .int 0 0] }) (tk := s1.toks) I1.sub
    have I2 := I1.step (I1.grow gI)
    have hIn : s1.heap.get? s1.heap.objs.size = none := get?_size
    have hk2 : ∀ b o, s1.heap.get? b = some o → (s1.heap.push { cls := .type "list_iterator", data := .fields #[.ref l, .int 0 0] }).get? b = some o := fun b o e => Heap.get?_push_of_some _ e
    have hI2 : (s1.heap.push { cls := .type "list_iterator", data := .fields #[.ref l, .int 0 0] }).IsListIter s1.heap.objs.size l 0 := ⟨_, Heap.get?_push_size _ rfl, rfl, rfl⟩
    generalize hIa : s1.heap.objs.size = Ia at hIn hI2
    generalize hh2 : s1.heap.push { cls := .type "list_iterator", data := .fields #[.ref l, .int 0 0] } = h2 at gI I2 hk2 hI2
    refine ⟨I2.nolimit, ?_⟩
    obtain ⟨ps, hcode, htab⟩ := g.isCode I2
    refine genexpr_any g.code hcode htab fun code h3 tk3 ps' hx3 hP3 hT3 => ?_
    have hk3 : ∀ b o, b ≠ Pt → s1.heap.get? b = some o → h3.get? b = some o := fun b o hb e => hx3 b o hb (hk2 b o e)
    have offP : ∀ b o, G1 b = some o → b ≠ Pt := fun b o e hb => by rw [hb, (I1.off Pt g.P).2] at e; cases e
    have hH3 : Sub C.T.H h3.get? := fun b o e => hk3 b o (offP b o (I1.text _ _ e)) (I1.sub _ _ (I1.text _ _ e))
    have hgl : h3.Ns C.env.globals C.T.mg := by rw [C.hg]; exact C.T.g.at hH3
    refine wpAny_builtinsFor hgl g.name g.ne (hH3 _ _ g.obj) g.cls g.dict g.data ?_
    have lI : l ≠ Ia := fun e => by rw [e] at hl; rw [hIn] at hl; cases hl
    have hPl : l ≠ Pt := offP _ _ ha
    have IP : Ia ≠ Pt := fun e => (I1.tab Pt g.P).2 (e ▸ hIn)
    refine ⟨Ia, _, _, _, _, _, (fun i => true), (fun i y => y = .bool true), rfl, (fun A' hA => Walks.list hA Ia l lI vs.toArray), ?_, ?_, ?_, ?_, ?_, ?_⟩
    · refine ⟨?_, isList_of (hk3 _ _ hPl hl)⟩
      obtain ⟨o, ho, r⟩ := hI2; exact ⟨o, hx3 _ _ IP ho, r⟩
    · intro b hb
      have ex : ∀ b o, h3.get? b = some o → b < h3.objs.size := fun b o e => Heap.lt_size e
      simp only [List.mem_cons, List.not_mem_nil, or_false] at hb
      rcases hb with rfl | rfl
      · obtain ⟨o, ho, _⟩ := hI2; exact ex _ _ (hx3 _ _ IP ho)
      · exact ex _ _ (hk3 _ _ hPl hl)
    · exact C.T.nolimit (.refl _) hH3
    · intro hm
      simp only [List.mem_singleton] at hm
      obtain ⟨mc, ⟨o, es', ep, ho, _⟩, _⟩ := C.T.lim
      have := I1.sub _ _ (I1.text _ _ ho); rw [hm, hIn] at this; cases this
    · intro href hhref
      have kept : ∀ (s2 : Shared), (∀ b ∈ List.range h3.objs.size, b ∉ [Ia] → ∀ o, href.get? b = some o → s2.heap.get? b = some o) → Kept C s1 s2 := fun s2 hkp b o e hp => by
        have e3 := hk3 b o (fun h => hp (h ▸ g.P)) e
        exact hkp b (List.mem_range.mpr (Heap.lt_size e3)) (fun hm => by simp only [List.mem_singleton] at hm; rw [hm, hIn] at e; cases e) o (hhref b o e3)
      constructor
      · intro A' E' i v s2 m2 hA hD hU hv hn hm hkp
        exact wpAny_tests_nil ⟨rfl, s2.heap, s2.toks, rfl, fun _ _ e => e⟩
      · intro A' E' i v s2 m2 hA hD hU hv hp hn hm hkp
        obtain ⟨d, hd1, hd2⟩ := hd.getv (k := i) (v := v) (by simpa using hv)
        obtain ⟨a, rfl⟩ : ∃ a, d = .int a := by
          simp only [intL, List.getElem?_map] at hd1
          cases e : es[i]? with
          | none => rw [e] at hd1; cases hd1
          | some a => rw [e] at hd1; exact ⟨a, (Option.some.inj hd1).symm⟩
        obtain ⟨t, rfl⟩ : ∃ t, v = .int a t := by cases hd2; exact ⟨_, rfl⟩
        exact hq2 β G1 s1 I1 _ code A' E' a t s2 m2 hn hm (kept s2 hkp)
    · intro a h5 tk gs hgb hag hsz5 hk5 WS hat
      refine Calls.spliced_nil ?_
      have WS1 := WS.in4_1
      refine call_all_walkS (WS1.self 0 _ _ _ hat ⟨a, _, _, _, _, _, _, (fun j => true), rfl, WS1, hat, ?_, fun s' hm => ?_⟩)
      · rintro j v s2 Q2 E2 ⟨i, hi, rfl⟩ hQ2
        exact wpAny_truthy_bool hQ2
      · have e1 : ((List.range (passing (fun i => true) vs.toArray.size 0).length).all fun j => true) = true := by simp
        rw [e1]
        have k' : ∀ b o, b ≠ Pt → s1.heap.get? b = some o → s'.heap.get? b = some o := fun b o hb e => by
          have e3 := hk3 b o hb e
          refine hm.heap b o (fun hmem => ?_) (hk5 b o e3)
          simp only [List.mem_cons, List.not_mem_nil, or_false] at hmem
          rcases hmem with h | h
          · exact absurd (h ▸ Heap.lt_size e3) (Nat.lt_irrefl _)
          · rw [h, hIn] at e; cases e
        have x' : TabX (s'.heap.get? Pt) := by
          refine ⟨ps', hm.heap Pt _ (fun hmem => ?_) (hk5 _ _ hP3), hT3⟩
          simp only [List.mem_cons, List.not_mem_nil, or_false] at hmem
          rcases hmem with h | h
          · exact absurd (h ▸ Heap.lt_size hP3) (Nat.lt_irrefl _)
          · exact IP h.symm
        have gens' : AllBare s'.gens := AllBare.movedS (AllBare.push I1.gens hgb) hm
        exact wpAny_truthy_bool (h G1 s' (st1.trans (gen_stp g I1 k' x' hm.os gens')))
end

section
variable {prog : Program} {w : World} {A : Around} {E : Value → Shared → Prop} {s : Shared} {genv : Env}

theorem quiet_val {xm xc : Str} {p1 p2 p3 p4 p5 p6 p7 : Pos} {k1 k2 : Nat} {cm : Addr} {mk j : Nat} {tm tj : Tok} {m2 : Str → Option Value} (hk : genv.scope.kind = .function) (km : genv.kindOf xm = some .free) (hc : genv.cells.lookup xm = some cm) (hcell : s.heap.IsCell cm (some (.int mk tm)))
    (kx : genv.kindOf xc = some .local) (hn : s.heap.Ns genv.locals m2) (hx : m2 xc = some (.int j tj)) (n1 : plainName xm = true) (n2 : plainName xc = true) {Q : Value → Shared → Prop} (h : ∀ tk, Q (.bool ((if mk.testBit j then 1 else 0) == (1 : Int))) { s with toks := tk }) :
    wpAny (model prog w) A (eval (.Compare (.BinOp (.BinOp (.Name xm p1) .RShift (.Name xc p2) p3) .BitAnd (.Constant (.int 1) k1 p4) p5) [.Eq] [.Constant (.int 1) k2 p6] p7) genv) Q E s := by
  refine wpAny_Compare1 (wpAny_BinOp (wpAny_BinOp (wpAny_Name (wpAny_loadName_free hk km hc hcell ?_ (plainName.c n1)) (plainName.d n1)))) rfl
  refine wpAny_Name (wpAny_loadName_local hk kx hn hx ?_) (plainName.d n2)
  refine rshift_int (by omega) (wpAny_Constant_int (and_int (wpAny_Constant_int (eq_int ?_))))
  rw [bit_eq]
  exact h _
theorem quiet_bit {xm xc : Str} {p1 p2 p3 p4 p5 p6 p7 : Pos} {k1 k2 : Nat} {cm : Addr} {mk j : Nat} {tm tj : Tok} {m2 : Str → Option Value} (hk : genv.scope.kind = .function) (km : genv.kindOf xm = some .free) (hc : genv.cells.lookup xm = some cm) (hcell : s.heap.IsCell cm (some (.int mk tm)))
    (kx : genv.kindOf xc = some .local) (hn : s.heap.Ns genv.locals m2) (hx : m2 xc = some (.int j tj)) (n1 : plainName xm = true) (n2 : plainName xc = true) :
    wpAny (model prog w) A (eval (.Compare (.BinOp (.BinOp (.Name xm p1) .RShift (.Name xc p2) p3) .BitAnd (.Constant (.int 1) k1 p4) p5) [.Eq] [.Constant (.int 1) k2 p6] p7) genv) (fun y s3 => y = .bool (mk.testBit j) ∧ Keeps s s3) E s :=
  quiet_val hk km hc hcell kx hn hx n1 n2 fun tk => ⟨by cases mk.testBit j <;> rfl, s.heap, tk, rfl, fun _ _ e => e⟩
theorem quiet_test {xm xc : Str} {p1 p2 p3 p4 p5 p6 p7 : Pos} {k1 k2 : Nat} {cm : Addr} {mk j : Nat} {tm tj : Tok} {m2 : Str → Option Value} (hk : genv.scope.kind = .function) (km : genv.kindOf xm = some .free) (hc : genv.cells.lookup xm = some cm) (hcell : s.heap.IsCell cm (some (.int mk tm)))
    (kx : genv.kindOf xc = some .local) (hn : s.heap.Ns genv.locals m2) (hx : m2 xc = some (.int j tj)) (n1 : plainName xm = true) (n2 : plainName xc = true) :
    wpAny (model prog w) A (isTrue (.Compare (.BinOp (.BinOp (.Name xm p1) .RShift (.Name xc p2) p3) .BitAnd (.Constant (.int 1) k1 p4) p5) [.Eq] [.Constant (.int 1) k2 p6] p7) genv (eval (.Compare (.BinOp (.BinOp (.Name xm p1) .RShift (.Name xc p2) p3) .BitAnd (.Constant (.int 1) k1 p4) p5) [.Eq] [.Constant (.int 1) k2 p6] p7) genv)) (fun y s3 => y = mk.testBit j ∧ Keeps s s3) E s := by
  refine wpAny_isTrue_Compare1 (wpAny_BinOp (wpAny_BinOp (wpAny_Name (wpAny_loadName_free hk km hc hcell ?_ (plainName.c n1)) (plainName.d n1)))) rfl
  refine wpAny_Name (wpAny_loadName_local hk kx hn hx ?_) (plainName.d n2)
  refine rshift_int (by omega) (wpAny_Constant_int (and_int (wpAny_Constant_int (eq_int (wpAny_truthy_bool ?_)))))
  rw [bit_eq]
  exact ⟨by cases mk.testBit j <;> rfl, s.heap, _, rfl, fun _ _ e => e⟩

theorem quiet_isInt {mg mb : Str → Option Value} {x : Str} {p1 p2 p3 p4 pos : Pos} {i : Int} {t : Tok} {m2 : Str → Option Value} (hk : genv.scope.kind = .function) (kt : genv.kindOf "type" = some .globalImplicit) (ki : genv.kindOf "int" = some .globalImplicit) (hg : s.heap.Ns genv.globals mg) (hb : s.heap.Ns genv.builtins mb) (g1 : mg "type" = none) (b1 : mb "type" = some (.type "type")) (g2 : mg "int" = none) (b2 : mb "int" = some (.type "int"))
    (kx : genv.kindOf x = some .local) (hn : s.heap.Ns genv.locals m2) (hx : m2 x = some (.int i t)) (n2 : plainName x = true) :
    wpAny (model prog w) A (eval (.Compare (.Call (.Name "type" p1) [.Name x p4] [] p2) [.Is] [.Name "int" p3] pos) genv) (fun y s3 => y = .bool true ∧ Keeps s s3) E s := by
  refine wpAny_Compare1 (wpAny_Call_NameR (Calls.Name_function_global hk kt (Calls.loadGlobal_builtin hg g1 hb b1 ?_) (by decide +kernel))) rfl
  refine PySem.callWith_type rfl (Calls.evalArgs_plain (Calls.spliced_cons (wpAny_Name (wpAny_loadName_local hk kx hn hx (Calls.spliced_nil ?_)) (plainName.d n2))))
  refine call_type_of (Tx := "int") rfl (by decide) ?_
  refine Calls.Name_function_global hk ki (Calls.loadGlobal_builtin hg g2 hb b2 ?_) (by decide +kernel)
  exact wpAny_is_self rfl ⟨rfl, s.heap, s.toks, rfl, fun _ _ e => e⟩
end

/-! plain mathematics of the law -/

noncomputable def boxS (base n : Nat) : List (List Int) :=
  if n = 1 then (List.range base).map fun (i : Nat) => [(i : Int)] else (List.range base).flatMap fun (i : Nat) => (List.range base).map fun (j : Nat) => [(i : Int), (j : Int)]
noncomputable def boxes : List (Nat × Nat) := [(2, 2), (3, 1), (4, 1), (5, 1), (1, 2)]
noncomputable def stS (base n : Nat) (c : Nat) : List Int := (boxS base n).getD c []

theorem box_facts : ∀ p ∈ boxes, (boxS p.1 p.2).length = p.1 ^ p.2 ∧ 0 < p.1 ∧ p.1 ≤ 5 ∧ 0 < p.2 ∧ p.2 ≤ 2 ∧ p.1 ^ p.2 ≤ 5 ∧ (p.2 = 1 ∨ p.2 = 2) := by decide +kernel
theorem box_states : ∀ p ∈ boxes, ∀ c, c < p.1 ^ p.2 → stOf (p.1 : Int) p.2 (c : Int) [] = stS p.1 p.2 c ∧ (stS p.1 p.2 c).length = p.2 ∧ codeL (p.1 : Int) (stS p.1 p.2 c) = (c : Int) ∧ ∀ v ∈ stS p.1 p.2 c, 0 ≤ v ∧ v < (p.1 : Int) := by decide +kernel

theorem box_has : ∀ p ∈ boxes, ∀ l : List Int, l.length = p.2 → (∀ v ∈ l, 0 ≤ v ∧ v < (p.1 : Int)) → ∃ c, c < p.1 ^ p.2 ∧ (boxS p.1 p.2)[c]? = some l := by
  have one : ∀ b : Nat, ∀ l : List Int, l.length = 1 → (∀ v ∈ l, 0 ≤ v ∧ v < (b : Int)) → ∃ c, c < b ^ 1 ∧ (boxS b 1)[c]? = some l := by
    intro b l hl hv
    match l, hl with
    | [v], _ =>
      have h := hv v (by simp)
      refine ⟨v.toNat, by rw [Nat.pow_one]; omega, ?_⟩
      have hlt : v.toNat < b := by omega
      have e : ((v.toNat : Nat) : Int) = v := by omega
      simp [boxS, hlt, e]
  have two : ∀ b : Nat, b = 1 ∨ b = 2 → ∀ l : List Int, l.length = 2 → (∀ v ∈ l, 0 ≤ v ∧ v < (b : Int)) → ∃ c, c < b ^ 2 ∧ (boxS b 2)[c]? = some l := by
    intro b hb l hl hv
    match l, hl with
    | [v, w], _ =>
      have h1 := hv v (by simp)
      have h2 := hv w (by simp)
      rcases hb with rfl | rfl
      · have e1 : v = 0 := by omega
        have e2 : w = 0 := by omega
        subst e1; subst e2
        exact ⟨0, by decide, by decide⟩
      · have e1 : v = 0 ∨ v = 1 := by omega
        have e2 : w = 0 ∨ w = 1 := by omega
        rcases e1 with rfl | rfl <;> rcases e2 with rfl | rfl
        · exact ⟨0, by decide, by decide⟩
        · exact ⟨1, by decide, by decide⟩
        · exact ⟨2, by decide, by decide⟩
        · exact ⟨3, by decide, by decide⟩
  intro p hp l hl hv
  simp only [boxes, List.mem_cons, List.not_mem_nil, or_false] at hp
  rcases hp with rfl | rfl | rfl | rfl | rfl
  · exact two 2 (.inr rfl) l hl hv
  · exact one 3 l hl hv
  · exact one 4 l hl hv
  · exact one 5 l hl hv
  · exact two 1 (.inl rfl) l hl hv

theorem box_nodup : ∀ p ∈ boxes, (boxS p.1 p.2).Nodup := by decide +kernel

/-! the value of an expression -/

theorem nine {w : Int} (h0 : 0 ≤ w) (h1 : w < 9) : w = 0 ∨ w = 1 ∨ w = 2 ∨ w = 3 ∨ w = 4 ∨ w = 5 ∨ w = 6 ∨ w = 7 ∨ w = 8 := by omega
theorem op_eq : ∀ (w x y : Int), 0 ≤ w → w < 9 → applyOp (opN w) x y = opI w x y := by
  intro w x y h0 h1
  rcases nine h0 h1 with rfl | rfl | rfl | rfl | rfl | rfl | rfl | rfl | rfl
  · rfl
  · rfl
  · rfl
  · rfl
  · show (if x != y then (1 : Int) else 0) = 1 - (if x == y then 1 else 0)
    by_cases h : x = y <;> simp [h]
  · rfl
  · rfl
  · rfl
  · rfl

theorem opN_ne {w : Int} (h0 : 0 ≤ w) (h1 : w < 9) : (opN w == "num") = false ∧ (opN w == "var") = false ∧ (opN w == "not") = false := by
  rcases nine h0 h1 with rfl | rfl | rfl | rfl | rfl | rfl | rfl | rfl | rfl <;> decide +kernel

theorem valI_small {a : Int} {st : List Int} (h0 : 0 < st.length) (hs : ∀ v ∈ st, 0 ≤ v ∧ v < 1000) : 0 ≤ valI a st ∧ valI a st < 1000 := by
  unfold valI
  split
  · have := Int.emod_nonneg a (b := 6) (by decide); omega
  · have hm := Int.emod_nonneg (a % 6) (b := (st.length : Int)) (by omega)
    have hm2 := Int.emod_lt_of_pos (a % 6) (b := (st.length : Int)) (by omega)
    have hlt : (a % 6 % (st.length : Int)).toNat < st.length := by omega
    rw [List.getD_eq_getElem?_getD, List.getElem?_eq_getElem hlt]
    exact hs _ (List.getElem_mem hlt)

theorem nn : (("num" : Str) == "num") = true := by decide +kernel
theorem vn : ¬ (("var" : Str) == "num") = true := by decide +kernel
theorem vv : (("var" : Str) == "var") = true := by decide +kernel
theorem tn : ¬ (("not" : Str) == "num") = true := by decide +kernel
theorem tv : ¬ (("not" : Str) == "var") = true := by decide +kernel
theorem tt' : (("not" : Str) == "not") = true := by decide +kernel
theorem step_leaf {a : Int} {st stk : List Int} (h0 : 0 < st.length) : stepV st (leafI a st.length) stk = some (valI a st :: stk) := by
  unfold leafI valI
  split
  · unfold stepV; rw [if_pos nn]
  · have hm := Int.emod_nonneg (a % 6) (b := (st.length : Int)) (by omega)
    have hm2 := Int.emod_lt_of_pos (a % 6) (b := (st.length : Int)) (by omega)
    have hlt : (a % 6 % (st.length : Int)).toNat < st.length := by omega
    unfold stepV
    rw [if_neg vn, if_pos vv, if_pos hm, List.getElem?_eq_getElem hlt]
    simp [List.getD_eq_getElem?_getD, List.getElem?_eq_getElem hlt]
theorem step_not {x i : Int} {st stk : List Int} : stepV st ("not", i) (x :: stk) = some ((if x == 0 then 1 else 0) :: stk) := by
  unfold stepV; rw [if_neg tn, if_neg tv, if_pos tt']
theorem step_op {w x y i : Int} {st stk : List Int} (h0 : 0 ≤ w) (h1 : w < 9) (hs : x.natAbs < 2 ^ 60) : stepV st (opN w, i) (y :: x :: stk) = some (opI w x y :: stk) := by
  obtain ⟨e1, e2, e3⟩ := opN_ne h0 h1
  unfold stepV
  rw [if_neg (by rw [e1]; simp), if_neg (by rw [e2]; simp), if_neg (by rw [e3]; simp)]
  show (if (opN w == "*" && !(decide (x.natAbs < 2 ^ 60))) = true then none else some (applyOp (opN w) x y :: stk)) = _
  rw [decide_eq_true hs]
  simp [op_eq w x y h0 h1]
theorem runV_append (st : List Int) (a b : List (Str × Int)) (stk : List Int) : runV st (a ++ b) stk = (runV st a stk).bind (runV st b) := by
  induction a generalizing stk with
  | nil => rfl
  | cons i r ih =>
    show (stepV st i stk).bind (runV st (r ++ b)) = ((stepV st i stk).bind (runV st r)).bind (runV st b)
    cases stepV st i stk with
    | none => rfl
    | some t => exact ih t
theorem run_notIf {c : Bool} {x : Int} {st stk : List Int} : runV st (notIf c) (x :: stk) = some ((if c then (if x == 0 then 1 else 0) else x) :: stk) := by
  unfold notIf
  cases c with
  | true => show (stepV st ("not", 0) (x :: stk)).bind _ = _; rw [step_not]; rfl
  | false => rfl

theorem expr_due (a o b : Int) (st : List Int) (h0 : 0 < st.length) (hs : ∀ v ∈ st, 0 ≤ v ∧ v < 1000) : valE (exprI a o b st.length) st = some (dueI a o b st) := by
  have hx := valI_small (a := a) h0 hs
  have run : runV st (exprI a o b st.length) [] = some [dueI a o b st] := by
    unfold exprI
    rw [runV_append, runV_append, runV_append]
    have e1 : runV st [leafI a (st.length : Int)] [] = some [valI a st] := by
      show (stepV st (leafI a st.length) []).bind _ = _; rw [step_leaf h0]; rfl
    have e2 : runV st [leafI b (st.length : Int)] [valI a st] = some [valI b st, valI a st] := by
      show (stepV st (leafI b st.length) [valI a st]).bind _ = _; rw [step_leaf h0]; rfl
    rw [e1]
    show ((runV st ([leafI b st.length] ++ notIf _) [valI a st]).bind _).bind _ = _
    rw [runV_append, e2]
    show ((runV st (notIf _) [valI b st, valI a st]).bind _).bind _ = _
    rw [run_notIf]
    show (runV st [(opN (o % 8), 0)] [_, valI a st]).bind _ = _
    have e3 : ∀ y, runV st [(opN (o % 8), 0)] [y, valI a st] = some [opI (o % 8) (valI a st) y] := by
      intro y
      show (stepV st (opN (o % 8), 0) [y, valI a st]).bind _ = _
      rw [step_op (by omega) (by omega) (by omega)]; rfl
    rw [e3]
    show runV st (notIf _) [_] = _
    rw [run_notIf]; rfl
  unfold valE
  rw [run]; rfl

theorem exprI_len (a o b n : Int) : (exprI a o b n).length ≤ 10 := by
  unfold exprI
  have h1 := notIf_length ((a + o + b) % 3 == 1)
  have h2 := notIf_length ((a + o + b) % 3 == 2)
  simp only [List.length_append, List.length_cons, List.length_nil]
  omega

/-! a rule's firing -/

noncomputable def asMap (l : List Int) : Int → Option Int := fun x => if 0 ≤ x then l[x.toNat]? else none
theorem enumP_map : ∀ (st pre : List Int), mapOfL (enumP pre.length st) (asMap pre) = asMap (pre ++ st)
  | [], pre => by rw [List.append_nil]; rfl
  | d :: r, pre => by
    show mapOfL (enumP ((pre.length : Int) + 1) r) (mapPut (asMap pre) pre.length d) = _
    have e : mapPut (asMap pre) pre.length d = asMap (pre ++ [d]) := by
      funext x
      unfold mapPut asMap
      by_cases hx : x = pre.length
      · subst hx; simp
      · rw [if_neg hx]
        by_cases h0 : 0 ≤ x
        · rw [if_pos h0, if_pos h0]
          by_cases hlt : x.toNat < pre.length
          · rw [List.getElem?_append_left hlt]
          · rw [List.getElem?_eq_none (by omega), List.getElem?_eq_none (by simp; omega)]
        · rw [if_neg h0, if_neg h0]
    rw [e]
    have := enumP_map r (pre ++ [d])
    rw [List.length_append, List.length_singleton] at this
    simpa [List.append_assoc] using this
theorem mapPut_set {l : List Int} {i v : Int} (h0 : 0 ≤ i) (h1 : i < l.length) : mapPut (asMap l) i v = asMap (l.set i.toNat v) := by
  funext x
  unfold mapPut asMap
  by_cases hx : x = i
  · subst hx
    rw [if_pos rfl, if_pos h0, List.getElem?_set_self (by omega)]
  · rw [if_neg hx]
    by_cases hp : 0 ≤ x
    · rw [if_pos hp, if_pos hp, List.getElem?_set_ne (by omega)]
    · rw [if_neg hp, if_neg hp]
theorem mapOfL_sets : ∀ (ps : List (Int × Int)) (l : List Int), (∀ p ∈ ps, 0 ≤ p.1 ∧ p.1 < l.length) → mapOfL ps (asMap l) = asMap (ps.foldl (fun l p => l.set p.1.toNat p.2) l)
  | [], _, _ => rfl
  | p :: r, l, h => by
    show mapOfL r (mapPut (asMap l) p.1 p.2) = asMap (r.foldl _ (l.set p.1.toNat p.2))
    have hp := h p (by simp)
    rw [mapPut_set hp.1 hp.2]
    exact mapOfL_sets r _ fun q hq => by rw [List.length_set]; exact h q (by simp [hq])
theorem asMap_list (l : List Int) : (List.range l.length).map (fun (i : Nat) => (asMap l i).getD 0) = l := by
  apply List.ext_getElem?
  intro i
  by_cases hi : i < l.length
  · simp [hi, asMap]
  · simp [hi]
theorem foldl_set_len : ∀ (ps : List (Int × Int)) (l : List Int), (ps.foldl (fun l p => l.set p.1.toNat p.2) l).length = l.length
  | [], _ => rfl
  | p :: r, l => by
    show (r.foldl _ (l.set p.1.toNat p.2)).length = _
    rw [foldl_set_len r, List.length_set]

theorem news_ok {r : Row} {st : List Int} {base : Int} (h0 : 0 < st.length) : ∀ p ∈ (newsI r st base).take (r.t % 3).toNat, 0 ≤ p.1 ∧ p.1 < st.length := by
  intro p hp
  have := List.mem_of_mem_take hp
  simp only [newsI, List.mem_cons, List.not_mem_nil, or_false] at this
  rcases this with rfl | rfl
  · exact ⟨Int.emod_nonneg _ (by omega), Int.emod_lt_of_pos _ (by omega)⟩
  · exact ⟨Int.emod_nonneg _ (by omega), Int.emod_lt_of_pos _ (by omega)⟩

theorem after_eq (r : Row) (st : List Int) (base : Int) (h0 : 0 < st.length) : afterI r st base = ((newsI r st base).take (r.t % 3).toNat).foldl (fun l p => l.set p.1.toNat p.2) st := by
  have e : afterM r st base = asMap (((newsI r st base).take (r.t % 3).toNat).foldl (fun l p => l.set p.1.toNat p.2) st) := by
    unfold afterM
    rw [mapOfL_append]
    have h1 : mapOfL (enumP 0 st) (fun _ => none) = asMap st := by
      have := enumP_map st []
      have e0 : asMap [] = fun _ => none := by funext x; simp [asMap]
      rw [e0] at this
      simpa using this
    rw [h1, mapOfL_sets _ _ (news_ok h0)]
  unfold afterI
  rw [e]
  have := asMap_list (((newsI r st base).take (r.t % 3).toNat).foldl (fun l p => l.set p.1.toNat p.2) st)
  rw [foldl_set_len] at this
  exact this

theorem fire_sets (base : Int) (st : List Int) (hst : 0 < st.length) : ∀ (es : List (Int × Int × Int × Int)) (new : List Int), new.length = st.length → (∀ v ∈ st, 0 ≤ v ∧ v < 1000) →
    fireL base st (es.map fun e => (e.1 % (st.length : Int), exprI e.2.1 e.2.2.1 e.2.2.2 st.length)) new = some ((es.map fun e => (e.1 % (st.length : Int), dueI e.2.1 e.2.2.1 e.2.2.2 st % base)).foldl (fun l p => l.set p.1.toNat p.2) new)
  | [], _, _, _ => rfl
  | e :: r, new, hl, hs => by
    rw [List.map_cons, List.map_cons, List.foldl_cons]
    unfold fireL
    rw [expr_due _ _ _ st hst hs]
    have h1 := Int.emod_nonneg e.1 (b := (st.length : Int)) (by omega)
    have h2 := Int.emod_lt_of_pos e.1 (b := (st.length : Int)) (by omega)
    have h3 := exprI_len e.2.1 e.2.2.1 e.2.2.2 st.length
    show (if 0 ≤ e.1 % (st.length : Int) ∧ e.1 % (st.length : Int) < new.length ∧ (exprI e.2.1 e.2.2.1 e.2.2.2 st.length).length ≤ 1000 then _ else none) = _
    rw [if_pos ⟨h1, by omega, by omega⟩]
    exact fire_sets base st hst r _ (by rw [List.length_set]; exact hl) hs

theorem fire_after (r : Row) (st : List Int) (base : Int) (h0 : 0 < st.length) (hs : ∀ v ∈ st, 0 ≤ v ∧ v < 1000) : fireL base st (ruleI st.length r).2 st = some (afterI r st base) := by
  rw [after_eq r st base h0]
  have := fire_sets base st h0 ([(r.t, r.a, r.o, r.b), (r.t + 1, r.h, r.o, r.a)].take (r.t % 3).toNat) st rfl hs
  rw [List.map_take, List.map_take] at this
  exact this

theorem after_in (r : Row) (st : List Int) (base : Int) (h0 : 0 < st.length) (hb : 0 < base) (hs : ∀ v ∈ st, 0 ≤ v ∧ v < base) : (afterI r st base).length = st.length ∧ ∀ v ∈ afterI r st base, 0 ≤ v ∧ v < base := by
  rw [after_eq r st base h0]
  refine ⟨foldl_set_len _ _, ?_⟩
  have gen : ∀ (ps : List (Int × Int)) (l : List Int), (∀ p ∈ ps, 0 ≤ p.2 ∧ p.2 < base) → (∀ v ∈ l, 0 ≤ v ∧ v < base) → ∀ v ∈ ps.foldl (fun l p => l.set p.1.toNat p.2) l, 0 ≤ v ∧ v < base := by
    intro ps
    induction ps with
    | nil => intro l _ h; exact h
    | cons p r ih =>
      intro l h1 h2
      refine ih _ (fun q hq => h1 q (by simp [hq])) fun v hv => ?_
      rcases List.mem_or_eq_of_mem_set hv with h | h
      · exact h2 v h
      · rw [h]; exact h1 p (by simp)
  refine gen _ _ (fun p hp => ?_) hs
  have := List.mem_of_mem_take hp
  simp only [newsI, List.mem_cons, List.not_mem_nil, or_false] at this
  rcases this with rfl | rfl
  · exact ⟨Int.emod_nonneg _ (by omega), Int.emod_lt_of_pos _ (by omega)⟩
  · exact ⟨Int.emod_nonneg _ (by omega), Int.emod_lt_of_pos _ (by omega)⟩

noncomputable def tgt (base n : Nat) (r : Row) (c : Nat) : Nat := (boxS base n).idxOf (afterI r (stS base n c) base)

theorem stS_get {base n c : Nat} (hp : (base, n) ∈ boxes) (hc : c < base ^ n) : (boxS base n)[c]? = some (stS base n c) := by
  have h := (box_facts _ hp).1
  have hlt : c < (boxS base n).length := by rw [h]; exact hc
  rw [List.getElem?_eq_getElem hlt, stS, List.getD_eq_getElem?_getD, List.getElem?_eq_getElem hlt]; rfl

theorem tgt_ok {base n : Nat} (hp : (base, n) ∈ boxes) (r : Row) {c : Nat} (hc : c < base ^ n) : (boxS base n)[tgt base n r c]? = some (afterI r (stS base n c) base) ∧ tgt base n r c < base ^ n ∧ stS base n (tgt base n r c) = afterI r (stS base n c) base ∧ ∀ m, m < tgt base n r c → (boxS base n)[m]? ≠ some (afterI r (stS base n c) base) := by
  obtain ⟨hl, hb, _, hn, _⟩ := box_facts _ hp
  obtain ⟨_, h2, _, h4⟩ := box_states _ hp c hc
  have hlen : 0 < (stS base n c).length := by rw [h2]; exact hn
  obtain ⟨a1, a2⟩ := after_in r (stS base n c) base hlen (by exact_mod_cast hb) h4
  obtain ⟨j, hj, hg⟩ := box_has _ hp (afterI r (stS base n c) base) (a1.trans h2) a2
  have hmem : afterI r (stS base n c) base ∈ boxS base n := List.mem_of_getElem? hg
  have hlt : tgt base n r c < (boxS base n).length := List.idxOf_lt_length_iff.mpr hmem
  have e : (boxS base n)[tgt base n r c]? = some (afterI r (stS base n c) base) := by
    rw [List.getElem?_eq_getElem hlt]; exact congrArg some (List.getElem_idxOf hlt)
  refine ⟨e, by rw [← hl]; exact hlt, ?_, fun m hm hg' => ?_⟩
  · rw [stS, List.getD_eq_getElem?_getD, e]; rfl
  · have := (List.getElem?_inj (i := m) (j := tgt base n r c) (List.getElem?_eq_some_iff.mp hg').1 (box_nodup _ hp)).mp (hg'.trans e.symm)
    omega

noncomputable def msOf (base n s : Nat) (rows : List Row) : MS where
  base := base
  start := stS base n s
  rules := rows.map (ruleI n)
  size := base ^ n
  S := stS base n
  g := fun c j => (rows[j]?.map fun r => dueI r.g r.p r.h (stS base n c)).getD 0
  T := fun c j => (rows[j]?.map fun r => tgt base n r c).getD 0
  s0 := s

theorem st_small {base n c : Nat} (hp : (base, n) ∈ boxes) (hc : c < base ^ n) : ∀ v ∈ stS base n c, 0 ≤ v ∧ v < 1000 := by
  obtain ⟨_, _, h5, _⟩ := box_facts _ hp
  obtain ⟨_, _, _, h4⟩ := box_states _ hp c hc
  intro v hv
  have := h4 v hv
  have h6 : (base : Int) ≤ 5 := by exact_mod_cast h5
  exact ⟨this.1, by have := this.2; simp only at this; omega⟩

theorem ms_ok {base n s : Nat} (hp : (base, n) ∈ boxes) (hs : s < base ^ n) (rows : List Row) (hr : rows.length ≤ 2) : MOk (msOf base n s rows) := by
  obtain ⟨hl, hb, hb5, hn, hn2, hsz, _⟩ := box_facts _ hp
  have rule : ∀ (j : Nat) r', (rows.map (ruleI n))[j]? = some r' → ∃ r, rows[j]? = some r ∧ r' = ruleI n r := by
    intro j r' h
    rw [List.getElem?_map] at h
    cases e : rows[j]? with
    | none => rw [e] at h; cases h
    | some r => rw [e] at h; exact ⟨r, rfl, (Option.some.inj h).symm⟩
  simp only at hb hb5 hn hn2 hsz hl
  have hstart : (stS base n s).length = n := (box_states _ hp s hs).2.1
  refine ⟨by show (0 : Int) < base; omega, by show (base : Int) < 1000; omega, by show (stS base n s).length ≤ 10; omega, by show (rows.map _).length ≤ 10; rw [List.length_map]; omega, ?_, by show base ^ n ≤ 1000; omega, fun c hc => ?_, fun c hc j r' h => ?_, fun c hc j r' h => ?_, rfl, hs⟩
  · show (base : Int) ^ (stS base n s).length = ((base ^ n : Nat) : Int)
    rw [hstart]; exact_mod_cast rfl
  · obtain ⟨h1, h2, h3, h4⟩ := box_states _ hp c hc
    refine ⟨?_, ?_, h3⟩
    · show stOf (base : Int) (stS base n s).length c [] = _
      rw [hstart]; exact h1
    · show (stS base n c).length ≤ 10
      rw [h2]; show n ≤ 10; omega
  · obtain ⟨r, hr', rfl⟩ := rule j r' h
    have h2 : (stS base n c).length = n := (box_states _ hp c hc).2.1
    refine ⟨?_, ?_⟩
    · have := exprI_len r.g r.p r.h n
      show (exprI r.g r.p r.h n).length ≤ 1000
      omega
    · show valE (exprI r.g r.p r.h n) (stS base n c) = some ((rows[j]?.map fun r => dueI r.g r.p r.h (stS base n c)).getD 0)
      rw [hr']
      have := expr_due r.g r.p r.h (stS base n c) (by omega) (st_small hp hc)
      rw [h2] at this
      exact this
  · obtain ⟨r, hr', rfl⟩ := rule j r' h
    have h2 : (stS base n c).length = n := (box_states _ hp c hc).2.1
    obtain ⟨t1, t2, t3, _⟩ := tgt_ok hp r hc
    have eT : (msOf base n s rows).T c j = tgt base n r c := by show (rows[j]?.map fun r => tgt base n r c).getD 0 = _; rw [hr']; rfl
    rw [eT]
    refine ⟨?_, t2⟩
    show fireL (base : Int) (stS base n c) (ruleI n r).2 (stS base n c) = some (stS base n (tgt base n r c))
    rw [t3]
    have := fire_after r (stS base n c) base (by omega) (st_small hp hc)
    rw [h2] at this
    exact this

noncomputable def edgesAt (base n : Nat) (rows : List Row) (c : Nat) : List (Nat × Nat) := (rows.filter fun r => dueI r.g r.p r.h (stS base n c) != 0).map fun r => (c, tgt base n r c)
noncomputable def edgesOf (base n : Nat) (rows : List Row) : List (Nat × Nat) := (List.range (base ^ n)).flatMap (edgesAt base n rows)
noncomputable def isClosed (s : Nat) (es : List (Nat × Nat)) (mk : Nat) : Bool := mk.testBit s && (es.filter fun e => mk.testBit e.1).all fun e => mk.testBit e.2
noncomputable def closedL (full s : Nat) (es : List (Nat × Nat)) : List Nat := (List.range (full + 1)).filter (isClosed s es)
noncomputable def leastOf (full : Nat) (ms : List Nat) : Nat := ms.foldl (· &&& ·) full

theorem mem_edges {base n s c d : Nat} {rows : List Row} : (c, d) ∈ edgesOf base n rows ↔ c < base ^ n ∧ d ∈ (msOf base n s rows).succ c := by
  unfold edgesOf edgesAt MS.succ MS.en
  simp only [List.mem_flatMap, List.mem_range, List.mem_map, List.mem_filter, Prod.mk.injEq]
  constructor
  · rintro ⟨c', hc', r, ⟨hr, hg⟩, rfl, rfl⟩
    obtain ⟨j, hj, rfl⟩ := List.getElem_of_mem hr
    refine ⟨hc', j, ⟨by show j < (rows.map _).length; rw [List.length_map]; exact hj, ?_⟩, ?_⟩
    · show (((rows[j]?.map fun r => dueI r.g r.p r.h (stS base n c')).getD 0) != 0) = true
      rw [List.getElem?_eq_getElem hj]; exact hg
    · show (rows[j]?.map fun r => tgt base n r c').getD 0 = _
      rw [List.getElem?_eq_getElem hj]; rfl
  · rintro ⟨hc, j, ⟨hj, hg⟩, rfl⟩
    have hj' : j < rows.length := by rw [show (msOf base n s rows).rules.length = rows.length from List.length_map ..] at hj; exact hj
    refine ⟨c, hc, rows[j], ⟨List.getElem_mem hj', ?_⟩, rfl, ?_⟩
    · have hg' : (((rows[j]?.map fun r => dueI r.g r.p r.h (stS base n c)).getD 0) != 0) = true := hg
      rw [List.getElem?_eq_getElem hj'] at hg'; exact hg'
    · show _ = (rows[j]?.map fun r => tgt base n r c).getD 0
      rw [List.getElem?_eq_getElem hj']; rfl

theorem closed_iff {base n s : Nat} {rows : List Row} {mk : Nat} : isClosed s (edgesOf base n rows) mk = true ↔ mk.testBit s = true ∧ ∀ c, c < base ^ n → mk.testBit c = true → ∀ d ∈ (msOf base n s rows).succ c, mk.testBit d = true := by
  unfold isClosed
  rw [Bool.and_eq_true, List.all_eq_true]
  constructor
  · rintro ⟨h1, h2⟩
    exact ⟨h1, fun c hc hb d hd => h2 (c, d) (List.mem_filter.mpr ⟨mem_edges.mpr ⟨hc, hd⟩, hb⟩)⟩
  · rintro ⟨h1, h2⟩
    refine ⟨h1, fun e he => ?_⟩
    obtain ⟨c, d⟩ := e
    obtain ⟨h3, h4⟩ := List.mem_filter.mp he
    obtain ⟨h5, h6⟩ := mem_edges (s := s).mp h3
    exact h2 c h5 h4 d h6

/-! the search -/
theorem addAll_ext : ∀ (cs todo : List Nat), ∃ ex, addAll cs todo = todo ++ ex
  | [], todo => ⟨[], by simp [addAll]⟩
  | c :: r, todo => by
    unfold addAll
    split
    · exact addAll_ext r todo
    · obtain ⟨ex, h⟩ := addAll_ext r (todo ++ [c])
      exact ⟨c :: ex, by rw [h]; simp⟩
theorem addAll_has : ∀ (cs todo : List Nat), ∀ c ∈ cs, c ∈ addAll cs todo
  | [], _, c, h => by cases h
  | x :: r, todo, c, h => by
    unfold addAll
    rcases List.mem_cons.mp h with rfl | h
    · obtain ⟨ex, he⟩ := addAll_ext r (if c ∈ todo then todo else todo ++ [c])
      rw [he]
      refine List.mem_append_left _ ?_
      split
      · assumption
      · simp
    · exact addAll_has r _ c h
theorem addAll_sub {K : Nat → Prop} : ∀ (cs todo : List Nat), (∀ x ∈ todo, K x) → (∀ c ∈ cs, K c) → ∀ x ∈ addAll cs todo, K x
  | [], _, h, _ => h
  | c :: r, todo, h1, h2 => by
    unfold addAll
    refine addAll_sub r _ (fun x hx => ?_) fun x hx => h2 x (by simp [hx])
    split at hx
    · exact h1 x hx
    · rcases List.mem_append.mp hx with hx | hx
      · exact h1 x hx
      · simp at hx; subst hx; exact h2 x (by simp)

theorem bfs_sub (m : MS) {K : Nat → Prop} (hK : ∀ c, K c → ∀ d ∈ m.succ c, K d) : ∀ (f : Nat) (todo : List Nat) (place : Nat), (∀ x ∈ todo, K x) → ∀ x ∈ bfs m f todo place, K x
  | 0, _, _, h => h
  | f + 1, todo, place, h => by
    unfold bfs
    split
    · rename_i c hc
      exact bfs_sub m hK f _ _ (addAll_sub _ _ h (hK c (h c (List.mem_of_getElem? hc))))
    · exact h
theorem bfs_mono (m : MS) : ∀ (f : Nat) (todo : List Nat) (place : Nat), ∀ x ∈ todo, x ∈ bfs m f todo place
  | 0, _, _, x, h => h
  | f + 1, todo, place, x, h => by
    unfold bfs
    split
    · rename_i c hc
      obtain ⟨ex, he⟩ := addAll_ext (m.succ c) todo
      exact bfs_mono m f _ _ x (by rw [he]; exact List.mem_append_left _ h)
    · exact h
theorem bfs_good (m : MS) (hs : ∀ c, c < m.size → ∀ d ∈ m.succ c, d < m.size) : ∀ (f : Nat) (todo : List Nat) (place : Nat), Good m.size todo → Good m.size (bfs m f todo place)
  | 0, _, _, h => h
  | f + 1, todo, place, h => by
    unfold bfs
    split
    · rename_i c hc
      exact bfs_good m hs f _ _ (h.addAll (hs c (h.2 c (List.mem_of_getElem? hc))))
    · exact h
theorem bfs_closed (m : MS) (hs : ∀ c, c < m.size → ∀ d ∈ m.succ c, d < m.size) : ∀ (f : Nat) (todo : List Nat) (place : Nat), Good m.size todo → m.size ≤ f + place → (∀ i, i < place → ∀ c, todo[i]? = some c → ∀ d ∈ m.succ c, d ∈ todo) →
    ∀ c ∈ bfs m f todo place, ∀ d ∈ m.succ c, d ∈ bfs m f todo place
  | 0, todo, place, hg, hf, hd => by
    intro c hc d hd'
    obtain ⟨i, hi, rfl⟩ := List.getElem_of_mem hc
    have hi' : i < todo.length := hi
    have := hg.length
    exact hd i (by omega) _ (List.getElem?_eq_getElem hi') d hd'
  | f + 1, todo, place, hg, hf, hd => by
    unfold bfs
    split
    · rename_i c hc
      refine bfs_closed m hs f _ _ (hg.addAll (hs c (hg.2 c (List.mem_of_getElem? hc)))) (by omega) fun i hi x hx d hdx => ?_
      obtain ⟨ex, he⟩ := addAll_ext (m.succ c) todo
      have hpl : place < todo.length := (List.getElem?_eq_some_iff.mp hc).1
      have hx' : todo[i]? = some x := by
        rw [he, List.getElem?_append_left (by omega)] at hx; exact hx
      by_cases hip : i = place
      · subst hip
        rw [hc] at hx'; cases hx'
        exact addAll_has _ _ d hdx
      · have := hd i (by omega) x hx' d hdx
        rw [he]; exact List.mem_append_left _ this
    · rename_i hc
      intro c hcm d hd'
      obtain ⟨i, hi, rfl⟩ := List.getElem_of_mem hcm
      have : todo.length ≤ place := List.getElem?_eq_none_iff.mp hc
      exact hd i (by omega) _ (List.getElem?_eq_getElem hi) d hd'

/-! masks -/
noncomputable def maskOf (l : List Nat) : Nat := l.foldl (fun a c => a ||| 2 ^ c) 0
theorem maskOf_test (l : List Nat) (i : Nat) : (maskOf l).testBit i = decide (i ∈ l) := by
  have gen : ∀ (l : List Nat) (a : Nat), (l.foldl (fun a c => a ||| 2 ^ c) a).testBit i = (a.testBit i || decide (i ∈ l)) := by
    intro l
    induction l with
    | nil => intro a; simp
    | cons c r ih =>
      intro a
      rw [List.foldl_cons, ih, Nat.testBit_or, Nat.testBit_two_pow]
      by_cases h : c = i
      · subst h; simp
      · have h' : ¬ i = c := fun e => h e.symm
        simp [h, h']
  unfold maskOf
  rw [gen]; simp
theorem maskOf_lt {l : List Nat} {n : Nat} (h : ∀ c ∈ l, c < n) : maskOf l < 2 ^ n := by
  apply Nat.lt_pow_two_of_testBit
  intro i hi
  rw [maskOf_test]
  refine decide_eq_false fun hm => ?_
  have := h i hm
  omega

theorem least_test (full : Nat) (ms : List Nat) (i : Nat) : (leastOf full ms).testBit i = (full.testBit i && ms.all fun m => m.testBit i) := by
  unfold leastOf
  induction ms generalizing full with
  | nil => simp
  | cons m r ih => rw [List.foldl_cons, ih, Nat.testBit_and, List.all_cons, Bool.and_assoc]
theorem least_le (full : Nat) (ms : List Nat) : leastOf full ms ≤ full := by
  unfold leastOf
  induction ms generalizing full with
  | nil => exact Nat.le_refl _
  | cons m r ih => rw [List.foldl_cons]; exact Nat.le_trans (ih _) Nat.and_le_left

/-- full, every mask's largest -/
noncomputable abbrev fullOf (base n : Nat) : Nat := 2 ^ (base ^ n) - 1
noncomputable def foundOf (base n s : Nat) (rows : List Row) : List Nat := (List.range (base ^ n)).filter fun c => (leastOf (fullOf base n) (closedL (fullOf base n) s (edgesOf base n rows))).testBit c

section
variable {base n s : Nat} {rows : List Row} (hp : (base, n) ∈ boxes) (hs : s < base ^ n)
include hp hs

theorem succ_lt : ∀ c, c < (msOf base n s rows).size → ∀ d ∈ (msOf base n s rows).succ c, d < (msOf base n s rows).size := by
  intro c hc d hd
  have hc' : c < base ^ n := hc
  unfold MS.succ MS.en at hd
  simp only [List.mem_map, List.mem_filter, List.mem_range] at hd
  obtain ⟨j, ⟨hj, _⟩, rfl⟩ := hd
  have hj' : j < rows.length := by rw [show (msOf base n s rows).rules.length = rows.length from List.length_map ..] at hj; exact hj
  show (rows[j]?.map fun r => tgt base n r c).getD 0 < base ^ n
  rw [List.getElem?_eq_getElem hj']
  exact (tgt_ok hp rows[j] hc').2.1

omit hp hs in
theorem full_test (i : Nat) : (fullOf base n).testBit i = decide (i < base ^ n) := Nat.testBit_two_pow_sub_one ..

theorem full_closed : fullOf base n ∈ closedL (fullOf base n) s (edgesOf base n rows) := by
  unfold closedL
  refine List.mem_filter.mpr ⟨by simp, closed_iff.mpr ⟨by rw [full_test]; exact decide_eq_true hs, fun c hc _ d hd => ?_⟩⟩
  rw [full_test]
  exact decide_eq_true (succ_lt hp hs c hc d hd)

theorem bfs_least (i : Nat) (hi : i < base ^ n) : (leastOf (fullOf base n) (closedL (fullOf base n) s (edgesOf base n rows))).testBit i = decide (i ∈ bfs (msOf base n s rows) (base ^ n) [s] 0) := by
  rw [least_test, full_test, decide_eq_true hi, Bool.true_and]
  have hgood0 : Good (msOf base n s rows).size [s] := ⟨by simp, fun x hx => by simp at hx; subst hx; exact hs⟩
  have hgood := bfs_good (msOf base n s rows) (succ_lt hp hs) (base ^ n) [s] 0 hgood0
  have hcl := bfs_closed (msOf base n s rows) (succ_lt hp hs) (base ^ n) [s] 0 hgood0 (Nat.le_refl _) (fun i hi => by omega)
  rw [Bool.eq_iff_iff, List.all_eq_true, decide_eq_true_eq]
  constructor
  · intro h
    have hm : maskOf (bfs (msOf base n s rows) (base ^ n) [s] 0) ∈ closedL (fullOf base n) s (edgesOf base n rows) := by
      unfold closedL
      refine List.mem_filter.mpr ⟨List.mem_range.mpr ?_, closed_iff.mpr ⟨?_, fun c hc hb d hd => ?_⟩⟩
      · have := maskOf_lt (n := base ^ n) hgood.2
        have : 0 < 2 ^ (base ^ n) := Nat.pow_pos (by decide)
        show _ < 2 ^ (base ^ n) - 1 + 1
        omega
      · rw [maskOf_test]; exact decide_eq_true (bfs_mono _ _ _ _ s (by simp))
      · rw [maskOf_test] at hb ⊢
        exact decide_eq_true (hcl c (of_decide_eq_true hb) d hd)
    have := h _ hm
    rw [maskOf_test] at this
    exact of_decide_eq_true this
  · intro hb mk hmk
    have hc := closed_iff.mp (List.mem_filter.mp hmk).2
    have := bfs_sub (msOf base n s rows) (K := fun c => mk.testBit c = true ∧ c < base ^ n) (fun c hK d hd => ⟨hc.2 c hK.2 hK.1 d hd, succ_lt hp hs c hK.2 d hd⟩) (base ^ n) [s] 0 (fun x hx => by simp at hx; subst hx; exact ⟨hc.1, hs⟩) i hb
    exact this.1


theorem found_perm : (foundOf base n s rows).Perm (bfs (msOf base n s rows) (msOf base n s rows).size [(msOf base n s rows).s0] 0) := by
  have hgood0 : Good (msOf base n s rows).size [s] := ⟨by simp, fun x hx => by simp at hx; subst hx; exact hs⟩
  have hgood := bfs_good (msOf base n s rows) (succ_lt hp hs) (base ^ n) [s] 0 hgood0
  refine (List.perm_ext_iff_of_nodup (List.Pairwise.filter _ List.nodup_range) hgood.1).mpr fun i => ?_
  rw [List.mem_filter, List.mem_range]
  constructor
  · rintro ⟨h1, h2⟩
    rw [bfs_least hp hs i h1] at h2
    exact of_decide_eq_true h2
  · intro h
    have h1 : i < base ^ n := hgood.2 i h
    exact ⟨h1, by rw [bfs_least hp hs i h1]; exact decide_eq_true h⟩
omit hp hs in
theorem found_sorted : (foundOf base n s rows).Pairwise (· ≤ ·) := by
  unfold foundOf
  exact List.Pairwise.filter _ (List.pairwise_lt_range.imp fun h => Nat.le_of_lt h)

/-- a property as its mask says -/
theorem ind_closed {mk : Nat} (hmk : mk ≤ fullOf base n) {P : Nat → Int} (hP : ∀ c, c < base ^ n → (P c != 0) = mk.testBit c) : indR (msOf base n s rows) P = decide (mk ∈ closedL (fullOf base n) s (edgesOf base n rows)) := by
  have e : mk ∈ closedL (fullOf base n) s (edgesOf base n rows) ↔ isClosed s (edgesOf base n rows) mk = true := by
    unfold closedL
    rw [List.mem_filter, List.mem_range]
    exact ⟨fun h => h.2, fun h => ⟨by omega, h⟩⟩
  rw [Bool.eq_iff_iff, decide_eq_true_eq, e, closed_iff]
  unfold indR
  rw [Bool.and_eq_true, List.all_eq_true]
  have h0 : (P (msOf base n s rows).s0 != 0) = mk.testBit s := hP s hs
  rw [h0]
  refine and_congr Iff.rfl ⟨fun h c hc hb d hd => ?_, fun h c hc => ?_⟩
  · have := h c (List.mem_range.mpr hc)
    unfold okAt at this
    rw [Bool.or_eq_true, List.all_eq_true] at this
    rcases this with h1 | h1
    · have h2 := hP c hc
      rw [hb] at h2
      simp at h1 h2; exact absurd h1 h2
    · unfold MS.succ at hd
      obtain ⟨j, hj, rfl⟩ := List.mem_map.mp hd
      have h2 := h1 j hj
      have hlt := succ_lt (rows := rows) hp hs c hc ((msOf base n s rows).T c j) (List.mem_map.mpr ⟨j, hj, rfl⟩)
      rw [hP _ hlt] at h2
      exact h2
  · have hc' : c < base ^ n := List.mem_range.mp hc
    unfold okAt
    rw [Bool.or_eq_true, List.all_eq_true]
    cases hb : mk.testBit c with
    | false =>
      refine .inl ?_
      have := hP c hc'
      rw [hb] at this
      simpa using this
    | true =>
      refine .inr fun j hj => ?_
      have hm : (msOf base n s rows).T c j ∈ (msOf base n s rows).succ c := List.mem_map.mpr ⟨j, hj, rfl⟩
      rw [hP _ (succ_lt hp hs c hc' _ hm)]
      exact h c hc' hb _ hm
end

noncomputable def prodFrom (mk : Nat) (cv : Int) : List Nat → Int → Int
  | [], a => a
  | c :: r, a => prodFrom mk cv r (if mk.testBit c then a else a * (cv - c))
theorem prod_ne (mk : Nat) (cv : Int) : ∀ (cs : List Nat) (a : Int), (prodFrom mk cv cs a != 0) = (a != 0 && cs.all fun c => mk.testBit c || cv != (c : Int))
  | [], a => by simp [prodFrom]
  | c :: r, a => by
    unfold prodFrom
    rw [prod_ne mk cv r, List.all_cons]
    cases hb : mk.testBit c with
    | true => simp
    | false =>
      rw [if_neg (by simp), Bool.false_or, ← Bool.and_assoc]
      congr 1
      rw [Bool.eq_iff_iff]
      simp only [bne_iff_ne, ne_eq, Bool.and_eq_true]
      rw [Int.mul_eq_zero, not_or]
      constructor
      · rintro ⟨h1, h2⟩; exact ⟨h1, fun h => h2 (by omega)⟩
      · rintro ⟨h1, h2⟩; exact ⟨h1, fun h => h2 (by omega)⟩

theorem run_num {st stk : List Int} {i : Int} : stepV st ("num", i) stk = some (i :: stk) := by unfold stepV; rw [if_pos nn]
theorem step_sub {st stk : List Int} {x y i : Int} : stepV st ("-", i) (y :: x :: stk) = some ((x - y) :: stk) := by
  unfold stepV
  rw [if_neg (by decide +kernel : ¬ (("-" : Str) == "num") = true), if_neg (by decide +kernel : ¬ (("-" : Str) == "var") = true), if_neg (by decide +kernel : ¬ (("-" : Str) == "not") = true)]
  show (if (("-" : Str) == "*" && !(decide (x.natAbs < 2 ^ 60))) = true then none else some (applyOp "-" x y :: stk)) = _
  rw [show (("-" : Str) == "*") = false by decide +kernel]
  rfl
theorem step_add {st stk : List Int} {x y i : Int} : stepV st ("+", i) (y :: x :: stk) = some ((x + y) :: stk) := by
  unfold stepV
  rw [if_neg (by decide +kernel : ¬ (("+" : Str) == "num") = true), if_neg (by decide +kernel : ¬ (("+" : Str) == "var") = true), if_neg (by decide +kernel : ¬ (("+" : Str) == "not") = true)]
  show (if (("+" : Str) == "*" && !(decide (x.natAbs < 2 ^ 60))) = true then none else some (applyOp "+" x y :: stk)) = _
  rw [show (("+" : Str) == "*") = false by decide +kernel]
  rfl
theorem step_mul {st stk : List Int} {x y i : Int} (h : x.natAbs < 2 ^ 60) : stepV st ("*", i) (y :: x :: stk) = some ((x * y) :: stk) := by
  unfold stepV
  rw [if_neg (by decide +kernel : ¬ (("*" : Str) == "num") = true), if_neg (by decide +kernel : ¬ (("*" : Str) == "var") = true), if_neg (by decide +kernel : ¬ (("*" : Str) == "not") = true)]
  show (if (("*" : Str) == "*" && !(decide (x.natAbs < 2 ^ 60))) = true then none else some (applyOp "*" x y :: stk)) = _
  rw [decide_eq_true h]
  simp
  rfl
theorem step_var {st stk : List Int} {i : Nat} {v : Int} (h : st[i]? = some v) : stepV st ("var", (i : Int)) stk = some (v :: stk) := by
  unfold stepV
  rw [if_neg vn, if_pos vv, if_pos (by omega)]
  show (st[((i : Nat) : Int).toNat]?).map _ = _
  rw [Int.toNat_natCast, h]; rfl

theorem run_code {base : Int} {st stk : List Int} (hl : st.length = 1 ∨ st.length = 2) (hs : ∀ v ∈ st, 0 ≤ v ∧ v < 1000) : runV st (codeI base st.length) stk = some (codeL base st :: stk) := by
  rcases hl with h | h
  · match st, h with
    | [v], _ =>
      show (stepV [v] ("var", ((0 : Nat) : Int)) stk).bind _ = _
      rw [step_var (i := 0) rfl]
      show some (v :: stk) = _
      simp [codeL]
  · match st, h with
    | [v, w], _ =>
      have hv := hs v (by simp)
      show (stepV [v, w] ("var", ((0 : Nat) : Int)) stk).bind (runV [v, w] [("num", base), ("*", 0), ("var", 1), ("+", 0)]) = _
      rw [step_var (i := 0) rfl]
      show (stepV [v, w] ("num", base) (v :: stk)).bind (runV [v, w] [("*", 0), ("var", 1), ("+", 0)]) = _
      rw [run_num]
      show (stepV [v, w] ("*", 0) (base :: v :: stk)).bind (runV [v, w] [("var", 1), ("+", 0)]) = _
      rw [step_mul (by omega)]
      show (stepV [v, w] ("var", ((1 : Nat) : Int)) (v * base :: stk)).bind (runV [v, w] [("+", 0)]) = _
      rw [step_var (i := 1) rfl]
      show (stepV [v, w] ("+", 0) (w :: v * base :: stk)).bind (runV [v, w] []) = _
      rw [step_add]
      simp [codeL, runV]

theorem run_prop {base : Int} {st : List Int} {mk : Nat} (hl : st.length = 1 ∨ st.length = 2) (hs : ∀ v ∈ st, 0 ≤ v ∧ v < 1000) : ∀ (cs : List Nat) (made : List (Str × Int)) (a : Int), runV st made [] = some [a] → a.natAbs * 8 ^ cs.length < 2 ^ 60 → (∀ c ∈ cs, (codeL base st - (c : Int)).natAbs ≤ 8) →
    runV st (propFrom mk base st.length cs made) [] = some [prodFrom mk (codeL base st) cs a]
  | [], _, _, h, _, _ => h
  | c :: r, made, a, h, hz, hc => by
    have hpow : 0 < 8 ^ r.length := Nat.pow_pos (by decide)
    rw [List.length_cons, Nat.pow_succ] at hz
    have hz' : a.natAbs * 8 ^ r.length * 8 < 2 ^ 60 := by rw [Nat.mul_assoc]; exact hz
    have ha : a.natAbs < 2 ^ 60 := by
      have : a.natAbs * 1 ≤ a.natAbs * 8 ^ r.length := Nat.mul_le_mul_left _ hpow
      omega
    unfold propFrom prodFrom
    cases hb : mk.testBit c with
    | true =>
      rw [if_pos rfl, if_pos rfl]
      exact run_prop hl hs r made a h (by omega) fun x hx => hc x (by simp [hx])
    | false =>
      rw [if_neg (by simp), if_neg (by simp)]
      refine run_prop hl hs r _ _ ?_ ?_ fun x hx => hc x (by simp [hx])
      · rw [runV_append, runV_append, h]
        show (((runV st (codeI base st.length) [a])).bind _) = _
        rw [run_code hl hs]
        show (stepV st ("num", (c : Int)) [codeL base st, a]).bind (runV st [("-", 0), ("*", 0)]) = _
        rw [run_num]
        show (stepV st ("-", 0) [(c : Int), codeL base st, a]).bind (runV st [("*", 0)]) = _
        rw [step_sub]
        show (stepV st ("*", 0) [codeL base st - c, a]).bind (runV st []) = _
        rw [step_mul ha]
        rfl
      · rw [Int.natAbs_mul]
        have h1 := hc c (by simp)
        have h2 : a.natAbs * (codeL base st - (c : Int)).natAbs * 8 ^ r.length ≤ a.natAbs * 8 * 8 ^ r.length := Nat.mul_le_mul_right _ (Nat.mul_le_mul_left _ h1)
        have h3 : a.natAbs * 8 * 8 ^ r.length = a.natAbs * 8 ^ r.length * 8 := by rw [Nat.mul_assoc, Nat.mul_comm 8, ← Nat.mul_assoc]
        omega

theorem propFrom_len (mk : Nat) (base n : Int) : ∀ (cs : List Nat) (made : List (Str × Int)), (propFrom mk base n cs made).length ≤ made.length + 8 * cs.length
  | [], made => by simp [propFrom]
  | c :: r, made => by
    unfold propFrom
    refine Nat.le_trans (propFrom_len mk base n r _) ?_
    have hc := codeI_len base n
    split
    · simp only [List.length_cons]; omega
    · simp only [List.length_append, List.length_cons, List.length_nil]; omega

noncomputable def propP (base n mk c : Nat) : Int := prodFrom mk c (List.range (base ^ n)) 1

theorem prop_val {base n : Nat} (hp : (base, n) ∈ boxes) (mk : Nat) {c : Nat} (hc : c < base ^ n) : valE (propI mk (base ^ n) base n) (stS base n c) = some (propP base n mk c) ∧ (propP base n mk c != 0) = mk.testBit c ∧ (propI mk (base ^ n) base n).length ≤ 100 := by
  obtain ⟨_, hb, hb5, hn, hn2, hsz, h12⟩ := box_facts _ hp
  obtain ⟨_, h2, h3, _⟩ := box_states _ hp c hc
  simp only at hsz h12 h2 h3
  have hz : 8 ^ (List.range (base ^ n)).length ≤ 8 ^ 5 := Nat.pow_le_pow_right (by decide) (by rw [List.length_range]; exact hsz)
  refine ⟨?_, ?_, ?_⟩
  · have := run_prop (base := (base : Int)) (st := stS base n c) (mk := mk) (by rw [h2]; exact h12) (st_small hp hc) (List.range (base ^ n)) [("num", 1)] 1 (by show (stepV _ ("num", 1) []).bind _ = _; rw [run_num]; rfl) ?_ ?_
    · rw [h2, h3] at this
      unfold valE propI
      rw [this]; rfl
    · have : (1 : Int).natAbs = 1 := rfl
      rw [this, Nat.one_mul]
      exact Nat.lt_of_le_of_lt hz (by decide)
    · intro x hx
      rw [h3]
      have := List.mem_range.mp hx
      omega
  · unfold propP
    rw [prod_ne]
    rw [Bool.eq_iff_iff, Bool.and_eq_true, List.all_eq_true]
    constructor
    · rintro ⟨_, h⟩
      have := h c (List.mem_range.mpr hc)
      simpa using this
    · intro h
      refine ⟨rfl, fun x hx => ?_⟩
      by_cases hxc : x = c
      · subst hxc; rw [h]; rfl
      · have : ((c : Int) != (x : Int)) = true := by simp; omega
        rw [this, Bool.or_true]
  · have := propFrom_len mk base n (List.range (base ^ n)) [("num", 1)]
    rw [List.length_range] at this
    unfold propI
    simp only [List.length_cons, List.length_nil] at this
    omega

/-! strings of a model and of a property may be laid -/
noncomputable def itemsOk (e : List (Str × Int)) : Prop := ∀ i ∈ e, PyData.strOk i.1 = true
theorem itemsOk_append {a b : List (Str × Int)} (h1 : itemsOk a) (h2 : itemsOk b) : itemsOk (a ++ b) := fun i hi => (List.mem_append.mp hi).elim (h1 i) (h2 i)
theorem itemsOk_one {x : Str} {i : Int} (h : PyData.strOk x = true) : itemsOk [(x, i)] := fun j hj => by simp at hj; subst hj; exact h
theorem opN_ok (o : Int) (h0 : 0 ≤ o) (h1 : o < 9) : PyData.strOk (opN o) = true := by
  rcases nine h0 h1 with rfl | rfl | rfl | rfl | rfl | rfl | rfl | rfl | rfl <;> decide +kernel
theorem leaf_ok (a n : Int) : itemsOk [leafI a n] := by
  unfold leafI
  split
  · exact itemsOk_one (by decide +kernel)
  · exact itemsOk_one (by decide +kernel)
theorem notIf_ok (c : Bool) : itemsOk (notIf c) := by
  unfold notIf
  split
  · exact itemsOk_one (by decide +kernel)
  · intro i hi; cases hi
theorem expr_ok (a o b n : Int) : itemsOk (exprI a o b n) := by
  unfold exprI
  exact itemsOk_append (itemsOk_append (itemsOk_append (leaf_ok a n) (itemsOk_append (leaf_ok b n) (notIf_ok _))) (itemsOk_one (opN_ok _ (by omega) (by omega)))) (notIf_ok _)
theorem code_ok (base n : Int) : itemsOk (codeI base n) := by
  unfold codeI
  split
  · intro i hi
    simp only [List.mem_cons, List.not_mem_nil, or_false] at hi
    rcases hi with rfl | rfl | rfl | rfl | rfl <;> dsimp only <;> decide +kernel
  · exact itemsOk_one (by decide +kernel)
theorem propFrom_ok (mk : Nat) (base n : Int) : ∀ (cs : List Nat) (made : List (Str × Int)), itemsOk made → itemsOk (propFrom mk base n cs made)
  | [], _, h => h
  | c :: r, made, h => by
    unfold propFrom
    refine propFrom_ok mk base n r _ ?_
    split
    · exact h
    · refine itemsOk_append (itemsOk_append h (code_ok base n)) fun i hi => ?_
      simp only [List.mem_cons, List.not_mem_nil, or_false] at hi
      rcases hi with rfl | rfl | rfl <;> dsimp only <;> decide +kernel
theorem prop_ok (mk size : Nat) (base n : Int) : itemsOk (propI mk size base n) := propFrom_ok mk base n _ _ (itemsOk_one (by decide +kernel))

noncomputable abbrev boxD (base n : Nat) : Dat := .lst ((boxS base n).map fun b => .lst (intL b))
noncomputable def edgeD (e : Nat × Nat) : Dat := .tup [.int e.1, .int e.2]

theorem bitAnd_nat (a b : Nat) : Builtin.bitAnd (a : Int) (b : Int) = ((a &&& b : Nat) : Int) := by
  unfold Builtin.bitAnd
  rw [decide_eq_true (Int.natCast_nonneg a), decide_eq_true (Int.natCast_nonneg b)]
  show (((a : Int).toNat &&& (b : Int).toNat : Nat) : Int) = _
  rw [Int.toNat_natCast, Int.toNat_natCast]


theorem okW_tup {n : Nat} {ds : List Dat} (h : ∀ d ∈ ds, okW n d = true) : okW (n + 1) (.tup ds) = true := by
  simpa [okW, toW, PySem.W.kqdOk, toWs_eq] using h
theorem okW_lst {n : Nat} {ds : List Dat} (h : ∀ d ∈ ds, okW n d = true) : okW (n + 1) (.lst ds) = true := by
  simpa [okW, toW, PySem.W.kqdOk, toWs_eq] using h
theorem okW_int {n : Nat} {i : Int} : okW n (.int i) = true := by cases n <;> rfl
theorem okW_str {n : Nat} {x : Str} (h : PyData.strOk x = true) : okW n (.str x) = true := by cases n <;> exact h
theorem okW_expr {n : Nat} {e : List (Str × Int)} (h : itemsOk e) : okW (n + 2) (exprD e) = true := by
  refine okW_lst fun d hd => ?_
  obtain ⟨i, hi, rfl⟩ := List.mem_map.mp hd
  refine okW_tup fun d hd => ?_
  simp only [List.mem_cons, List.not_mem_nil, or_false] at hd
  rcases hd with rfl | rfl
  · exact okW_str (h i hi)
  · exact okW_int
theorem okW_rule {m : Nat} (n : Int) (r : Row) : okW (m + 5) (ruleD (ruleI n r)) = true := by
  refine okW_tup fun d hd => ?_
  simp only [List.mem_cons, List.not_mem_nil, or_false] at hd
  rcases hd with rfl | rfl
  · exact okW_expr (n := m + 2) (expr_ok _ _ _ _)
  · refine okW_lst fun d hd => ?_
    obtain ⟨i, hi, rfl⟩ := List.mem_map.mp hd
    have hi' := List.mem_of_mem_take hi
    refine okW_tup fun d hd => ?_
    simp only [List.mem_cons, List.not_mem_nil, or_false] at hd hi'
    rcases hd with rfl | rfl
    · exact okW_int
    · rcases hi' with rfl | rfl <;> exact okW_expr (n := m) (expr_ok _ _ _ _)
theorem okW_model (base : Int) (start : List Int) (n : Int) (rows : List Row) : okW 9 (modelD base start (rows.map (ruleI n))) = true := by
  refine okW_tup fun d hd => ?_
  simp only [List.mem_cons, List.not_mem_nil, or_false] at hd
  rcases hd with rfl | rfl | rfl
  · exact okW_int
  · exact okW_ints 7 _
  · refine okW_lst fun d hd => ?_
    rw [List.map_map] at hd
    obtain ⟨r, _, rfl⟩ := List.mem_map.mp hd
    exact okW_rule (m := 2) n r

theorem natD_intL (js : List Nat) : natD js = intL (js.map fun (j : Nat) => (j : Int)) := by simp [natD, intL]
theorem mem_cast {a : Nat} {l : List Nat} : ((a : Int) ∈ l.map fun (j : Nat) => (j : Int)) ↔ a ∈ l := by
  rw [List.mem_map]
  constructor
  · rintro ⟨b, hb, e⟩; have : b = a := by omega
    rw [← this]; exact hb
  · intro h; exact ⟨a, h, rfl⟩

noncomputable abbrev lawB : List Stmt := bodyOf (fdef 22)
noncomputable abbrev False1 : Sig → Prop := fun _ => False
noncomputable abbrev RT : Dat → Prop := fun d => d = .bool true

theorem get_script {C : Act} {k : Nat} {σ : Sig} {p1 p2 pos : Pos} {kk : Nat} {ns : List Int} {j : Nat} {v : Int} (h : Has σ "script" (.val (.lst (intL ns)))) (hv : ns[j]? = some v) (hz : ns.length ≤ 16777216) : Ev C k σ (.Subscript (.Name "script" p1) (.Constant (.int (j : Nat)) kk p2) pos) (.int v) :=
  ev_idx (Ev.b (ev_name h (by decide +kernel))) ev_int (by omega) (intL_get (by rw [Int.toNat_natCast]; exact hv)) (by rw [intL_length]; exact hz) rfl

section
variable {C : Act} {c Pt bm : Addr} {ob : Obj} (hs : C.env.scope = scopeOf (fdef 22)) (hc : ∀ x, (scopeOf (fdef 22)).names.lookup x = some .cell → ∃ c, C.env.cells.lookup x = some c) (L : Lib2 C.T) (g : GenOk C c Pt bm ob)
  (ns : List Int) (hlen : 21 ≤ ns.length) (hz : ns.length ≤ 16777216) (base n s : Nat) (hp : (base, n) ∈ boxes) (hsl : s < base ^ n)
include hs hc L g hlen hz hp hsl

theorem stage29 (hm : ∀ a b, ns[20]? = some a → ns[1]? = some b → IntMulOk a b) (σ : Sig) (h1 : Has σ "script" (.val (.lst (intL ns)))) : Ex C 14 σ (lawB.drop 29) False1 False1 RT := by
  have L0 : Lib C.T := L.toLib
  obtain ⟨v19, e19⟩ : ∃ v, ns[19]? = some v := ⟨_, List.getElem?_eq_getElem (by omega)⟩
  obtain ⟨v20, e20⟩ : ∃ v, ns[20]? = some v := ⟨_, List.getElem?_eq_getElem (by omega)⟩
  obtain ⟨v1, e1⟩ : ∃ v, ns[1]? = some v := ⟨_, List.getElem?_eq_getElem (by omega)⟩
  have hmul := hm v20 v1 e20 e1
  walk_at "body"
  refine ex_assign (by walk_at "wr") (ev_bin (get_script h1 e19 hz) ev_int (bin_mod (by decide))) rfl ?_
  have hw0 : 0 ≤ v19 % 9 := Int.emod_nonneg _ (by decide)
  have hw1 : v19 % 9 < 9 := Int.emod_lt_of_pos _ (by decide)
  have h1' : Has (("w", .val (.int (v19 % 9))) :: σ) "script" (.val (.lst (intL ns))) := lk_tail (by decide +kernel) h1
  refine ex_assign (by walk_at "wr") (ev_call (by walk_at "gl") (by decide +kernel) (evL_cons (ev_ops L0 (by walk_at "gl") (by walk_at "ev") hw0 hw1 rfl) (evL_cons (get_script h1' e20 hz) (evL_cons (get_script h1' e1 hz) evL_nil (fun _ => rfl)) (fun _ => rfl)) (fun _ => rfl)) (fn_apply_op L0 (opN (v19 % 9)) v20 v1 (fun _ => hmul)) (by omega) rfl) rfl ?_
  have h1'' : Has (("value", .val (.int (applyOp (opN (v19 % 9)) v20 v1))) :: ("w", .val (.int (v19 % 9))) :: σ) "script" (.val (.lst (intL ns))) := lk_tail (by decide +kernel) h1'
  refine ex_if (tr_cmp (by walk_at "ev") (ev_call (by walk_at "gl") (by decide +kernel) (evL_cons (by walk_at "ev") (evL_cons (get_script h1'' e20 hz) (evL_cons (get_script h1'' e1 hz) evL_nil (fun _ => rfl)) (fun _ => rfl)) (fun _ => rfl)) (fn_op L0 (v19 % 9) v20 v1 hw0 hw1 hmul) (by omega) rfl) cmp_ne (by omega) rfl) (fun h => ?_) (fun h => ex_nil ?_)
  · rw [op_eq _ _ _ hw0 hw1] at h; simp at h
  refine ex_if (tr_not (tr_isInt (by walk_at "gl") L.gtype L.btype (by walk_at "gl") L.gint L.bint (by walk_at "ev") rfl)) (fun h => by cases h) (fun h => ex_nil ?_)
  exact ex_ret ev_bool rfl

variable (rows : List Row) (hrows : rows.length ≤ 2)
include hrows

theorem stage23 (hm : ∀ a b, ns[20]? = some a → ns[1]? = some b → IntMulOk a b) (mk : Nat) (hmk : mk ≤ fullOf base n) (σ : Sig) (h1 : Has σ "script" (.val (.lst (intL ns)))) (h2 : Has σ "model" (.val (msOf base n s rows).D)) (h3 : Has σ "twin" (.val (msOf base n s rows).D)) (h4 : Has σ "closed" (.val (.lst (natD (closedL (fullOf base n) s (edgesOf base n rows))))))
    (h5 : Has σ "mask" (.val (.int mk))) (h6 : Has σ "size" (.val (.int (base ^ n : Nat)))) (h7 : Has σ "base" (.val (.int base))) (h8 : Has σ "n" (.val (.int n))) : Ex C 14 σ (lawB.drop 23) False1 False1 RT := by
  have L0 : Lib C.T := L.toLib
  obtain ⟨_, hb, hb5, hn, hn2, hsz, h12⟩ := box_facts _ hp
  simp only at hsz
  have M := ms_ok hp hsl rows hrows
  have hP : ∀ c, c < (msOf base n s rows).size → valE (propI mk (base ^ n) base n) ((msOf base n s rows).S c) = some (propP base n mk c) := fun c hc => (prop_val hp mk hc).1
  have hpl : (propI mk (base ^ n) base n).length ≤ 1000 := by have := (prop_val hp mk hsl).2.2; omega
  have hind := ind_closed (rows := rows) hp hsl hmk (P := propP base n mk) (fun c hc => (prop_val hp mk hc).2.1)
  walk_at "body"
  refine ex_assign (by walk_at "wr") (ev_call (by walk_at "gl") (by decide +kernel) (by walk_at "evl") (fn_prop L0 mk (base ^ n) base n (by omega)) (by omega) rfl) rfl ?_
  refine ex_assign (by walk_at "wr") (ev_call (by walk_at "gl") (by decide +kernel) (by walk_at "evl") (fn_prop L0 mk (base ^ n) base n (by omega)) (by omega) rfl) rfl ?_
  refine ex_assign (by walk_at "wr") (ev_call (by walk_at "gl") (by decide +kernel) (by walk_at "evl") (fn_is_inductive L0 M _ hpl _ hP) (by omega) rfl) rfl ?_
  have fin : ∀ σ, Has σ "script" (.val (.lst (intL ns))) → Has σ "model" (.val (msOf base n s rows).D) → Has σ "twin" (.val (msOf base n s rows).D) → Has σ "prop" (.val (exprD (propI mk (base ^ n) base n))) → Has σ "again" (.val (exprD (propI mk (base ^ n) base n))) → Ex C 14 σ (lawB.drop 27) False1 False1 RT := by
    intro σ k1 k2 k3 k4 k5
    walk_at "body"
    refine ex_if (tr_neD (b := false) (d1 := (msOf base n s rows).D) (d2 := (msOf base n s rows).D) (by walk_at "ev") (by walk_at "ev") (okW_model _ _ _ _) (okW_model _ _ _ _) (by simp) (by omega) rfl) (fun h => by cases h) (fun _ => ex_nil ?_)
    refine ex_if (tr_neD (b := false) (d1 := exprD (propI mk (base ^ n) base n)) (d2 := exprD (propI mk (base ^ n) base n)) (by walk_at "ev") (by walk_at "ev") (okW_expr (n := 7) (prop_ok _ _ _ _)) (okW_expr (n := 7) (prop_ok _ _ _ _)) (by simp) (by omega) rfl) (fun h => by cases h) (fun _ => ex_nil ?_)
    exact stage29 hs hc L g ns hlen hz base n s hp hsl hm σ k1
  refine ex_if (tr_inI (a := mk) (b := (closedL (fullOf base n) s (edgesOf base n rows)).map fun (j : Nat) => (j : Int)) (by walk_at "ev") (by rw [← natD_intL]; walk_at "ev") (by omega) rfl) (fun h => ?_) (fun h => ?_)
  · have hin : mk ∈ closedL (fullOf base n) s (edgesOf base n rows) := mem_cast.mp (of_decide_eq_true h)
    rw [decide_eq_true hin] at hind
    refine ex_if (tr_cmp (by walk_at "ev") ev_bool cmp_isnot (by omega) rfl) (fun h => ?_) (fun h => ex_nil (ex_nil ?_))
    · rw [hind] at h; cases h
    · exact fin _ (by walk_at "lk") (by walk_at "lk") (by walk_at "lk") (by walk_at "lk") (by walk_at "lk")
  · have hin : ¬ mk ∈ closedL (fullOf base n) s (edgesOf base n rows) := fun hq => of_decide_eq_false h (mem_cast.mpr hq)
    rw [decide_eq_false hin] at hind
    refine ex_if (tr_cmp (by walk_at "ev") ev_bool cmp_isnot (by omega) rfl) (fun h => ?_) (fun h => ex_nil (ex_nil ?_))
    · rw [hind] at h; cases h
    · exact fin _ (by walk_at "lk") (by walk_at "lk") (by walk_at "lk") (by walk_at "lk") (by walk_at "lk")
end

theorem kept_H {C : Act} {β : Bs} {σ : Sig} {G1 : PMap} {s1 s2 : Shared} (I : Inv C β σ G1 s1) (k : Kept C s1 s2) : Sub C.T.H s2.heap.get? := fun b o e => k b o (I.sub _ _ (I.text _ _ e)) fun hp => by
  have := I.text _ _ e; rw [(I.off b hp).2] at this; cases this
theorem kept_cell {C : Act} {β : Bs} {σ : Sig} {G1 : PMap} {s1 s2 : Shared} {x : Str} {mk : Nat} (I : Inv C β σ G1 s1) (k : Kept C s1 s2) (hx : Has σ x (.val (.int mk))) (hk : C.env.kindOf x = some .cell) : ∃ cm tm, C.env.cells.lookup x = some cm ∧ s2.heap.IsCell cm (some (.int mk tm)) := by
  obtain ⟨ad, v1, _⟩ := I.vals
  obtain ⟨v, loc, hrep⟩ := v1 x _ hx
  obtain ⟨tm, rfl⟩ : ∃ tm, v = .int mk tm := by cases hrep; exact ⟨_, rfl⟩
  rcases loc with ⟨e1, _⟩ | ⟨h1, cm, h2, o, ho, hd⟩
  · rw [hk] at e1; cases e1
  · exact ⟨cm, tm, h2, o, k _ _ ho (I.cells x cm h1 h2).2.1, hd⟩

noncomputable def bitP (mk : Nat) : Dat → Bool
  | .int i => mk.testBit i.toNat
  | _ => false
theorem bit_filter (mk size : Nat) : ((rangeD size).filter (bitP mk)).map (fun d => d) = natD ((List.range size).filter fun c => mk.testBit c) := by
  unfold rangeD natD
  rw [List.filter_map, List.map_id']
  congr 1

section
variable {C : Act} {c Pt bm : Addr} {ob : Obj} (hs : C.env.scope = scopeOf (fdef 22)) (hc : ∀ x, (scopeOf (fdef 22)).names.lookup x = some .cell → ∃ c, C.env.cells.lookup x = some c) (L : Lib2 C.T) (g : GenOk C c Pt bm ob)
  (ns : List Int) (hlen : 21 ≤ ns.length) (hz : ns.length ≤ 16777216) (base n s : Nat) (hp : (base, n) ∈ boxes) (hsl : s < base ^ n) (rows : List Row) (hrows : rows.length ≤ 2)
include hs hc L g hlen hz hp hsl hrows

theorem stage20 (hm : ∀ a b, ns[20]? = some a → ns[1]? = some b → IntMulOk a b) (σ : Sig) (h1 : Has σ "script" (.val (.lst (intL ns)))) (h2 : Has σ "model" (.val (msOf base n s rows).D)) (h3 : Has σ "twin" (.val (msOf base n s rows).D)) (h4 : Has σ "closed" (.val (.lst (natD (closedL (fullOf base n) s (edgesOf base n rows))))))
    (h5 : Has σ "least" (.val (.int (leastOf (fullOf base n) (closedL (fullOf base n) s (edgesOf base n rows)))))) (h6 : Has σ "size" (.val (.int (base ^ n : Nat)))) (h7 : Has σ "base" (.val (.int base))) (h8 : Has σ "n" (.val (.int n))) (h9 : Has σ "full" (.val (.int (fullOf base n)))) : Ex C 14 σ (lawB.drop 20) False1 False1 RT := by
  have L0 : Lib C.T := L.toLib
  obtain ⟨v17, e17⟩ : ∃ v, ns[17]? = some v := ⟨_, List.getElem?_eq_getElem (by omega)⟩
  obtain ⟨x, e18⟩ : ∃ v, ns[18]? = some v := ⟨_, List.getElem?_eq_getElem (by omega)⟩
  obtain ⟨_, hb, hb5, hn, hn2, hsz, h12⟩ := box_facts _ hp
  simp only at hsz
  have hfull := full_closed (rows := rows) hp hsl
  generalize hcl : closedL (fullOf base n) s (edgesOf base n rows) = cl at h4 h5 hfull
  have hll := least_le (fullOf base n) cl
  generalize hle : leastOf (fullOf base n) cl = least at h5 hll
  have hcl_le : ∀ m ∈ cl, m ≤ fullOf base n := by
    intro m hm'
    rw [← hcl] at hm'
    unfold closedL at hm'
    have := List.mem_range.mp (List.mem_filter.mp hm').1
    omega
  have hcl_len : cl.length ≤ 100 := by
    rw [← hcl]
    unfold closedL
    have h1 : ((List.range (fullOf base n + 1)).filter (isClosed s (edgesOf base n rows))).length ≤ (List.range (fullOf base n + 1)).length := List.length_filter_le _ _
    rw [List.length_range] at h1
    have h2 : 2 ^ (base ^ n) ≤ 2 ^ 5 := Nat.pow_le_pow_right (by decide) hsz
    have h3 : 0 < 2 ^ (base ^ n) := Nat.pow_pos (by decide)
    have h4 : fullOf base n + 1 ≤ 32 := by show 2 ^ (base ^ n) - 1 + 1 ≤ 32; omega
    omega
  have hcl0 : 0 < cl.length := List.length_pos_of_mem hfull
  have hszp : 0 < base ^ n := by omega
  -- what the names hold
  let kx : Nat := (x % ((base ^ n : Nat) : Int)).toNat
  have hkx : ((kx : Nat) : Int) = x % ((base ^ n : Nat) : Int) := by
    have := Int.emod_nonneg x (b := ((base ^ n : Nat) : Int)) (by omega)
    show ((x % ((base ^ n : Nat) : Int)).toNat : Int) = _
    omega
  have hkx2 : kx < base ^ n := by
    have := Int.emod_lt_of_pos x (b := ((base ^ n : Nat) : Int)) (by omega)
    omega
  have hpow : 2 ^ kx ≤ fullOf base n := by
    have h1 : 2 ^ (kx + 1) ≤ 2 ^ (base ^ n) := Nat.pow_le_pow_right (by decide) hkx2
    rw [Nat.pow_succ] at h1
    have h2 : 0 < 2 ^ kx := Nat.pow_pos (by decide)
    show 2 ^ kx ≤ 2 ^ (base ^ n) - 1
    omega
  let fewer : Nat := least &&& (fullOf base n - 2 ^ kx)
  let rem : Nat := (x % ((fullOf base n + 1 : Nat) : Int)).toNat
  have hrem : ((rem : Nat) : Int) = x % ((fullOf base n + 1 : Nat) : Int) := by
    have := Int.emod_nonneg x (b := ((fullOf base n + 1 : Nat) : Int)) (by omega)
    show ((x % ((fullOf base n + 1 : Nat) : Int)).toNat : Int) = _
    omega
  have hrem2 : rem ≤ fullOf base n := by
    have := Int.emod_lt_of_pos x (b := ((fullOf base n + 1 : Nat) : Int)) (by omega)
    omega
  have hci : ((x % (cl.length : Int)).toNat) < cl.length := by
    have h1 := Int.emod_nonneg x (b := (cl.length : Int)) (by omega)
    have h2 := Int.emod_lt_of_pos x (b := (cl.length : Int)) (by omega)
    omega
  let pick : Nat := cl[(x % (cl.length : Int)).toNat]
  walk_at "body"
  refine ex_assign (by walk_at "wr") (get_script h1 e18 hz) rfl ?_
  refine ex_assign (by walk_at "wr") (d := .int fewer) ?_ rfl ?_
  · have e : ((fewer : Nat) : Int) = Builtin.bitAnd (least : Int) ((fullOf base n : Int) - 1 * 2 ^ (x % ((base ^ n : Nat) : Int)).toNat) := by
      have e1 : (fullOf base n : Int) - 1 * 2 ^ (x % ((base ^ n : Nat) : Int)).toNat = ((fullOf base n - 2 ^ kx : Nat) : Int) := by
        rw [Int.one_mul, Int.ofNat_sub hpow]
        show _ - (2 : Int) ^ kx = _ - ((2 ^ kx : Nat) : Int)
        rw [Int.natCast_pow]; rfl
      rw [e1, bitAnd_nat]
    rw [e]
    refine ev_bin (by walk_at "ev") (ev_bin (by walk_at "ev") (ev_bin ev_int (ev_bin (by walk_at "ev") (by walk_at "ev") (bin_mod (by omega))) (bin_shl (Int.emod_nonneg _ (by omega)) ?_)) bin_sub) bin_and
    have h1 : Builtin.Int.intBits 1 ≤ 10 := intBits_small (by decide)
    rw [← hkx]
    have : (Builtin.Int.intBits 1 : Int) ≤ 10 := by exact_mod_cast h1
    have h2 : kx ≤ 5 := by omega
    have h3 : ((kx : Nat) : Int) ≤ 5 := by exact_mod_cast h2
    have h4 : (2 : Int) ^ 27 = 134217728 := by decide
    rw [h4]; omega
  · have hi0 : 0 ≤ v17 % 5 := Int.emod_nonneg _ (by decide)
    have hi1 : v17 % 5 < 5 := Int.emod_lt_of_pos _ (by decide)
    obtain ⟨mk, hmk1, hmk2⟩ : ∃ mk, ([least, fewer, rem, pick, fullOf base n - least] : List Nat)[(v17 % 5).toNat]? = some mk ∧ mk ≤ fullOf base n := by
      have hlt : (v17 % 5).toNat < 5 := by omega
      refine ⟨_, List.getElem?_eq_getElem (by simpa using hlt), ?_⟩
      have all : ∀ m ∈ ([least, fewer, rem, pick, fullOf base n - least] : List Nat), m ≤ fullOf base n := by
        intro m hm'
        simp only [List.mem_cons, List.not_mem_nil, or_false] at hm'
        rcases hm' with rfl | rfl | rfl | rfl | rfl
        · exact hll
        · exact Nat.le_trans Nat.and_le_left hll
        · exact hrem2
        · exact hcl_le _ (List.getElem_mem hci)
        · omega
      exact all _ (List.getElem_mem _)
    have e1 : (fullOf base n : Int) - (least : Int) = ((fullOf base n - least : Nat) : Int) := by omega
    have h1' : Has (("fewer", .val (.int fewer)) :: ("x", .val (.int x)) :: σ) "script" (.val (.lst (intL ns))) := lk_tail (by decide +kernel) (lk_tail (by decide +kernel) h1)
    have hclen : ((natD cl).length : Int) = (cl.length : Int) := by rw [natD_length]
    refine ex_assign (by walk_at "wr") (d := .int mk) (ev_idxT (ds := ([least, fewer, rem, pick, fullOf base n - least] : List Nat).map fun (m : Nat) => Dat.int (m : Int)) (ev_tup (evL_cons (by walk_at "ev") (evL_cons (by walk_at "ev") (evL_cons ?_ (evL_cons ?_ (evL_cons ?_ evL_nil (fun _ => rfl)) (fun _ => rfl)) (fun _ => rfl)) (fun _ => rfl)) (fun _ => rfl)) (by simp)) (ev_bin (get_script h1' e17 hz) ev_int (bin_mod (by decide))) hi0 (by rw [List.getElem?_map, hmk1]; rfl) (by simp) rfl) rfl ?_
    · show Ev C 14 _ _ (.int (rem : Int))
      rw [hrem]
      have e2 : ((fullOf base n + 1 : Nat) : Int) = (fullOf base n : Int) + 1 := by omega
      rw [e2]
      exact ev_bin (by walk_at "ev") (ev_bin (by walk_at "ev") ev_int bin_add) (bin_mod (by omega))
    · show Ev C 14 _ _ (.int (pick : Int))
      refine ev_idx (by walk_at "evb") (ev_bin (by walk_at "ev") (by walk_at "ev") (bin_mod (by rw [natD_length]; omega))) ?_ (natD_get (c := pick) ?_) (by rw [natD_length]; omega) rfl
      · rw [hclen]; exact Int.emod_nonneg _ (by omega)
      · rw [hclen]; exact List.getElem?_eq_getElem hci
    · show Ev C 14 _ _ (.int ((fullOf base n - least : Nat) : Int))
      rw [← e1]; walk_at "ev"
    · refine stage23 hs hc L g ns hlen hz base n s hp hsl rows hrows hm mk hmk2 _ (by walk_at "lk") (by walk_at "lk") (by walk_at "lk") (by rw [hcl]; walk_at "lk") (by walk_at "lk") (by walk_at "lk") (by walk_at "lk") (by walk_at "lk")
end

theorem gen_kind {scope : Scope} {cl : List (Str × Addr)} {L : Addr} {code : Value} {bi : Addr} {env : Env} {x : Str} {k : NameKind} (h : scope.names.lookup x = some k) : (genEnv scope cl L code bi env).kindOf x = some k := h
theorem gen_free {C : Act} {osc scope : Scope} (hc : ∀ x, osc.names.lookup x = some .cell → ∃ c, C.env.cells.lookup x = some c) (h : ∀ y ∈ scope.names, y.2 = .free → osc.names.lookup y.1 = some .cell) : ∀ y ∈ scope.names, y.2 = .free → ∃ c, C.env.cells.lookup y.1 = some c := fun y hy hf => hc _ (h y hy hf)

section
variable {C : Act} {c Pt bm : Addr} {ob : Obj} (hs : C.env.scope = scopeOf (fdef 22)) (hc : ∀ x, (scopeOf (fdef 22)).names.lookup x = some .cell → ∃ c, C.env.cells.lookup x = some c) (L : Lib2 C.T) (g : GenOk C c Pt bm ob)
  (ns : List Int) (hlen : 21 ≤ ns.length) (hz : ns.length ≤ 16777216) (base n s : Nat) (hp : (base, n) ∈ boxes) (hsl : s < base ^ n) (rows : List Row) (hrows : rows.length ≤ 2)
include hs hc L g hlen hz hp hsl hrows

theorem stage17 (hm : ∀ a b, ns[20]? = some a → ns[1]? = some b → IntMulOk a b) (σ : Sig) (h1 : Has σ "script" (.val (.lst (intL ns)))) (h2 : Has σ "model" (.val (msOf base n s rows).D)) (h3 : Has σ "twin" (.val (msOf base n s rows).D)) (h4 : Has σ "closed" (.val (.lst (natD (closedL (fullOf base n) s (edgesOf base n rows))))))
    (h5 : Has σ "least" (.val (.int (leastOf (fullOf base n) (closedL (fullOf base n) s (edgesOf base n rows)))))) (h6 : Has σ "size" (.val (.int (base ^ n : Nat)))) (h7 : Has σ "base" (.val (.int base))) (h8 : Has σ "n" (.val (.int n))) (h9 : Has σ "full" (.val (.int (fullOf base n)))) : Ex C 14 σ (lawB.drop 17) False1 False1 RT := by
  have L0 : Lib C.T := L.toLib
  obtain ⟨_, hb, hb5, hn, hn2, hsz, h12⟩ := box_facts _ hp
  simp only at hsz
  have M := ms_ok hp hsl rows hrows
  have hfp := found_perm (rows := rows) hp hsl
  have hfs := found_sorted (base := base) (n := n) (s := s) (rows := rows)
  walk_at "body"
  refine ex_assign (by walk_at "wr") (ev_call (by walk_at "gl") (by decide +kernel) (by walk_at "evl") (fn_saturated L0 M (by show base ^ n < 64; omega) _ hfp hfs) (by omega) rfl) rfl ?_
  refine ex_if (c := !decide ((foundOf base n s rows).map (fun (j : Nat) => (j : Int)) = (foundOf base n s rows).map (fun (j : Nat) => (j : Int)))) (tr_neI (by rw [← natD_intL]; walk_at "ev") ?_ (by omega) rfl) (fun h => by simp at h) (fun _ => ex_nil ?_)
  · rw [← natD_intL]
    have e : natD (foundOf base n s rows) = ((rangeD (base ^ n)).filter (bitP (leastOf (fullOf base n) (closedL (fullOf base n) s (edgesOf base n rows))))).map (fun d => d) := (bit_filter _ _).symm
    rw [e]
    refine EvF.ev (evF_comp (σc := [("least", .val (.int (leastOf (fullOf base n) (closedL (fullOf base n) s (edgesOf base n rows)))))]) _ _ (compOk_of hs hc (.cons (by walk_at "lk") .nil) (fs := ["least"]) rfl (by decide +kernel)) (src_range ⟨by walk_at "gl", L0.grange, L0.brange⟩ (m := base ^ n) (by walk_at "ev") rfl (by omega)) rfl (by rw [rangeD_length]; omega) fun Lc d hd => ⟨?_, fun _ => by walk_at "ev"⟩)
    obtain ⟨j, hj, rfl⟩ := List.mem_map.mp hd
    have eb : bitP (leastOf (fullOf base n) (closedL (fullOf base n) s (edgesOf base n rows))) (.int (j : Nat)) = ((if (leastOf (fullOf base n) (closedL (fullOf base n) s (edgesOf base n rows))).testBit j then (1 : Int) else 0) == 1) := by
      show Nat.testBit _ ((j : Int).toNat) = _
      rw [Int.toNat_natCast]
      cases Nat.testBit (leastOf (fullOf base n) (closedL (fullOf base n) s (edgesOf base n rows))) j <;> rfl
    rw [eb]
    exact tst_one (bit0 (c := j) (by omega) 1 (by walk_at "lk") (by walk_at "lk") (by decide +kernel) (by decide +kernel))
  refine ex_if (tr_not (tr_allN (es := (foundOf base n s rows).map fun (j : Nat) => (j : Int)) (by walk_at "gl") L.gall L.ball g (by rw [← natD_intL]; walk_at "ev") (fun _ _ => rfl) rfl (by decide +kernel) (by decide +kernel) (by decide +kernel) rfl (gen_free hc (by decide +kernel)) (by omega) ?_)) (fun h => by cases h) (fun _ => ex_nil ?_)
  · intro β G1 s1 I1 Lc code A' E' a ta s2 m2 hn2 hx2 hkp
    have hH := kept_H I1 hkp
    exact quiet_isInt (mg := C.T.mg) (mb := C.T.mb) rfl (gen_kind (by decide +kernel)) (gen_kind (by decide +kernel)) (by show s2.heap.Ns C.env.globals _; rw [C.hg]; exact C.T.g.at hH) (C.T.b.at hH) L.gtype L.btype L.gint L.bint (gen_kind (by decide +kernel)) hn2 hx2 (by decide +kernel)
  · exact stage20 hs hc L g ns hlen hz base n s hp hsl rows hrows hm _ (by walk_at "lk") (by walk_at "lk") (by walk_at "lk") (by walk_at "lk") (by walk_at "lk") (by walk_at "lk") (by walk_at "lk") (by walk_at "lk") (by walk_at "lk")
end

/-- what stays through the loops -/
structure Kp (ns : List Int) (base n s : Nat) (rows : List Row) (σ : Sig) : Prop where
  kscript : Has σ "script" (.val (.lst (intL ns)))
  kmodel : Has σ "model" (.val (msOf base n s rows).D)
  ktwin : Has σ "twin" (.val (msOf base n s rows).D)
  ksize : Has σ "size" (.val (.int (base ^ n : Nat)))
  kbase : Has σ "base" (.val (.int base))
  kn : Has σ "n" (.val (.int n))
  ks : Has σ "s" (.val (.int s))
  kbox : Has σ "box" (.val (boxD base n))
  krows : Has σ "rows" (.val (.lst (rows.map Row.D)))
noncomputable def kNames : List Str := ["script", "model", "twin", "size", "base", "n", "s", "box", "rows"]
theorem Kp.push {ns : List Int} {base n s : Nat} {rows : List Row} {σ : Sig} {x : Str} {v : Slot} (h : Kp ns base n s rows σ) (hx : (kNames.all fun y => !(y == x)) = true) : Kp ns base n s rows ((x, v) :: σ) := by
  have ne : ∀ y ∈ kNames, (y == x) = false := fun y hy => by simpa using List.all_eq_true.mp hx y hy
  exact ⟨lk_tail (ne _ (by simp [kNames])) h.kscript, lk_tail (ne _ (by simp [kNames])) h.kmodel, lk_tail (ne _ (by simp [kNames])) h.ktwin, lk_tail (ne _ (by simp [kNames])) h.ksize, lk_tail (ne _ (by simp [kNames])) h.kbase, lk_tail (ne _ (by simp [kNames])) h.kn, lk_tail (ne _ (by simp [kNames])) h.ks, lk_tail (ne _ (by simp [kNames])) h.kbox, lk_tail (ne _ (by simp [kNames])) h.krows⟩

section
variable {C : Act} {c Pt bm : Addr} {ob : Obj} (hs : C.env.scope = scopeOf (fdef 22)) (hc : ∀ x, (scopeOf (fdef 22)).names.lookup x = some .cell → ∃ c, C.env.cells.lookup x = some c) (L : Lib2 C.T) (g : GenOk C c Pt bm ob)
  (ns : List Int) (base n s : Nat) (rows : List Row)
include hs hc L g

theorem wrC {x : Str} (h : (scopeOf (fdef 22)).names.lookup x = some .cell) : Wr C x := .inr ⟨by unfold Env.kindOf; rw [hs]; exact h, hc _ h⟩

theorem close_loop (es : List (Nat × Nat)) (full : Nat) {R : Dat → Prop} {N : Sig → Prop} (fin : List Nat) (lfin : Nat)
    (hN : ∀ σ, Has σ "closed" (.lst (natD fin)) → Has σ "least" (.val (.int lfin)) → Has σ "full" (.val (.int full)) → Kp ns base n s rows σ → N σ) :
    ∀ (ms cl : List Nat) (l : Nat) (σ : Sig), Has σ "closed" (.lst (natD cl)) → Has σ "least" (.val (.int l)) → Has σ "edges" (.val (.lst (es.map edgeD))) → Has σ "full" (.val (.int full)) → Kp ns base n s rows σ → cl.length + ms.length ≤ 1000 →
      cl ++ ms.filter (isClosed s es) = fin → (ms.filter (isClosed s es)).foldl (· &&& ·) l = lfin → Iter C 14 "m" (forBody (stmtAt lawB 16)) R N (natD ms) σ := by
  intro ms
  induction ms with
  | nil =>
    intro cl l σ h1 h2 h3 h4 hK hz e1 e2
    rw [List.filter_nil, List.append_nil] at e1
    subst e1; subst e2
    exact hN σ h1 h2 h4 hK
  | cons mk r ih =>
    intro cl l σ h1 h2 h3 h4 hK hz e1 e2
    simp only [List.length_cons] at hz
    have hks := hK.ks
    show Ex C 14 (("m", .val (.int mk)) :: σ) (forBody (stmtAt lawB 16)) (Iter C 14 "m" (forBody (stmtAt lawB 16)) R N (natD r)) (Iter C 14 "m" (forBody (stmtAt lawB 16)) R N (natD r)) R
    walk_at "body"
    have mcell : C.env.kindOf "m" = some .cell := by unfold Env.kindOf; rw [hs]; decide +kernel
    refine ex_if (tr_and (bit0 (mk := mk) (c := s) (by omega) 1 (by walk_at "lk") (by walk_at "lk") (by decide +kernel) (by decide +kernel)) (fun _ => tr_allT (es := es) (fun e => mk.testBit e.1) (fun e => mk.testBit e.2) (by walk_at "gl") L.gall L.ball g ?it (fun _ _ => rfl) rfl (by decide +kernel) (by decide +kernel) (by decide +kernel) (by decide +kernel) (by decide +kernel) rfl (gen_free hc (by decide +kernel)) (by omega) ?q1 ?q2)) (fun h => ?tt) (fun h => ?ff)
    case it => exact ev_name (lk_tail (by decide +kernel) h3) (by decide +kernel)
    case q1 =>
      intro β G1 s1 I1 Lc code A' E' a b ta tb s2 m2 hab hn2 hxa hxb hkp
      obtain ⟨cm, tm, hcm, hcell⟩ := kept_cell I1 hkp (x := "m") (mk := mk) lk_self mcell
      refine wpAny_tests_one (quiet_test (mk := mk) (tm := tm) (j := a) (tj := ta) rfl (gen_kind (by decide +kernel)) (clo_has hcm (.inl (by decide +kernel))) hcell (gen_kind (by decide +kernel)) hn2 hxa (by decide +kernel) (by decide +kernel))
    case q2 =>
      intro β G1 s1 I1 Lc code A' E' a b ta tb s2 m2 hab hn2 hxa hxb hkp
      obtain ⟨cm, tm, hcm, hcell⟩ := kept_cell I1 hkp (x := "m") (mk := mk) lk_self mcell
      exact quiet_bit (mk := mk) (tm := tm) (j := b) (tj := tb) rfl (gen_kind (by decide +kernel)) (clo_has hcm (.inl (by decide +kernel))) hcell (gen_kind (by decide +kernel)) hn2 hxb (by decide +kernel) (by decide +kernel)
    case tt =>
      have hcl : isClosed s es mk = true := by
        unfold isClosed
        rw [← h]
        cases mk.testBit s <;> rfl
      rw [List.filter_cons_of_pos hcl] at e1 e2
      refine ex_append (by walk_at "lk") (by decide +kernel) (by walk_at "ev") (by rw [natD_length]; omega) rfl rfl ?_
      refine ex_assign (wrC hs hc L g (by decide +kernel)) (d := .int (l &&& mk : Nat)) ?_ rfl (ex_nil (ex_nil ?_))
      · rw [← bitAnd_nat]; walk_at "ev"
      · refine ih (cl ++ [mk]) (l &&& mk) _ ?_ lk_self (by walk_at "lk") (by walk_at "lk") (((hK.push (by decide +kernel)).push (by decide +kernel)).push (by decide +kernel)) (by simp; omega) (by simpa using e1) e2
        rw [← natD_push]; walk_at "lk"
    case ff =>
      have hcl : ¬ isClosed s es mk = true := by
        unfold isClosed
        have : (mk.testBit s && (es.filter fun e => mk.testBit e.1).all fun e => mk.testBit e.2) = false := by
          rw [← h]
          cases mk.testBit s <;> rfl
        rw [this]; simp
      rw [List.filter_cons_of_neg hcl] at e1 e2
      exact ex_nil (ex_nil (ih cl l _ (by walk_at "lk") (by walk_at "lk") (by walk_at "lk") (by walk_at "lk") (hK.push (by decide +kernel)) (by omega) e1 e2))
end

section
variable {C : Act} {c Pt bm : Addr} {ob : Obj} (hs : C.env.scope = scopeOf (fdef 22)) (hc : ∀ x, (scopeOf (fdef 22)).names.lookup x = some .cell → ∃ c, C.env.cells.lookup x = some c) (L : Lib2 C.T) (g : GenOk C c Pt bm ob)
  (ns : List Int) (hlen : 21 ≤ ns.length) (hz : ns.length ≤ 16777216) (base n s : Nat) (hp : (base, n) ∈ boxes) (hsl : s < base ^ n) (rows : List Row) (hrows : rows.length ≤ 2)
include hs hc L g hlen hz hp hsl hrows

theorem box_at {k : Nat} {σ : Sig} {p1 p2 pos : Pos} {x : Str} {j : Nat} (hb : Has σ "box" (.val (boxD base n))) (hx : Has σ x (.val (.int j))) (hn : plainName x = true) (hj : j < base ^ n) : Ev C k σ (.Subscript (.Name "box" p1) (.Name x p2) pos) (.lst (intL (stS base n j))) := by
  have hl := (box_facts _ hp).1
  have hsz := (box_facts _ hp).2.2.2.2.2.1
  simp only at hl hsz
  refine ev_idx (Ev.b (ev_name hb (by decide +kernel))) (ev_name hx hn) (by omega) ?_ (by rw [List.length_map, hl]; omega) rfl
  rw [Int.toNat_natCast, List.getElem?_map, stS_get hp hj]; rfl

theorem edge_inner (cc : Nat) (hcc : cc < base ^ n) {R : Dat → Prop} {N : Sig → Prop} (fin : List (Nat × Nat))
    (hN : ∀ σ, Has σ "edges" (.lst (fin.map edgeD)) → Kp ns base n s rows σ → N σ) :
    ∀ (rs : List Row) (pre : List (Nat × Nat)) (σ : Sig), Has σ "edges" (.lst (pre.map edgeD)) → Has σ "c" (.val (.int cc)) → Kp ns base n s rows σ → pre.length + rs.length ≤ 1000 → pre ++ edgesAt base n rs cc = fin →
      Iter C 14 "r" (forBody (stmtAt (forBody (stmtAt lawB 12)) 2)) R N (rs.map Row.D) σ := by
  have L0 : Lib C.T := L.toLib
  obtain ⟨hl, hb, hb5, hn, hn2, hsz, h12⟩ := box_facts _ hp
  obtain ⟨_, hst, _, hsv⟩ := box_states _ hp cc hcc
  simp only at hsz hst hn hb hl hsv
  have hsm : ∀ v ∈ stS base n cc, -1000 ≤ v ∧ v ≤ 1000 := fun v hv => by have := st_small hp hcc v hv; omega
  intro rs
  induction rs with
  | nil =>
    intro pre σ h1 h2 hK hz' e
    simp only [edgesAt, List.filter_nil, List.map_nil, List.append_nil] at e
    subst e; exact hN σ h1 hK
  | cons r rt ih =>
    intro pre σ h1 h2 hK hz' e
    simp only [List.length_cons] at hz'
    show Ex C 14 (("r", .val r.D) :: σ) (forBody (stmtAt (forBody (stmtAt lawB 12)) 2)) (Iter C 14 "r" (forBody (stmtAt (forBody (stmtAt lawB 12)) 2)) R N (rt.map Row.D)) (Iter C 14 "r" (forBody (stmtAt (forBody (stmtAt lawB 12)) 2)) R N (rt.map Row.D)) R
    have hkb := hK.kbox
    have hkba := hK.kbase
    walk_at "body"
    refine ex_if (tr_cmp (ev_call (by walk_at "gl") (by decide +kernel) (evL_cons (by walk_at "ev") (evL_cons (by walk_at "ev") (evL_cons (by walk_at "ev") (evL_cons (box_at hs hc L g ns hlen hz base n s hp hsl rows hrows (by walk_at "lk") (by walk_at "lk") (by decide +kernel) hcc) evL_nil (fun _ => rfl)) (fun _ => rfl)) (fun _ => rfl)) (fun _ => rfl)) (fn_due L0 r.g r.p r.h (stS base n cc) (by omega) (by omega) hsm) (by omega) rfl) ev_int cmp_ne (by omega) rfl) (fun h => ?_) (fun h => ?_)
    · have he : edgesAt base n (r :: rt) cc = (cc, tgt base n r cc) :: edgesAt base n rt cc := by
        unfold edgesAt; rw [List.filter_cons_of_pos (p := fun r : Row => dueI r.g r.p r.h (stS base n cc) != 0) h]; rfl
      rw [he] at e
      obtain ⟨t1, t2, _, t4⟩ := tgt_ok hp r hcc
      refine ex_append (d := edgeD (cc, tgt base n r cc)) (by walk_at "lk") (by decide +kernel) (ev_tup (evL_cons (by walk_at "ev") (evL_cons (ev_index (bs := boxS base n) (a := afterI r (stS base n cc) base) (j := tgt base n r cc) (by walk_at "ev") (ev_call (by walk_at "gl") (by decide +kernel) (evL_cons (by walk_at "ev") (evL_cons (box_at hs hc L g ns hlen hz base n s hp hsl rows hrows (by walk_at "lk") (by walk_at "lk") (by decide +kernel) hcc) (evL_cons (by walk_at "ev") evL_nil (fun _ => rfl)) (fun _ => rfl)) (fun _ => rfl)) (fn_after L r (stS base n cc) base (by omega) (by omega) (by omega) hsm) (by omega) rfl) t1 t4 (by omega) (by omega) rfl rfl) evL_nil (fun _ => rfl)) (fun _ => rfl)) (by simp)) (by rw [List.length_map]; omega) rfl rfl (ex_nil (ex_nil ?_))
      refine ih (pre ++ [(cc, tgt base n r cc)]) _ ?_ (by walk_at "lk") ((hK.push (by decide +kernel)).push (by decide +kernel)) (by simp; omega) (by simpa using e)
      rw [List.map_append]; exact lk_self
    · have he : edgesAt base n (r :: rt) cc = edgesAt base n rt cc := by
        unfold edgesAt; rw [List.filter_cons_of_neg (by rw [h]; simp)]
      rw [he] at e
      exact ex_nil (ex_nil (ih pre _ (by walk_at "lk") (by walk_at "lk") (hK.push (by decide +kernel)) (by omega) e))

theorem edgesAt_len (cc : Nat) : (edgesAt base n rows cc).length ≤ 2 := by
  unfold edgesAt
  rw [List.length_map]
  exact Nat.le_trans (List.length_filter_le _ _) hrows

theorem edge_loop {N : Sig → Prop} (fin : List (Nat × Nat))
    (hN : ∀ σ, Has σ "edges" (.lst (fin.map edgeD)) → Kp ns base n s rows σ → N σ) :
    ∀ (cs : List Nat) (pre : List (Nat × Nat)) (σ : Sig), (∀ x ∈ cs, x < base ^ n) → Has σ "edges" (.lst (pre.map edgeD)) → Kp ns base n s rows σ → pre.length + 2 * cs.length ≤ 900 → pre ++ cs.flatMap (edgesAt base n rows) = fin →
      Iter C 14 "c" (forBody (stmtAt lawB 12)) RT N (natD cs) σ := by
  have L0 : Lib C.T := L.toLib
  obtain ⟨hl, hb, hb5, hn, hn2, hsz, h12⟩ := box_facts _ hp
  simp only at hsz hb hb5
  have M := ms_ok hp hsl rows hrows
  intro cs
  induction cs with
  | nil =>
    intro pre σ hcs h1 hK hz e
    simp only [List.flatMap_nil, List.append_nil] at e
    subst e; exact hN σ h1 hK
  | cons cc r ih =>
    intro pre σ hcs h1 hK hz' e
    have hcc := hcs cc (by simp)
    simp only [List.length_cons] at hz'
    have hlen' := edgesAt_len hs hc L g ns hlen hz base n s hp hsl rows hrows cc
    obtain ⟨_, hst, hcode, _⟩ := box_states _ hp cc hcc
    simp only at hst hcode
    show Ex C 14 (("c", .val (.int cc)) :: σ) (forBody (stmtAt lawB 12)) (Iter C 14 "c" (forBody (stmtAt lawB 12)) RT N (natD r)) (Iter C 14 "c" (forBody (stmtAt lawB 12)) RT N (natD r)) RT
    have hkm := hK.kmodel
    have hkb := hK.kbox
    have hkr := hK.krows
    have hcf : Fn C.T 2 "code_of" [(msOf base n s rows).D, .lst (intL (stS base n cc))] (.int (codeL (base : Int) (stS base n cc))) := fn_code_of L0 (base : Int) (by omega) (by omega) (stS base n s) (stS base n cc) (rows.map (ruleI n))
    walk_at "body"
    refine ex_if (c := !decide (stS base n cc = stS base n cc)) (tr_neI (ev_call (by walk_at "gl") (by decide +kernel) (by walk_at "evl") (fn_state_ofM L0 M cc hcc) (by omega) rfl) (box_at hs hc L g ns hlen hz base n s hp hsl rows hrows (by walk_at "lk") (by walk_at "lk") (by decide +kernel) hcc) (by omega) rfl) (fun h => by simp at h) (fun _ => ex_nil ?_)
    refine ex_if (tr_cmp (ev_call (by walk_at "gl") (by decide +kernel) (evL_cons (by walk_at "ev") (evL_cons (box_at hs hc L g ns hlen hz base n s hp hsl rows hrows (by walk_at "lk") (by walk_at "lk") (by decide +kernel) hcc) evL_nil (fun _ => rfl)) (fun _ => rfl)) hcf (by omega) rfl) (by walk_at "ev") cmp_ne (by omega) rfl) (fun h => ?_) (fun _ => ex_nil ?_)
    · rw [hcode] at h; simp at h
    refine ex_for (by walk_at "wr") (by walk_at "ev") rfl ?_
    refine edge_inner hs hc L g ns hlen hz base n s hp hsl rows hrows cc hcc (pre ++ edgesAt base n rows cc) (fun σ g1 gK => ?_) rows pre _ (by walk_at "lk") (by walk_at "lk") (hK.push (by decide +kernel)) (by omega) rfl
    refine ex_nil (ih _ σ (fun x hx => hcs x (by simp [hx])) g1 gK (by simp only [List.length_append]; omega) ?_)
    rw [List.flatMap_cons] at e
    rw [List.append_assoc]; exact e

theorem stage10 (hm : ∀ a b, ns[20]? = some a → ns[1]? = some b → IntMulOk a b) (σ : Sig) (hK : Kp ns base n s rows σ) : Ex C 14 σ (lawB.drop 10) False1 False1 RT := by
  have L0 : Lib C.T := L.toLib
  obtain ⟨hl, hb, hb5, hn, hn2, hsz, h12⟩ := box_facts _ hp
  simp only at hsz hb hb5
  have M := ms_ok hp hsl rows hrows
  have hkm := hK.kmodel
  have hks := hK.ksize
  have hfull1 : fullOf base n + 1 ≤ 32 := by
    have h2 : 2 ^ (base ^ n) ≤ 2 ^ 5 := Nat.pow_le_pow_right (by decide) hsz
    have h3 : 0 < 2 ^ (base ^ n) := Nat.pow_pos (by decide)
    show 2 ^ (base ^ n) - 1 + 1 ≤ 32; omega
  walk_at "body"
  refine ex_if (tr_cmp (ev_call (by walk_at "gl") (by decide +kernel) (by walk_at "evl") (fn_box_sizeM L0 M) (by omega) rfl) (by walk_at "ev") cmp_ne (by omega) rfl) (fun h => ?_) (fun _ => ex_nil ?_)
  · have e : (((msOf base n s rows).size : Int) != ((base ^ n : Nat) : Int)) = false := by show (((base ^ n : Nat) : Int) != ((base ^ n : Nat) : Int)) = false; simp
    rw [e] at h; cases h
  refine ex_assignF (by walk_at "wr") (evF_list evL_nil (by simp)) rfl ?_
  refine ex_forR ⟨by walk_at "gl", L0.grange, L0.brange⟩ (by walk_at "wr") (m := base ^ n) (by walk_at "ev") rfl (by omega) ?_
  refine edge_loop hs hc L g ns hlen hz base n s hp hsl rows hrows (edgesOf base n rows) (fun σ g1 gK => ?_) (List.range (base ^ n)) [] _ (fun x hx => List.mem_range.mp hx) lk_self (hK.push (by decide +kernel)) (by simp; omega) (by simp [edgesOf])
  refine Ex.freeze g1 ?_
  have hks := gK.ksize
  refine ex_assign (by walk_at "wr") (d := .int (fullOf base n)) ?_ rfl ?_
  · have e : ((fullOf base n : Nat) : Int) = 2 ^ ((base ^ n : Nat) : Int).toNat - 1 := by
      have h3 : 0 < 2 ^ (base ^ n) := Nat.pow_pos (by decide)
      rw [Int.toNat_natCast]
      show ((2 ^ (base ^ n) - 1 : Nat) : Int) = _
      rw [Int.ofNat_sub h3, Int.natCast_pow]; rfl
    rw [e]
    refine ev_bin (ev_bin ev_int (by walk_at "ev") (bin_pow (by omega) ?_)) ev_int bin_sub
    have h1 : Builtin.Int.intBits 2 ≤ 10 := intBits_small (by decide)
    have h2 : (Builtin.Int.intBits 2 : Int) ≤ 10 := by exact_mod_cast h1
    have h3 : ((base ^ n : Nat) : Int) ≤ 5 := by exact_mod_cast hsz
    have h4 : (Builtin.Int.intBits 2 : Int) * ((base ^ n : Nat) : Int) ≤ 10 * 5 := Int.mul_le_mul h2 h3 (by omega) (by decide)
    exact Int.le_trans h4 (by decide)
  refine ex_assignF (by walk_at "wr") (evF_list evL_nil (by simp)) rfl ?_
  refine ex_assign (wrC hs hc L g (by decide +kernel)) (by walk_at "ev") rfl ?_
  refine ex_forR ⟨by walk_at "gl", L0.grange, L0.brange⟩ (wrC hs hc L g (by decide +kernel)) (m := fullOf base n + 1) ?_ rfl (by omega) ?_
  · have e : ((fullOf base n + 1 : Nat) : Int) = (fullOf base n : Int) + 1 := by omega
    rw [e]; walk_at "ev"
  refine close_loop hs hc L g ns base n s rows (edgesOf base n rows) (fullOf base n) (closedL (fullOf base n) s (edgesOf base n rows)) (leastOf (fullOf base n) (closedL (fullOf base n) s (edgesOf base n rows))) (fun σ g1 g2 g3 gK => ?_) (List.range (fullOf base n + 1)) [] (fullOf base n) _ (lk_tail (by decide +kernel) lk_self) lk_self (by walk_at "lk") (by walk_at "lk") ((((gK.push (by decide +kernel)).push (by decide +kernel)).push (by decide +kernel)).push (by decide +kernel)) (by rw [List.length_range, List.length_nil]; omega) rfl rfl
  refine Ex.freeze g1 ?_
  have hK' := gK.push (x := "closed") (v := .val (.lst (natD (closedL (fullOf base n) s (edgesOf base n rows))))) (by decide +kernel)
  exact stage17 hs hc L g ns hlen hz base n s hp hsl rows hrows hm _ hK'.kscript hK'.kmodel hK'.ktwin lk_self (by walk_at "lk") hK'.ksize hK'.kbase hK'.kn (by walk_at "lk")
end

theorem box_one (b : Nat) : ((rangeD b).filter fun _ => true).map (fun d => Dat.lst [d]) = (boxS b 1).map fun b => Dat.lst (intL b) := by
  rw [List.filter_eq_self.mpr (fun _ _ => rfl), rangeD, boxS, if_pos rfl, List.map_map, List.map_map]; rfl
theorem box_two (b : Nat) : ((rangeD b).flatMap fun d => (rangeD b).map fun e => Dat.lst [d, e]) = (boxS b 2).map fun b => Dat.lst (intL b) := by
  rw [rangeD, boxS, if_neg (by decide), List.map_flatMap, List.flatMap_map]
  congr 1
  funext i
  rw [List.map_map, List.map_map]; rfl

theorem boxL_get (a : Int) : ∃ b n : Nat, boxL[(a % 6).toNat]? = some ((b : Int), (n : Int)) ∧ (b, n) ∈ boxes := by
  have h0 : 0 ≤ a % 6 := Int.emod_nonneg _ (by decide)
  have h1 : a % 6 < 6 := Int.emod_lt_of_pos _ (by decide)
  have : a % 6 = 0 ∨ a % 6 = 1 ∨ a % 6 = 2 ∨ a % 6 = 3 ∨ a % 6 = 4 ∨ a % 6 = 5 := by omega
  rcases this with e | e | e | e | e | e <;> rw [e]
  · exact ⟨2, 2, rfl, by decide⟩
  · exact ⟨2, 2, rfl, by decide⟩
  · exact ⟨3, 1, rfl, by decide⟩
  · exact ⟨4, 1, rfl, by decide⟩
  · exact ⟨5, 1, rfl, by decide⟩
  · exact ⟨1, 2, rfl, by decide⟩

section
variable {C : Act} {c Pt bm : Addr} {ob : Obj} (hs : C.env.scope = scopeOf (fdef 22)) (hc : ∀ x, (scopeOf (fdef 22)).names.lookup x = some .cell → ∃ c, C.env.cells.lookup x = some c) (L : Lib2 C.T) (g : GenOk C c Pt bm ob)
  (ns : List Int) (hlen : 21 ≤ ns.length) (hz : ns.length ≤ 16777216)
include hs hc L g hlen hz

theorem stage3 (hm : ∀ a b, ns[20]? = some a → ns[1]? = some b → IntMulOk a b) (base n : Nat) (hp : (base, n) ∈ boxes) (σ : Sig) (h1 : Has σ "script" (.val (.lst (intL ns)))) (h2 : Has σ "base" (.val (.int base))) (h3 : Has σ "n" (.val (.int n))) (h4 : Has σ "box" (.val (boxD base n))) : Ex C 14 σ (lawB.drop 3) False1 False1 RT := by
  have L0 : Lib C.T := L.toLib
  obtain ⟨hl, hb, hb5, hn, hn2, hsz, h12⟩ := box_facts _ hp
  simp only at hsz hb hb5 hl hn
  have hszp : 0 < base ^ n := Nat.pow_pos hb
  have gt : ∀ j, j < 21 → ∃ v, ns[j]? = some v := fun j hj => ⟨_, List.getElem?_eq_getElem (by omega)⟩
  obtain ⟨v1, e1⟩ := gt 1 (by decide)
  obtain ⟨v2, e2⟩ := gt 2 (by decide)
  obtain ⟨v3, e3⟩ := gt 3 (by decide)
  obtain ⟨v4, e4⟩ := gt 4 (by decide)
  obtain ⟨v5, e5⟩ := gt 5 (by decide)
  obtain ⟨v6, e6⟩ := gt 6 (by decide)
  obtain ⟨v7, e7⟩ := gt 7 (by decide)
  obtain ⟨v8, e8⟩ := gt 8 (by decide)
  obtain ⟨v9, e9⟩ := gt 9 (by decide)
  obtain ⟨v10, e10⟩ := gt 10 (by decide)
  obtain ⟨v11, e11⟩ := gt 11 (by decide)
  obtain ⟨v12, e12⟩ := gt 12 (by decide)
  obtain ⟨v13, e13⟩ := gt 13 (by decide)
  obtain ⟨v14, e14⟩ := gt 14 (by decide)
  obtain ⟨v15, e15⟩ := gt 15 (by decide)
  obtain ⟨v16, e16⟩ := gt 16 (by decide)
  let s : Nat := (v1 % ((base ^ n : Nat) : Int)).toNat
  have hse : ((s : Nat) : Int) = v1 % ((base ^ n : Nat) : Int) := by
    have := Int.emod_nonneg v1 (b := ((base ^ n : Nat) : Int)) (by omega)
    show ((v1 % ((base ^ n : Nat) : Int)).toNat : Int) = _
    omega
  have hsl : s < base ^ n := by
    have := Int.emod_lt_of_pos v1 (b := ((base ^ n : Nat) : Int)) (by omega)
    omega
  let r1 : Row := ⟨v2, v3, v4, v5, v6, v7, v8⟩
  let r2 : Row := ⟨v9, v10, v11, v12, v13, v14, v15⟩
  let rows : List Row := [r1, r2].take (v16 % 4).toNat
  have hrows : rows.length ≤ 2 := by show ([r1, r2].take (v16 % 4).toNat).length ≤ 2; rw [List.length_take]; simp; omega
  walk_at "body"
  refine ex_assign (by walk_at "wr") (d := .int (base ^ n : Nat)) ?_ rfl ?_
  · have e : (((boxS base n).map fun b => Dat.lst (intL b)).length : Int) = ((base ^ n : Nat) : Int) := by rw [List.length_map, hl]
    rw [← e]
    exact ev_len (by walk_at "gl") L0.glen L0.blen (Ev.b (ev_name h4 (by decide +kernel))) (by rw [List.length_map, hl]; omega) rfl
  have k1 : Has (("size", .val (.int (base ^ n : Nat))) :: σ) "script" (.val (.lst (intL ns))) := lk_tail (by decide +kernel) h1
  refine ex_assign (by walk_at "wr") (d := .int s) (by rw [hse]; exact ev_bin (get_script k1 e1 hz) (by walk_at "ev") (bin_mod (by omega))) rfl ?_
  have k2 : Has (("s", .val (.int s)) :: ("size", .val (.int (base ^ n : Nat))) :: σ) "script" (.val (.lst (intL ns))) := lk_tail (by decide +kernel) k1
  refine ex_assign (by walk_at "wr") (d := r1.D) (ev_tup (evL_cons (get_script k2 e2 hz) (evL_cons (get_script k2 e3 hz) (evL_cons (get_script k2 e4 hz) (evL_cons (get_script k2 e5 hz) (evL_cons (get_script k2 e6 hz) (evL_cons (get_script k2 e7 hz) (evL_cons (get_script k2 e8 hz) evL_nil (fun _ => rfl)) (fun _ => rfl)) (fun _ => rfl)) (fun _ => rfl)) (fun _ => rfl)) (fun _ => rfl)) (fun _ => rfl)) (by simp)) rfl ?_
  have k3 : Has (("first", .val r1.D) :: ("s", .val (.int s)) :: ("size", .val (.int (base ^ n : Nat))) :: σ) "script" (.val (.lst (intL ns))) := lk_tail (by decide +kernel) k2
  refine ex_assign (by walk_at "wr") (d := r2.D) (ev_tup (evL_cons (get_script k3 e9 hz) (evL_cons (get_script k3 e10 hz) (evL_cons (get_script k3 e11 hz) (evL_cons (get_script k3 e12 hz) (evL_cons (get_script k3 e13 hz) (evL_cons (get_script k3 e14 hz) (evL_cons (get_script k3 e15 hz) evL_nil (fun _ => rfl)) (fun _ => rfl)) (fun _ => rfl)) (fun _ => rfl)) (fun _ => rfl)) (fun _ => rfl)) (fun _ => rfl)) (by simp)) rfl ?_
  have k4 : Has (("second", .val r2.D) :: ("first", .val r1.D) :: ("s", .val (.int s)) :: ("size", .val (.int (base ^ n : Nat))) :: σ) "script" (.val (.lst (intL ns))) := lk_tail (by decide +kernel) k3
  refine ex_assign (by walk_at "wr") (d := .lst (rows.map Row.D)) ?_ rfl ?_
  · have e : rows.map Row.D = ([r1.D, r2.D] : List Dat).take (v16 % 4).toNat := by show ([r1, r2].take (v16 % 4).toNat).map Row.D = _; rw [List.map_take]; rfl
    rw [e]
    refine EvF.ev (evF_upto (EvF.ev (evF_list (evL_cons (ev_name (lk_tail (by decide +kernel) lk_self) (by decide +kernel)) (evL_cons (ev_name lk_self (by decide +kernel)) evL_nil (fun _ => rfl)) (fun _ => rfl)) (by simp))).b (ev_bin (get_script k4 e16 hz) ev_int (bin_mod (by decide))) (Int.emod_nonneg _ (by decide)) (by simp))
  have hmod : Fn C.T 8 "_law_model" [.int base, .lst (intL (stS base n s)), .lst (rows.map Row.D), .int n] (msOf base n s rows).D := fn_model L0 base (stS base n s) rows n (by exact_mod_cast hn) (by omega) (by have := (box_states _ hp s hsl).2.1; simp only at this; omega)
  refine ex_assign (by walk_at "wr") (ev_call (by walk_at "gl") (by decide +kernel) (evL_cons (by walk_at "ev") (evL_cons (box_at hs hc L g ns hlen hz base n s hp hsl rows hrows (by walk_at "lk") (by walk_at "lk") (by decide +kernel) hsl) (by walk_at "evl") (fun _ => rfl)) (fun _ => rfl)) hmod (by omega) rfl) rfl ?_
  refine ex_assign (by walk_at "wr") (ev_call (by walk_at "gl") (by decide +kernel) (evL_cons (by walk_at "ev") (evL_cons (box_at hs hc L g ns hlen hz base n s hp hsl rows hrows (by walk_at "lk") (by walk_at "lk") (by decide +kernel) hsl) (by walk_at "evl") (fun _ => rfl)) (fun _ => rfl)) hmod (by omega) rfl) rfl ?_
  exact stage10 hs hc L g ns hlen hz base n s hp hsl rows hrows hm _ ⟨by walk_at "lk", by walk_at "lk", by walk_at "lk", by walk_at "lk", by walk_at "lk", by walk_at "lk", by walk_at "lk", by walk_at "lk", by walk_at "lk"⟩
end

theorem law_ex {C : Act} {c Pt bm : Addr} {ob : Obj} (hs : C.env.scope = scopeOf (fdef 22)) (hc : ∀ x, (scopeOf (fdef 22)).names.lookup x = some .cell → ∃ c, C.env.cells.lookup x = some c) (L : Lib2 C.T) (g : GenOk C c Pt bm ob) (ns : List Int) (hz : ns.length ≤ 16777216)
    (hm : ∀ a b, ns[20]? = some a → ns[1]? = some b → IntMulOk a b) : Ex C 14 [("script", .val (.lst (intL ns)))] lawB False1 False1 RT := by
  have L0 : Lib C.T := L.toLib
  walk_at "body"
  refine ex_if (c := decide ((ns.length : Int) < 21)) (tr_cmp (by rw [← intL_length ns]; exact ev_len (by walk_at "gl") L0.glen L0.blen (by walk_at "evb") (by rw [intL_length]; exact hz) rfl) ev_int cmp_lt (by omega) rfl) (fun _ => ex_ret ev_bool rfl) (fun h => ex_nil ?_)
  have hlen : 21 ≤ ns.length := by have := of_decide_eq_false h; omega
  obtain ⟨v0, e0⟩ : ∃ v, ns[0]? = some v := ⟨_, List.getElem?_eq_getElem (by omega)⟩
  obtain ⟨base, n, hbox, hp⟩ := boxL_get v0
  obtain ⟨hl, hb, hb5, hn, hn2, hsz, h12⟩ := box_facts _ hp
  simp only at hsz hb hb5 hl hn h12
  obtain ⟨bv, hbv, hbr⟩ := L0.boxes
  have wbase : Wr C "base" := .inr ⟨by unfold Env.kindOf; rw [hs]; decide +kernel, hc _ (by decide +kernel)⟩
  refine ex_unpack (xs := ["base", "n"]) (ds := [.int base, .int n]) (.cons (.cons .nil)) (fun x hx => ?_) (ev_idxT (ev_global (by walk_at "gl") (by decide +kernel) hbv hbr) (ev_bin (get_script (j := 0) lk_self e0 hz) ev_int (bin_mod (by decide))) (Int.emod_nonneg _ (by decide)) (by rw [List.getElem?_map, hbox]; rfl) (by simp [boxL]) rfl) rfl rfl rfl ?_
  · simp only [List.mem_cons, List.not_mem_nil, or_false] at hx
    rcases hx with rfl | rfl
    · exact wbase
    · walk_at "wr"
  show Ex C 14 [("n", .val (.int n)), ("base", .val (.int base)), ("script", .val (.lst (intL ns)))] _ _ _ _
  have boxl : C.env.kindOf "box" = some .local := by unfold Env.kindOf; rw [hs]; decide +kernel
  refine ex_if (by walk_at "tr") (fun h => ?_) (fun h => ?_)
  · have hn1 : n = 1 := by have : (n : Int) = 1 := by simpa using h
                           omega
    subst hn1
    refine ex_assignC (σc := []) (fun _ => true) (fun d => .lst [d]) (compOk_of hs hc .nil (fs := []) rfl (by decide +kernel)) (src_range ⟨by walk_at "gl", L0.grange, L0.brange⟩ (m := base) (by walk_at "ev") rfl (by omega)) rfl (by rw [rangeD_length]; omega) (fun Lc d hd => ⟨tst_nil, fun _ => EvF.ev (evF_list (by walk_at "evl") (by simp))⟩) boxl rfl (by decide +kernel) (ex_nil ?_)
    rw [box_one]
    refine Ex.freeze (lk_self) ?_
    exact stage3 hs hc L g ns hlen hz hm base 1 hp _ (by walk_at "lk") (by walk_at "lk") (by walk_at "lk") (by walk_at "lk")
  · have hn2 : n = 2 := by
      have h' : ¬ (n : Int) = 1 := by simpa using h
      rcases h12 with h1 | h1
      · exact absurd (by omega) h'
      · exact h1
    subst hn2
    refine ex_assignC2 (σc := [("base", .val (.int base))]) (ds1 := rangeD base) (fun d e => .lst [d, e]) (compOk_of hs hc (.cons (by walk_at "lk") .nil) (fs := ["base"]) rfl (by decide +kernel)) (by decide +kernel) (lk_tail (by decide +kernel) rfl) (by decide +kernel) (src_range ⟨by walk_at "gl", L0.grange, L0.brange⟩ (m := base) (by walk_at "ev") rfl (by omega)) rfl rfl (by rw [rangeD_length]; omega) (by rw [rangeD_length]; omega) (fun Lc d hd => src_range ⟨by walk_at "gl", L0.grange, L0.brange⟩ (m := base) (by walk_at "ev") rfl (by omega)) (fun Lc d hd e he => EvF.ev (evF_list (by walk_at "evl") (by simp))) boxl rfl (by decide +kernel) (ex_nil ?_)
    rw [box_two]
    refine Ex.freeze (lk_self) ?_
    exact stage3 hs hc L g ns hlen hz hm base 2 hp _ (by walk_at "lk") (by walk_at "lk") (by walk_at "lk") (by walk_at "lk")

end Mine

namespace Mine
open PySem PySem.W PyProof.Rows

noncomputable def lawIdx : List Nat := [1, 2, 3, 4, 5, 6, 7, 8, 9, 13, 14, 15, 16, 17, 18, 19, 20, 21]
noncomputable def SameRec (d : DefRec) (i : Nat) : Prop := d.name = nameOf (fdef i) ∧ d.params = paramsOf (fdef i) ∧ d.body = bodyOf (fdef i) ∧ d.scope = scopeOf (fdef i)
noncomputable def LawRecs (p : Program) : Prop := (∀ i ∈ lawIdx, ∃ d ∈ recsOf p, SameRec d i) ∧ ∃ d ∈ recsOf p, SameRec d 22
noncomputable def ksMap (K : Frag) : PMap := fun b => match K.lookup b with
  | some o => if o.cls == .type "tuple" then some o else none
  | none => none
noncomputable def freeL : List Str := ["len", "range", "list", "sorted", "dict", "enumerate", "all", "type", "int"]
structure LawFrag (K : Frag) : Prop where
  ops : ∃ v, nsIn K mainGlobals "_law_ops" = some (some v) ∧ Rep (ksMap K) v (.tup (opsL.map Mine.Dat.str))
  boxes : ∃ v, nsIn K mainGlobals "_law_boxes" = some (some v) ∧ Rep (ksMap K) v (.tup (boxL.map fun b => Mine.Dat.tup [.int b.1, .int b.2]))
  free : ∀ x ∈ freeL, nsIn K mainGlobals x = some none

theorem mul_ok {ns : List Int} (hlay : (PyData.list (ns.map PyData.int)).layable0 = true) : ∀ a b, ns[20]? = some a → ns[1]? = some b → IntMulOk a b := fun a b ha hb =>
  IntMulOk.of_bits (PyData.bits_item_of_ints hlay (List.mem_of_getElem? ha)) (PyData.bits_item_of_ints hlay (List.mem_of_getElem? hb))

theorem script_local : (scopeOf (fdef 22)).names.lookup ("script" : Str) = some .local := by decide +kernel
theorem room_depth : callerA.depth + 1 + 10 * 14 < recursionLimit := by decide
theorem room_units : callerA.units + 3 + 20 * 14 < cLine := by decide

theorem head_end {p : Program} {loose : List Str} {mean : ExcName → Option Value} {mg mb : Str → Option Value} {prog : Program} {w : World} {s₁ : Shared} {K : Frag} {fa l : Addr} {vs : List Value} {n : Nat} {ns : List Int}
    (T : Top p loose mean mg mb s₁.heap) (himp : importsNone p = true) (KX : K.In s₁.heap) (hK : LawFrag K) (hrec : LawRecs p) (hmg : mg "law" = some (.ref fa)) (hg : s₁.gens = #[]) (hl : s₁.heap.get? l = some (listObj vs n)) (hI : IntsAre vs ns) (hlen : ns.length ≤ 63)
    (hlay : (PyData.list (ns.map PyData.int)).layable0 = true) {Q : Value → Shared → Prop} {E : Value → Shared → Prop} (hQ : ∀ s', OldK s₁.heap s'.heap → s'.os = s₁.os → AllBare s'.gens → Q (.bool true) s') :
    wpAny (model prog w) callerA (call (.ref fa) [.ref l]) Q E s₁ := by
  obtain ⟨d, hd, hsame⟩ := hrec.2
  obtain ⟨a, o, pm, code, doc, h1, h2, h3, h4⟩ := T.fn d hd
  obtain ⟨a', o', fd', c, Pt, g1, g2, g3, g4, g5, g6⟩ := T.tab d hd
  rw [h1] at g1; cases g1
  rw [h2] at g2; cases g2
  rw [h3] at g3; cases g3
  have g4' : code = .ref c := g4
  subst g4'
  obtain ⟨nm, pr, bd, sc, dpos⟩ := d
  obtain ⟨e1, e2, e3, e4⟩ := hsame
  simp only at e1 e2 e3 e4 h1 h3 h4
  subst e1; subst e2; subst e3; subst e4
  have hname : nameOf (fdef 22) = ("law" : Str) := rfl
  rw [hname] at h1
  rw [hmg] at h1; cases h1
  -- the table
  have hPt : s₁.heap.get? Pt = some (tabObj #[]) := g6.2
  let H : PMap := fun b => if b = Pt then none else s₁.heap.get? b
  have Hne : ∀ b, b ≠ Pt → H b = s₁.heap.get? b := fun b hb => if_neg hb
  have HPt : H Pt = none := if_pos rfl
  have Hsub : Sub H s₁.heap.get? := fun b o e => by
    by_cases hb : b = Pt
    · rw [hb, HPt] at e; cases e
    · rw [Hne b hb] at e; exact e
  have offs : ∀ b o, s₁.heap.get? b = some o → (o ≠ tabObj #[]) → H b = some o := fun b o e hne => by
    refine (Hne b fun hb => ?_).trans e
    rw [hb, hPt] at e; exact hne (Option.some.inj e).symm
  have nsP : ∀ x m, s₁.heap.Ns x m → NsP H x m := fun x m ⟨o, es, ep, ho, hd, r⟩ => ⟨o, es, ep, offs _ _ ho (fun e => by rw [e] at hd; cases hd), hd, r⟩
  have cdP : ∀ cd q, s₁.heap.CodeRec cd q → CodeRecP H cd q := fun cd q ⟨c, o, vs, t, e, ho, hd, hv⟩ => ⟨c, o, vs, t, e, offs _ _ ho (fun e => by rw [e] at hd; cases hd; cases hv), hd, hv⟩
  obtain ⟨mm, hmm, _⟩ := (T.seer himp).mods
  have limP : ∃ mc, NsP H cStatics mc ∧ mc "sys.recursionlimit" = none := let ⟨mc, hn, hx⟩ := T.nolimit; ⟨mc, nsP _ _ hn, hx⟩
  have sysP : ∃ o, H sysModules = some o := let ⟨o, _, _, ho, _⟩ := nsP _ _ hmm; ⟨o, ho⟩
  let TX : Txt := ⟨prog, w, H, mg, mb, nsP _ _ T.g, nsP _ _ T.b, limP, sysP⟩
  have ksub : Sub (ksMap K) H := fun b o e => by
    unfold ksMap at e
    cases hk : K.lookup b with
    | none => rw [hk] at e; cases e
    | some o' =>
      rw [hk] at e
      by_cases hc : (o'.cls == .type "tuple") = true
      · simp only [hc, if_true] at e
        cases e
        exact offs _ _ (KX _ _ hk) (fun e => by rw [e] at hc; cases hc)
      · simp only [hc] at e; cases e
  have fr : ∀ x ∈ freeL, mg x = none := fun x hx => mg_none_of KX T.g (hK.free x hx)
  have bo : ∀ x : Str, x ≠ "__name__" → mb x = bootBuiltins x := T.builtins
  have L : Lib2 TX := {
    fns := fun i hi => by
      obtain ⟨d, hd, hsame⟩ := hrec.1 i hi
      obtain ⟨a, o, pm, code, doc, k1, k2, k3, k4⟩ := T.fn d hd
      obtain ⟨nm, pr, bd, sc, dpos⟩ := d
      obtain ⟨e1, e2, e3, e4⟩ := hsame
      simp only at e1 e2 e3 e4 k1 k3 k4
      subst e1; subst e2; subst e3; subst e4
      exact ⟨a, o, pm, code, doc, k1, offs _ _ k2 (fun e => by rw [e] at k3; cases k3), k3, cdP _ _ k4⟩
    glen := fr _ (by decide +kernel), blen := (bo _ (by decide +kernel)).trans (by decide +kernel)
    grange := fr _ (by decide +kernel), brange := (bo _ (by decide +kernel)).trans (by decide +kernel)
    glist := fr _ (by decide +kernel), blist := (bo _ (by decide +kernel)).trans (by decide +kernel)
    gsorted := fr _ (by decide +kernel), bsorted := (bo _ (by decide +kernel)).trans (by decide +kernel)
    ops := let ⟨v, x, r⟩ := hK.ops; ⟨v, mg_of KX T.g x, r.mono ksub⟩
    boxes := let ⟨v, x, r⟩ := hK.boxes; ⟨v, mg_of KX T.g x, r.mono ksub⟩
    gdict := fr _ (by decide +kernel), bdict := (bo _ (by decide +kernel)).trans (by decide +kernel)
    genum := fr _ (by decide +kernel), benum := (bo _ (by decide +kernel)).trans (by decide +kernel)
    gall := fr _ (by decide +kernel), ball := (bo _ (by decide +kernel)).trans (by decide +kernel)
    gtype := fr _ (by decide +kernel), btype := (bo _ (by decide +kernel)).trans (by decide +kernel)
    gint := fr _ (by decide +kernel), bint := (bo _ (by decide +kernel)).trans (by decide +kernel) }
  refine wpAny_call ?_
  refine codeAny_call_cells (body := bodyOf (fdef 22)) (binds := [("script", .ref l)]) (by decide) h2 h3 T.nolimit h4 rfl rfl rfl (fun x hx => ?_) ?_ rfl rfl rfl
  · simp only [List.mem_singleton] at hx; subst hx
    exact .inl script_local
  · intro s2 X
    let fd := Calls.docDef (nameOf (fdef 22)) (paramsOf (fdef 22)) (bodyOf (fdef 22)) (scopeOf (fdef 22)) pm (.ref c) doc
    let C : Act := { T := TX, env := callEnvC fd s₁.heap.objs.size fa, hg := rfl, hb := rfl, P := some Pt, X := TabX }
    have hres : ∀ b, s₁.heap.objs.size ≤ b → s₁.heap.get? b = none := fun b hb => by
      cases e : s₁.heap.get? b with
      | none => rfl
      | some o => exact absurd (Heap.lt_size e) (Nat.not_lt.mpr hb)
    have hresH : ∀ b, s₁.heap.objs.size ≤ b → H b = none := fun b hb => by
      cases e : H b with
      | none => rfl
      | some o => have := Hsub _ _ e; rw [hres b hb] at this; cases this
    have neP : ∀ b, s₁.heap.objs.size ≤ b → C.P ≠ some b := fun b hb e => by
      have : Pt = b := Option.some.inj e
      rw [← this, ] at hb
      exact absurd (Heap.lt_size hPt) (Nat.not_lt.mpr hb)
    obtain ⟨hh, tk, hs2⟩ := X.toInCall.same
    have privc : ∀ x c, C.env.cells.lookup x = some c → s₁.heap.objs.size < c := fun x c hc => X.above x c (mem_of_lookup hc)
    have hz : s₁.heap.objs.size ≤ C.env.locals := Nat.le_refl _
    have hg' : AllBare s2.gens := by rw [hs2]; exact AllBare.of_eq hg
    have hP2 : s2.heap.get? Pt = some (tabObj #[]) := X.toInCall.keep _ _ hPt
    have I : Inv C ⟨H, H, s₁.os⟩ [("script", .val (.lst (intL ns)))] H s2 := by
      refine ⟨⟨_, X.toInCall.ns⟩, rfl, .refl _, .refl _, (fun b o e => X.toInCall.keep _ _ (Hsub _ _ e)), (fun b o e => X.toInCall.keep _ _ (Hsub _ _ e)), (fun b o e => .inl e), (by rw [hs2]), hg', ?_, ?_, ⟨hresH _ hz, hresH _ hz, neP _ hz⟩, ?_, ?_, ?_, fun _ => 0, ?_, ?_⟩
      · intro q hq; cases hq
        rw [hP2]; exact ⟨⟨#[], rfl, trivial⟩, by simp⟩
      · intro q hq; cases hq; exact ⟨HPt, HPt⟩
      · intro x c hkx hc
        have := privc x c hc
        exact ⟨hresH _ (Nat.le_of_lt this), hresH _ (Nat.le_of_lt this), neP _ (Nat.le_of_lt this)⟩
      · intro x c hkx hc
        exact ⟨Nat.ne_of_gt (privc x c hc), neP _ (Nat.le_of_lt (privc x c hc)), _, X.cell x c hc⟩
      · intro x y c _ _ hx hy
        exact name_of_addr X.apart (mem_of_lookup hx) (mem_of_lookup hy)
      · intro x sl hx
        by_cases hxs : x = "script"
        · subst hxs
          rw [lookup_cons_self] at hx; cases hx
          refine ⟨.ref l, .inl ⟨script_local, _, X.toInCall.ns, ?_⟩, .lst (offs _ _ hl (fun e => by cases e)) (reps_of_ints hI)⟩
          exact bindL_in (kd := C.env.kindOf) script_local (by simp) (by simp)
        · rw [lookup_cons_ne _ _ hxs] at hx; cases hx
      · intro x y sl sl' hx hy ho
        by_cases hxs : x = "script"
        · subst hxs
          rw [lookup_cons_self] at hx; cases hx; cases ho
        · rw [lookup_cons_ne _ _ hxs] at hx; cases hx
    obtain ⟨bm, ob, b1, b2, b3, b4, b5, b6⟩ := T.bmain
    have G : GenOk C c Pt bm ob := {
      code := rfl, P := rfl, X := rfl
      rec_ := by
        obtain ⟨o, vs, file, tf, flags, tg, inF, text, tt, op, q1, q2, q3, q4, q5, q6, q7, q8, q9, q10, q11⟩ := g5
        obtain ⟨⟨o', vs', r1, r2, r3, r4⟩, _⟩ := g6
        exact ⟨⟨o, vs, file, tf, flags, tg, inF, text, tt, (Hne _ q11).trans q1, q2, q3, q4, q5, q6, q7, q11⟩, o', vs', (Hne _ q11).trans r1, r2, r3, r4⟩
      name := b1, ne := b2, obj := offs _ _ b3 (fun e => by rw [e] at b6; cases b6), cls := b4, dict := b5, data := b6 }
    have hx := law_ex (C := C) rfl (fun x hx => lookup_of_mem_cells _ hx) L G ns (by omega) (mul_ok hlay)
    have hr : Room 14 (callerA.deeper C.env) := ⟨rfl, room_depth, room_units⟩
    refine hx ⟨H, H, s₁.os⟩ (callerA.deeper C.env) H s2 _ _ hr I (fun _ _ _ _ f => f.elim) (fun _ _ _ _ f => f.elim) fun G' s' v d' I' r' e => ?_
    subst e
    cases r'
    refine hQ s' ⟨fun b o hb => ?_, fun b o hb => ?_⟩ I'.os I'.gens
    · by_cases hbP : b = Pt
      · subst hbP
        rw [hPt] at hb; cases hb
        obtain ⟨⟨ps, hps, _⟩, _⟩ := I'.tab _ rfl
        refine .inr (.inl ⟨g6.isCodeTable, rfl, #[], ps, rfl, ?_⟩)
        rw [hps]; simp
      · exact .inl (I'.base b o ((Hne b hbP).trans hb))
    · by_cases hbP : b = Pt
      · subst hbP
        obtain ⟨⟨ps, hps, _⟩, _⟩ := I'.tab _ rfl
        exact ⟨_, hps⟩
      · exact ⟨o, I'.base b o ((Hne b hbP).trans hb)⟩

theorem recs_of {p : Program} (h : (recsOf p).map (fun d => (d.name, d.params, d.body, d.scope)) = (lawIdx ++ [22]).map fun i => (nameOf (fdef i), paramsOf (fdef i), bodyOf (fdef i), scopeOf (fdef i))) : LawRecs p := by
  have all : ∀ i ∈ lawIdx ++ [22], ∃ d ∈ recsOf p, SameRec d i := by
    intro i hi
    have : (nameOf (fdef i), paramsOf (fdef i), bodyOf (fdef i), scopeOf (fdef i)) ∈ (recsOf p).map (fun d => (d.name, d.params, d.body, d.scope)) := by
      rw [h]; exact List.mem_map.mpr ⟨i, hi, rfl⟩
    obtain ⟨d, hd, e⟩ := List.mem_map.mp this
    simp only [Prod.mk.injEq] at e
    exact ⟨d, hd, e.1, e.2.1, e.2.2.1, e.2.2.2⟩
  exact ⟨fun i hi => all i (List.mem_append_left _ hi), all 22 (by simp)⟩

theorem list_of_well {P : Params} {h : Heap} {l : Addr} {vs : List Value} {xs : List WData} (w : Well P h (.ref l) (.list xs)) (hL : h.IsList l vs.toArray) : h.get? l = some (listObj vs 0) := by
  cases w with
  | @list _ vs' _ hg _ =>
    obtain ⟨o, ho, _, n, hd⟩ := hL
    rw [hg] at ho; cases ho
    have hd' : Data.seq vs'.toArray 0 = Data.seq vs.toArray n := hd
    cases hd'
    exact hg

/-- the written part of the top that the law reads: the names of the text and its two tables -/
noncomputable def lawK (P : Params) : Frag :=
  [(3,
  { cls := Value.type "dict",
    data :=
      Data.dict
        #[{ hash := PyData.keyHash P (Str.ofString "__name__"),
            key := Value.str (Str.ofString "__name__") 165,
            val := Value.str (Str.ofString "law_sx_zsentry_6") 285 },
          { hash := PyData.keyHash P (Str.ofString "__doc__"),
            key := Value.str (Str.ofString "__doc__") 166, val := Value.none },
          { hash := PyData.keyHash P (Str.ofString "__package__"),
            key := Value.str (Str.ofString "__package__") 167, val := Value.none },
          { hash := PyData.keyHash P (Str.ofString "__loader__"),
            key := Value.str (Str.ofString "__loader__") 168,
            val := Value.builtin "__main__.__loader__#opaque" },
          { hash := PyData.keyHash P (Str.ofString "__spec__"),
            key := Value.str (Str.ofString "__spec__") 169, val := Value.none },
          { hash := PyData.keyHash P (Str.ofString "__annotations__"),
            key := Value.str (Str.ofString "__annotations__") 170, val := Value.ref 6 },
          { hash := PyData.keyHash P (Str.ofString "__builtins__"),
            key := Value.str (Str.ofString "__builtins__") 171, val := Value.ref 4 },
          { hash := PyData.keyHash P (Str.ofString "__file__"),
            key := Value.str (Str.ofString "__file__") 173,
            val := Value.str (Str.ofString "/claim/cut.py") 172 },
          { hash := PyData.keyHash P (Str.ofString "__cached__"),
            key := Value.str (Str.ofString "__cached__") 174, val := Value.none },
          { hash := PyData.keyHash P (Str.ofString "apply_op"),
            key := Value.str (Str.ofString "apply_op") 197, val := Value.ref 21 },
          { hash := PyData.keyHash P (Str.ofString "value_of"),
            key := Value.str (Str.ofString "value_of") 211, val := Value.ref 28 },
          { hash := PyData.keyHash P (Str.ofString "enabled"),
            key := Value.str (Str.ofString "enabled") 217, val := Value.ref 33 },
          { hash := PyData.keyHash P (Str.ofString "fired"),
            key := Value.str (Str.ofString "fired") 229, val := Value.ref 40 },
          { hash := PyData.keyHash P (Str.ofString "code_of"),
            key := Value.str (Str.ofString "code_of") 240, val := Value.ref 47 },
          { hash := PyData.keyHash P (Str.ofString "state_of"),
            key := Value.str (Str.ofString "state_of") 252, val := Value.ref 54 },
          { hash := PyData.keyHash P (Str.ofString "box_size"),
            key := Value.str (Str.ofString "box_size") 259, val := Value.ref 61 },
          { hash := PyData.keyHash P (Str.ofString "is_inductive"),
            key := Value.str (Str.ofString "is_inductive") 270, val := Value.ref 68 },
          { hash := PyData.keyHash P (Str.ofString "saturated_fast"),
            key := Value.str (Str.ofString "saturated_fast") 284, val := Value.ref 75 },
          { hash := PyData.keyHash P (Str.ofString "_law_ops"),
            key := Value.str (Str.ofString "_law_ops") 296, val := Value.ref 76 },
          { hash := PyData.keyHash P (Str.ofString "_law_boxes"),
            key := Value.str (Str.ofString "_law_boxes") 309, val := Value.ref 83 },
          { hash := PyData.keyHash P (Str.ofString "_law_leaf"),
            key := Value.str (Str.ofString "_law_leaf") 318, val := Value.ref 90 },
          { hash := PyData.keyHash P (Str.ofString "_law_expr"),
            key := Value.str (Str.ofString "_law_expr") 331, val := Value.ref 97 },
          { hash := PyData.keyHash P (Str.ofString "_law_rule"),
            key := Value.str (Str.ofString "_law_rule") 347, val := Value.ref 104 },
          { hash := PyData.keyHash P (Str.ofString "_law_model"),
            key := Value.str (Str.ofString "_law_model") 359, val := Value.ref 111 },
          { hash := PyData.keyHash P (Str.ofString "_law_value"),
            key := Value.str (Str.ofString "_law_value") 368, val := Value.ref 118 },
          { hash := PyData.keyHash P (Str.ofString "_law_op"),
            key := Value.str (Str.ofString "_law_op") 381, val := Value.ref 125 },
          { hash := PyData.keyHash P (Str.ofString "_law_due"),
            key := Value.str (Str.ofString "_law_due") 395, val := Value.ref 132 },
          { hash := PyData.keyHash P (Str.ofString "_law_after"),
            key := Value.str (Str.ofString "_law_after") 401, val := Value.ref 137 },
          { hash := PyData.keyHash P (Str.ofString "_law_prop"),
            key := Value.str (Str.ofString "_law_prop") 414, val := Value.ref 144 },
          { hash := PyData.keyHash P (Str.ofString "law"),
            key := Value.str (Str.ofString "law") 420, val := Value.ref 149 }]
        30 }),
    (76,
  { cls := Value.type "tuple",
    data :=
      Data.seq
        #[Value.str (Str.ofString "+") 287, Value.str (Str.ofString "-") 288,
          Value.str (Str.ofString "*") 289, Value.str (Str.ofString "==") 290,
          Value.str (Str.ofString "!=") 291, Value.str (Str.ofString "<") 292,
          Value.str (Str.ofString "and") 293, Value.str (Str.ofString "or") 294,
          Value.str (Str.ofString "%") 295] }),
    (77, { cls := Value.type "tuple", data := Data.seq #[Value.int 2 297, Value.int 2 298] }),
    (78, { cls := Value.type "tuple", data := Data.seq #[Value.int 2 299, Value.int 2 300] }),
    (79, { cls := Value.type "tuple", data := Data.seq #[Value.int 3 301, Value.int 1 302] }),
    (80, { cls := Value.type "tuple", data := Data.seq #[Value.int 4 303, Value.int 1 304] }),
    (81, { cls := Value.type "tuple", data := Data.seq #[Value.int 5 305, Value.int 1 306] }),
    (82, { cls := Value.type "tuple", data := Data.seq #[Value.int 1 307, Value.int 2 308] }),
    (83,
  { cls := Value.type "tuple",
    data :=
      Data.seq
        #[Value.ref 77, Value.ref 78, Value.ref 79, Value.ref 80, Value.ref 81,
          Value.ref 82] })]
end Mine

section
open PySem PySem.W PyProof.Rows
set_option maxRecDepth 100000 in
set_option maxHeartbeats 8000000 in
theorem PySem.Challenge.cw_sx_zsentry_6_holds : PySem.Challenge.rw_sx_zsentry_6.Holds := by
  w_on; o_law; o_head (kHook Mine.lawK [3, 76, 77, 78, 79, 80, 81, 82, 83] (fun _ => by kernel_rfl)); (case hw => w_witness2)
  intro w s₀ s₁ mg mb G Y fa o pm cd doc dV kV ho hd hcd hD hmg hg args vals as hpre hlay hrd hwl hlo
  have KX := kIn_of Y
  refine Ground.open G ?_
  intro T B D TE TW
  clear hd hcd hD
  wrow_args hpre hlay hrd hwl hlo
  rename_i ns hs0 hlay0 hL hr1 hl2 as1 as2 l vs as3 hIs ra w1 r0 hI hr hcond hcond2
  have hlist := Mine.list_of_well w1 hIs
  refine Mine.head_end T ?himp KX ?frag ?recs hmg hg hlist hI ?len hL ?fin
  case himp => decide +kernel
  case recs => exact Mine.recs_of (by kernel_rfl)
  case len => omega
  case frag =>
    refine ⟨⟨_, rfl, .tup rfl (.cons (.str _ _) (.cons (.str _ _) (.cons (.str _ _) (.cons (.str _ _) (.cons (.str _ _) (.cons (.str _ _) (.cons (.str _ _) (.cons (.str _ _) (.cons (.str _ _) .nil)))))))))⟩,
      ⟨_, rfl, .tup rfl (.cons (.tup rfl (.cons (.int _ _) (.cons (.int _ _) .nil))) (.cons (.tup rfl (.cons (.int _ _) (.cons (.int _ _) .nil))) (.cons (.tup rfl (.cons (.int _ _) (.cons (.int _ _) .nil))) (.cons (.tup rfl (.cons (.int _ _) (.cons (.int _ _) .nil))) (.cons (.tup rfl (.cons (.int _ _) (.cons (.int _ _) .nil))) (.cons (.tup rfl (.cons (.int _ _) (.cons (.int _ _) .nil))) .nil))))))⟩, ?_⟩
    intro x hx
    simp only [Mine.freeL, List.mem_cons, List.not_mem_nil, or_false] at hx
    rcases hx with rfl | rfl | rfl | rfl | rfl | rfl | rfl | rfl | rfl <;> kernel_rfl
  case fin =>
    refine fun s' k1 k2 k3 => ⟨.inl ⟨.bool true, .bool true, [], rfl, fun _ => rfl, .bool true, ?_, fun _ => ⟨.nil, fun a ha => by cases ha⟩⟩, k1, k2, k3⟩
    first | wrow_post | exact postW_of (by wrow_shape) (by wtm_val) rfl | kernel_rfl
end
