import PyProof.Rows.All
import Wide.All
import OpenK.AllK
import Wide.FinOn
import HandS.ForMost
import HandS.Deep
import HandS.IsInst
import HandS.TupAny
import HandS.Walk
import HandS.Exc
import HandS.WordsExc
import HandS.ExcOwn
import HandS.Zip
import HandS.Rev
import HandS.NoneIn
import KE.DataFind
import HandS.More
import HandS.SetFor
import PyProof.WalksMore
import KE.GoesMore
import KE.GoesEnum
import HandS.ExcField
import HandS.ExcIs
import HandS.ExcInit
import HandS.ExcValue
import KE.KExcIs
import PyProof.P3Eq
import HandS.Conv
import HandS.Dict
import HandS.Small
import HandS.DictTup
import HandS.SortInts
import KE.SortData
import HandS.TupSets
import KE.KDictList
import KE.KDictCopyH
import PySem.Challenge.RW_wallspace_k07_walls_looked_at
set_option Elab.async false
set_option linter.all false
set_option maxRecDepth 100000
set_option maxHeartbeats 4000000
namespace PF
open PySem L2

/-! ### results, slots, environments -/
/-- an own exception: the number of its class, what it keeps -/
structure Exn where
  cls : Nat
  place : Option Int
  deriving DecidableEq
inductive Rs (α : Type) where
  | stuck
  | ok (a : α)
  | err (x : Exn)
def Rs.bind {α β : Type} : Rs α → (α → Rs β) → Rs β
  | .stuck, _ => .stuck
  | .ok a, f => f a
  | .err x, _ => .err x
instance : Monad Rs where
  pure := .ok
  bind := Rs.bind
theorem ok_bind {α β : Type} (a : α) (f : α → Rs β) : (Rs.ok a >>= f) = f a := rfl
theorem err_bind {α β : Type} (x : Exn) (f : α → Rs β) : ((Rs.err x : Rs α) >>= f) = .err x := rfl
theorem stuck_bind {α β : Type} (f : α → Rs β) : ((Rs.stuck : Rs α) >>= f) = .stuck := rfl
theorem pure_eq {α : Type} (a : α) : (pure a : Rs α) = .ok a := rfl
/-- what a slot holds: nothing told, shared data, a list of our own, a dict of our own, a caught error -/
inductive Sl where
  | no
  | sh (d : PyData)
  | ol (ds : List PyData)
  | od (kvs : List (List Int × PyData))
  | exn (x : Exn)
abbrev Env := List Sl
def Sl.own : Sl → Bool
  | .ol _ => true
  | .od _ => true
  | _ => false
/-- the fixed things: the written part, where the error classes stand -/
structure Pc where
  K : PySem.W.Frag
  ca : Nat → Addr

def Ex (H H' : Hp) : Prop := ∀ a o, H a = some o → H' a = some o
theorem Ex.refl (H : Hp) : Ex H H := fun _ _ h => h
theorem Ex.trans {H H1 H2 : Hp} (a : Ex H H1) (b : Ex H1 H2) : Ex H H2 := fun x o h => b x o (a x o h)
theorem Ex.new {H : Hp} {p : Addr} {o : HO} (h : H p = none) : Ex H (upd H p o) := fun a u e => by
  rw [upd_ne (ne_of_none e h)]
  exact e
theorem Ex.back {H H' : Hp} {p : Addr} (e : Ex H H') (h : H' p = none) : H p = none := by
  cases h1 : H p with
  | none => rfl
  | some o =>
    rw [e p o h1] at h
    cases h
theorem Ex.rd {H H' : Hp} {a : Addr} {u : HO} (e : Ex H H') (h : Rd H a u) : Rd H' a u := by
  rcases h with h | ⟨o, h⟩
  · exact Or.inl (e a _ h)
  · exact Or.inr ⟨o, e a _ h⟩
theorem Ex.sql {K : PySem.W.Frag} {H H' : Hp} {a : Addr} {xs : List V} (e : Ex H H') (h : SqL K H a xs) : SqL K H' a xs := by
  rcases h with h | h
  · exact Or.inl (e.rd h)
  · exact Or.inr h
theorem Ex.sqt {K : PySem.W.Frag} {H H' : Hp} {a : Addr} {xs : List V} (e : Ex H H') (h : SqT K H a xs) : SqT K H' a xs := by
  rcases h with h | h
  · exact Or.inl (e.rd h)
  · exact Or.inr h
/-! data, its tuples as they are told (none of the written part, none held) -/
mutual
inductive Dp (K : PySem.W.Frag) (H : Hp) : V → PyData → Prop
  | non : Dp K H .non .none
  | bl (b : Bool) : Dp K H (.bl b) (.bool b)
  | int (i : Int) : Dp K H (.int i) (.int i)
  | str (x : Str) : Dp K H (.str x) (.str x)
  | lst {a : Addr} {xs : List V} {ds : List PyData} : SqL K H a xs → DpAll K H xs ds → Dp K H (.ref a) (.list ds)
  | tup {a : Addr} {xs : List V} {ds : List PyData} : H a = some (.tup xs) → DpAll K H xs ds → Dp K H (.ref a) (.tuple ds)
inductive DpAll (K : PySem.W.Frag) (H : Hp) : List V → List PyData → Prop
  | nil : DpAll K H [] []
  | cons {v : V} {vs : List V} {d : PyData} {ds : List PyData} : Dp K H v d → DpAll K H vs ds → DpAll K H (v :: vs) (d :: ds)
end
theorem tup_sqt {K : PySem.W.Frag} {H : Hp} {a : Addr} {xs : List V} (h : H a = some (.tup xs)) : SqT K H a xs := .inl (.inl h)
mutual
theorem Dp.weak {K : PySem.W.Frag} {H : Hp} : ∀ {v : V} {d : PyData}, Dp K H v d → L2.Dp K H v d
  | _, _, .non => .non
  | _, _, .bl b => .bl b
  | _, _, .int i => .int i
  | _, _, .str x => .str x
  | _, _, .lst h a => .lst h (DpAll.weak a)
  | _, _, .tup h a => .tup (tup_sqt h) (DpAll.weak a)
theorem DpAll.weak {K : PySem.W.Frag} {H : Hp} : ∀ {vs : List V} {ds : List PyData}, DpAll K H vs ds → L2.DpAll K H vs ds
  | _, _, .nil => .nil
  | _, _, .cons h a => .cons (Dp.weak h) (DpAll.weak a)
end
theorem Dp.reads {X : Cx} {pins : List (Addr × Obj)} {σ : L2.St} {H : Hp} {s : Shared} (I : Inv X pins σ H s) (d : PyData) (v : V) (u : Value) (h : Dp X.K H v d) (r : RelV v u) : ∃ as, PySem.Reads s.heap u d as := L2.Dp.reads I d v u h.weak r
theorem DpAll.reads {X : Cx} {pins : List (Addr × Obj)} {σ : L2.St} {H : Hp} {s : Shared} (I : Inv X pins σ H s) (ds : List PyData) (vs : List V) (us : List Value) (h : DpAll X.K H vs ds) (r : Vals vs us) : ∃ as, PySem.ReadsAll s.heap us ds as := L2.Dp.readsAll I ds vs us h.weak r
mutual
theorem Dp.ex {K : PySem.W.Frag} {H H' : Hp} (e : Ex H H') : ∀ {v : V} {d : PyData}, Dp K H v d → Dp K H' v d
  | _, _, .non => .non
  | _, _, .bl b => .bl b
  | _, _, .int i => .int i
  | _, _, .str x => .str x
  | _, _, .lst h a => .lst (e.sql h) (DpAll.ex e a)
  | _, _, .tup h a => .tup (e _ _ h) (DpAll.ex e a)
theorem DpAll.ex {K : PySem.W.Frag} {H H' : Hp} (e : Ex H H') : ∀ {vs : List V} {ds : List PyData}, DpAll K H vs ds → DpAll K H' vs ds
  | _, _, .nil => .nil
  | _, _, .cons h a => .cons (Dp.ex e h) (DpAll.ex e a)
end
theorem DpAll.length {K : PySem.W.Frag} {H : Hp} : ∀ {vs : List V} {ds : List PyData}, DpAll K H vs ds → vs.length = ds.length
  | _, _, .nil => rfl
  | _, _, .cons _ a => congrArg (· + 1) (DpAll.length a)
theorem DpAll.get {K : PySem.W.Frag} {H : Hp} : ∀ {vs : List V} {ds : List PyData} {i : Nat} {v : V}, DpAll K H vs ds → vs[i]? = some v → ∃ d, ds[i]? = some d ∧ Dp K H v d
  | _, _, _, _, .nil, e => by simp at e
  | _, _, 0, _, .cons h _, e => by simp at e; subst e; exact ⟨_, rfl, h⟩
  | _, _, i + 1, v, .cons _ a, e => by
    obtain ⟨d, h1, h2⟩ := DpAll.get (i := i) (v := v) a (by simpa using e)
    exact ⟨d, by simpa using h1, h2⟩
theorem DpAll.getD {K : PySem.W.Frag} {H : Hp} : ∀ {vs : List V} {ds : List PyData} {i : Nat} {d : PyData}, DpAll K H vs ds → ds[i]? = some d → ∃ v, vs[i]? = some v ∧ Dp K H v d
  | _, _, _, _, .nil, e => by simp at e
  | _, _, 0, _, .cons h _, e => by simp at e; subst e; exact ⟨_, rfl, h⟩
  | _, _, i + 1, v, .cons _ a, e => by
    obtain ⟨d, h1, h2⟩ := DpAll.getD (i := i) (d := v) a (by simpa using e)
    exact ⟨d, by simpa using h1, h2⟩
theorem DpAll.append {K : PySem.W.Frag} {H : Hp} : ∀ {vs ws : List V} {ds es : List PyData}, DpAll K H vs ds → DpAll K H ws es → DpAll K H (vs ++ ws) (ds ++ es)
  | _, _, _, _, .nil, b => b
  | _, _, _, _, .cons h a, b => .cons h (DpAll.append a b)
theorem DpAll.take {K : PySem.W.Frag} {H : Hp} : ∀ {vs : List V} {ds : List PyData} (n : Nat), DpAll K H vs ds → DpAll K H (vs.take n) (ds.take n)
  | _, _, 0, _ => by simp; exact .nil
  | _, _, _ + 1, .nil => by simp; exact .nil
  | _, _, n + 1, .cons h a => .cons h (DpAll.take n a)
theorem DpAll.drop {K : PySem.W.Frag} {H : Hp} : ∀ {vs : List V} {ds : List PyData} (n : Nat), DpAll K H vs ds → DpAll K H (vs.drop n) (ds.drop n)
  | _, _, 0, a => a
  | _, _, _ + 1, .nil => by simp; exact .nil
  | _, _, n + 1, .cons _ a => DpAll.drop n a
theorem DpAll.set {K : PySem.W.Frag} {H : Hp} {x : V} {d : PyData} (h : Dp K H x d) : ∀ {vs : List V} {ds : List PyData} (i : Nat), DpAll K H vs ds → DpAll K H (vs.set i x) (ds.set i d)
  | _, _, _, .nil => .nil
  | _, _, 0, .cons _ a => .cons h a
  | _, _, i + 1, .cons q a => .cons q (DpAll.set h i a)
theorem DpAll.eraseIdx {K : PySem.W.Frag} {H : Hp} : ∀ {vs : List V} {ds : List PyData} (i : Nat), DpAll K H vs ds → DpAll K H (vs.eraseIdx i) (ds.eraseIdx i)
  | _, _, _, .nil => .nil
  | _, _, 0, .cons _ a => a
  | _, _, i + 1, .cons q a => .cons q (DpAll.eraseIdx i a)
theorem DpAll.reverse {K : PySem.W.Frag} {H : Hp} : ∀ {vs : List V} {ds : List PyData}, DpAll K H vs ds → DpAll K H vs.reverse ds.reverse
  | _, _, .nil => .nil
  | _, _, .cons h a => by
    rw [List.reverse_cons, List.reverse_cons]
    exact DpAll.append (DpAll.reverse a) (.cons h .nil)
/-- the value of an int, a bool, None is known -/
theorem Dp.int_v {K : PySem.W.Frag} {H : Hp} {v : V} {i : Int} (h : Dp K H v (.int i)) : v = .int i := by cases h; rfl
theorem Dp.bl_v {K : PySem.W.Frag} {H : Hp} {v : V} {b : Bool} (h : Dp K H v (.bool b)) : v = .bl b := by cases h; rfl
theorem Dp.non_v {K : PySem.W.Frag} {H : Hp} {v : V} (h : Dp K H v .none) : v = .non := by cases h; rfl
theorem Dp.list_v {K : PySem.W.Frag} {H : Hp} {v : V} {ds : List PyData} (h : Dp K H v (.list ds)) : ∃ a xs, v = .ref a ∧ SqL K H a xs ∧ DpAll K H xs ds := by
  cases h with
  | lst h a => exact ⟨_, _, rfl, h, a⟩
theorem Dp.tuple_s {K : PySem.W.Frag} {H : Hp} {v : V} {ds : List PyData} (h : Dp K H v (.tuple ds)) : ∃ a xs, v = .ref a ∧ H a = some (.tup xs) ∧ DpAll K H xs ds := by
  cases h with
  | tup h a => exact ⟨_, _, rfl, h, a⟩
theorem Dp.tuple_v {K : PySem.W.Frag} {H : Hp} {v : V} {ds : List PyData} (h : Dp K H v (.tuple ds)) : ∃ a xs, v = .ref a ∧ SqT K H a xs ∧ DpAll K H xs ds := by
  obtain ⟨a, xs, e, h, q⟩ := h.tuple_s
  exact ⟨a, xs, e, tup_sqt h, q⟩

/-! ### the visible heap G within the heap H -/
def NoOwn (o : Option HO) : Prop := o = none ∨ ∃ xs, o = some (.tup xs)
structure Nx (G H G' H' : Hp) : Prop where
  g : Ex G G'
  h : Ex H H'
  gh : Ex G' H'
  fr : ∀ a, H a ≠ none → G a = none → NoOwn (G' a)
theorem Nx.refl {G H : Hp} (e : Ex G H) : Nx G H G H := ⟨Ex.refl _, Ex.refl _, e, fun _ _ h => .inl h⟩
theorem Nx.trans {G H G1 H1 G2 H2 : Hp} (a : Nx G H G1 H1) (b : Nx G1 H1 G2 H2) : Nx G H G2 H2 := by
  refine ⟨a.g.trans b.g, a.h.trans b.h, b.gh, fun x hx gx => ?_⟩
  rcases a.fr x hx gx with h | ⟨xs, h⟩
  · refine b.fr x (fun z => hx ?_) h
    exact a.h.back z
  · exact .inr ⟨xs, b.g _ _ h⟩
/-- a new object, visible -/
theorem Nx.new {G H : Hp} {p : Addr} {o : HO} (e : Ex G H) (h : H p = none) : Nx G H (upd G p o) (upd H p o) := by
  have gp : G p = none := e.back h
  refine ⟨Ex.new gp, Ex.new h, fun a u q => ?_, fun a ha ga => ?_⟩
  · by_cases hp : a = p
    · subst hp
      rw [upd_same] at q ⊢
      exact q
    · rw [upd_ne hp] at q ⊢
      exact e a u q
  · have hp : a ≠ p := fun z => ha (by rw [z]; exact h)
    rw [upd_ne hp]
    exact .inl ga
/-- a new object, not shown yet -/
theorem Nx.hid {G H : Hp} {p : Addr} {o : HO} (e : Ex G H) (h : H p = none) : Nx G H G (upd H p o) :=
  ⟨Ex.refl _, Ex.new h, e.trans (Ex.new h), fun _ _ q => .inl q⟩
/-- an object that was not there at (G, H) is shown now -/
theorem Nx.show {G H G1 H1 : Hp} {p : Addr} {o : HO} (n : Nx G H G1 H1) (h0 : H p = none) (h1 : H1 p = some o) (g1 : G1 p = none) : Nx G H (upd G1 p o) H1 := by
  refine ⟨fun a u q => ?_, n.h, fun a u q => ?_, fun a ha ga => ?_⟩
  · have := n.g a u q
    rw [upd_ne (ne_of_none this g1)]
    exact this
  · by_cases hp : a = p
    · subst hp
      rw [upd_same] at q
      cases q
      exact h1
    · rw [upd_ne hp] at q
      exact n.gh a u q
  · have hp : a ≠ p := fun z => ha (by rw [z]; exact h0)
    rw [upd_ne hp]
    exact n.fr a ha ga

/-! ### a dict of our own -/
def KvOk (K : PySem.W.Frag) (G : Hp) (es : List (List Key × V)) (kvs : List (List Int × PyData)) : Prop :=
  es.map (·.1) = kvs.map (fun kv => kv.1.map Sum.inl) ∧ DpAll K G (es.map (·.2)) (kvs.map (·.2))
theorem KvOk.ex {K : PySem.W.Frag} {G G' : Hp} {es : List (List Key × V)} {kvs : List (List Int × PyData)} (e : Ex G G') (h : KvOk K G es kvs) : KvOk K G' es kvs := ⟨h.1, DpAll.ex e h.2⟩

/-! ### an error as it flies, as it is held -/
def XR (c : Pc) (x : Exn) (cl : Value) (dd : Option Addr) (H : Hp) : Prop :=
  cl = .ref (c.ca x.cls) ∧ (match x.place with
    | none => dd = none
    | some i => ∃ d, dd = some d ∧ H d = some (.xd [("place", .int i)]))
/-- an error's object, held -/
def excO (C : Addr) (d : Option Addr) (a : Addr) : HO := .ext fun h => ∃ oe vs, h.get? a = some oe ∧ oe.cls = .ref C ∧ oe.dict = d ∧ oe.data = .fields vs
def ExnOk (c : Pc) (G : Hp) (v : V) (x : Exn) : Prop :=
  ∃ a dd, v = .ref a ∧ G a = some (excO (c.ca x.cls) dd a) ∧ (match x.place with
    | none => dd = none
    | some i => ∃ d, dd = some d ∧ G d = some (.xd [("place", .int i)]))
theorem ExnOk.ex {c : Pc} {G G' : Hp} {v : V} {x : Exn} (e : Ex G G') (h : ExnOk c G v x) : ExnOk c G' v x := by
  obtain ⟨a, dd, e1, e2, e3⟩ := h
  refine ⟨a, dd, e1, e _ _ e2, ?_⟩
  cases hp : x.place with
  | none => rw [hp] at e3; exact e3
  | some i =>
    rw [hp] at e3
    obtain ⟨d, q1, q2⟩ := e3
    exact ⟨d, q1, e _ _ q2⟩

/-! ### slots and environments over the heap -/
def SlOk (c : Pc) (G H : Hp) : Sl → Option V → Prop
  | .no, _ => True
  | .sh d, o => ∃ v, o = some v ∧ Dp c.K G v d
  | .ol ds, o => ∃ p xs, o = some (.ref p) ∧ G p = none ∧ H p = some (.lst xs) ∧ DpAll c.K G xs ds
  | .od kvs, o => ∃ p es, o = some (.ref p) ∧ G p = none ∧ H p = some (.dT es) ∧ KvOk c.K G es kvs
  | .exn x, o => ∃ v, o = some v ∧ ExnOk c G v x
theorem SlOk.nx {c : Pc} {G H G' H' : Hp} {s : Sl} {o : Option V} (n : Nx G H G' H') (h : SlOk c G H s o) : SlOk c G' H' s o := by
  have key : ∀ p u, G p = none → H p = some u → (∀ xs, u ≠ .tup xs) → G' p = none := fun p u g1 h1 hu => by
    rcases n.fr p (by rw [h1]; simp) g1 with q | ⟨xs, q⟩
    · exact q
    · have e1 := n.gh _ _ q
      have e2 := n.h _ _ h1
      rw [e1] at e2
      cases e2
      exact absurd rfl (hu xs)
  cases s with
  | no => trivial
  | sh d => obtain ⟨v, e, q⟩ := h; exact ⟨v, e, Dp.ex n.g q⟩
  | ol ds => obtain ⟨p, xs, e, g1, h1, q⟩ := h; exact ⟨p, xs, e, key p _ g1 h1 (fun _ z => by cases z), n.h _ _ h1, DpAll.ex n.g q⟩
  | od kvs => obtain ⟨p, es, e, g1, h1, q⟩ := h; exact ⟨p, es, e, key p _ g1 h1 (fun _ z => by cases z), n.h _ _ h1, KvOk.ex n.g q⟩
  | exn x => obtain ⟨v, e, q⟩ := h; exact ⟨v, e, q.ex n.g⟩
structure Rep (c : Pc) (G H : Hp) (ρ : Env) (σ : L2.St) : Prop where
  gh : Ex G H
  len : ρ.length = σ.length
  sl : ∀ (i : Nat) s, ρ[i]? = some s → ∃ o, σ[i]? = some o ∧ SlOk c G H s o
  inj : ∀ (i j : Nat) s s' p, ρ[i]? = some s → ρ[j]? = some s' → s.own = true → s'.own = true → σ[i]? = some (some (.ref p)) → σ[j]? = some (some (.ref p)) → i = j
theorem Rep.nx {c : Pc} {G H G' H' : Hp} {ρ : Env} {σ : L2.St} (r : Rep c G H ρ σ) (n : Nx G H G' H') : Rep c G' H' ρ σ :=
  ⟨n.gh, r.len, fun i s e => let ⟨o, e1, q⟩ := r.sl i s e; ⟨o, e1, q.nx n⟩, r.inj⟩
/-- a slot takes shared data (or nothing told) -/
theorem Rep.set {c : Pc} {G H : Hp} {ρ : Env} {σ : L2.St} {i : Nat} {s : Sl} {o : Option V} (r : Rep c G H ρ σ) (hs : s.own = false) (h : SlOk c G H s o) : Rep c G H (ρ.set i s) (σ.set i o) := by
  refine ⟨r.gh, by rw [List.length_set, List.length_set, r.len], fun j u e => ?_, fun j k u u' p e1 e2 w1 w2 f1 f2 => ?_⟩
  · rw [List.getElem?_set] at e ⊢
    by_cases hij : i = j
    · rw [if_pos hij] at e ⊢
      by_cases hl : i < ρ.length
      · rw [if_pos hl] at e
        cases e
        rw [if_pos (by rw [← r.len]; exact hl)]
        exact ⟨o, rfl, h⟩
      · rw [if_neg hl] at e
        cases e
    · rw [if_neg hij] at e ⊢
      exact r.sl j u e
  · have key : ∀ (m : Nat) (w : Sl), (ρ.set i s)[m]? = some w → w.own = true → i ≠ m := fun m w e hw z => by
      rw [List.getElem?_set, if_pos z] at e
      split at e
      · cases e; rw [hs] at hw; cases hw
      · cases e
    have n1 := key j u e1 w1
    have n2 := key k u' e2 w2
    rw [List.getElem?_set, if_neg n1] at e1 f1
    rw [List.getElem?_set, if_neg n2] at e2 f2
    exact r.inj j k u u' p e1 e2 w1 w2 f1 f2
/-- a slot takes an object of our own that no slot held -/
theorem Rep.setOwn {c : Pc} {G H : Hp} {ρ : Env} {σ : L2.St} {i : Nat} {s : Sl} {p : Addr} (r : Rep c G H ρ σ) (h : SlOk c G H s (some (.ref p)))
    (hn : ∀ (j : Nat) u, j ≠ i → ρ[j]? = some u → u.own = true → σ[j]? ≠ some (some (.ref p))) : Rep c G H (ρ.set i s) (σ.set i (some (.ref p))) := by
  refine ⟨r.gh, by rw [List.length_set, List.length_set, r.len], fun j u e => ?_, fun j k u u' q e1 e2 w1 w2 f1 f2 => ?_⟩
  · rw [List.getElem?_set] at e ⊢
    by_cases hij : i = j
    · rw [if_pos hij] at e ⊢
      by_cases hl : i < ρ.length
      · rw [if_pos hl] at e
        cases e
        rw [if_pos (by rw [← r.len]; exact hl)]
        exact ⟨_, rfl, h⟩
      · rw [if_neg hl] at e
        cases e
    · rw [if_neg hij] at e ⊢
      exact r.sl j u e
  · by_cases h1 : i = j
    · by_cases h2 : i = k
      · rw [← h1, ← h2]
      · rw [List.getElem?_set, if_pos h1] at f1
        rw [List.getElem?_set, if_neg h2] at f2 e2
        split at f1
        · cases f1
          exact absurd f2 (hn k u' (fun z => h2 z.symm) e2 w2)
        · cases f1
    · by_cases h2 : i = k
      · rw [List.getElem?_set, if_neg h1] at f1 e1
        rw [List.getElem?_set, if_pos h2] at f2
        split at f2
        · cases f2
          exact absurd f1 (hn j u (fun z => h1 z.symm) e1 w1)
        · cases f2
      · rw [List.getElem?_set, if_neg h1] at f1 e1
        rw [List.getElem?_set, if_neg h2] at f2 e2
        exact r.inj j k u u' q e1 e2 w1 w2 f1 f2
/-- an owned object of slot i is rewritten -/
theorem Rep.mut {c : Pc} {G H : Hp} {ρ : Env} {σ : L2.St} {i : Nat} {s s' : Sl} {p : Addr} {o' : HO} (r : Rep c G H ρ σ) (hi : ρ[i]? = some s) (ho : s.own = true) (hp : σ[i]? = some (some (.ref p)))
    (gp : G p = none) (h : SlOk c G (upd H p o') s' (some (.ref p))) : Rep c G (upd H p o') (ρ.set i s') σ := by
  have e0 : σ.set i (some (.ref p)) = σ := by
    apply List.ext_getElem?
    intro j
    rw [List.getElem?_set]
    by_cases hij : i = j
    · rw [if_pos hij]
      have hl : i < σ.length := (List.getElem?_eq_some_iff.mp hp).1
      rw [if_pos hl, ← hij]
      exact hp.symm
    · rw [if_neg hij]
  have r1 : ∀ (j : Nat) u, ρ[j]? = some u → j ≠ i → ∃ o, σ[j]? = some o ∧ SlOk c G (upd H p o') u o := fun j u e hj => by
    obtain ⟨o, e1, q⟩ := r.sl j u e
    refine ⟨o, e1, ?_⟩
    have ne : ∀ b, o = some (.ref b) → u.own = true → b ≠ p := fun b eb hu z => by
      subst z
      rw [eb] at e1
      exact hj (r.inj j i u s b e hi hu ho e1 hp)
    cases u with
    | no => trivial
    | sh d => exact q
    | ol ds => obtain ⟨b, xs, e2, g1, h1, q2⟩ := q; exact ⟨b, xs, e2, g1, by rw [upd_ne (ne b e2 rfl)]; exact h1, q2⟩
    | od kvs => obtain ⟨b, xs, e2, g1, h1, q2⟩ := q; exact ⟨b, xs, e2, g1, by rw [upd_ne (ne b e2 rfl)]; exact h1, q2⟩
    | exn x => exact q
  have gh : Ex G (upd H p o') := fun a u q => by
    rw [upd_ne (ne_of_none q gp)]
    exact r.gh a u q
  refine ⟨gh, by rw [List.length_set, r.len], fun j u e => ?_, fun j k u u' q e1 e2 w1 w2 f1 f2 => ?_⟩
  · rw [List.getElem?_set] at e
    by_cases hij : i = j
    · rw [if_pos hij] at e
      split at e
      · cases e
        rw [← hij]
        exact ⟨_, hp, h⟩
      · cases e
    · rw [if_neg hij] at e
      exact r1 j u e (fun z => hij z.symm)
  · have key : ∀ (m : Nat) w, (ρ.set i s')[m]? = some w → w.own = true → ∃ w', ρ[m]? = some w' ∧ w'.own = true := fun m w e hw => by
      rw [List.getElem?_set] at e
      by_cases him : i = m
      · rw [← him]
        exact ⟨s, hi, ho⟩
      · rw [if_neg him] at e
        exact ⟨w, e, hw⟩
    obtain ⟨w, a1, a2⟩ := key j u e1 w1
    obtain ⟨w', b1, b2⟩ := key k u' e2 w2
    exact r.inj j k w w' q a1 b1 a2 b2 f1 f2
/-- what our own objects are: not those of the entry -/
structure Ent (G0 H0 G H : Hp) (ρ : Env) (σ : L2.St) : Prop where
  nx : Nx G0 H0 G H
  own : ∀ (i : Nat) s p, ρ[i]? = some s → s.own = true → σ[i]? = some (some (.ref p)) → H0 p = none
theorem Ent.go {G0 H0 G H G' H' : Hp} {ρ : Env} {σ : L2.St} (e : Ent G0 H0 G H ρ σ) (n : Nx G H G' H') : Ent G0 H0 G' H' ρ σ := ⟨e.nx.trans n, e.own⟩
end PF

namespace PF
open PySem L2

/-- shared data, or a list of our own whose items are shared -/
def Db (K : PySem.W.Frag) (G H : Hp) (v : V) (d : PyData) : Prop := Dp K G v d ∨ ∃ a xs ds, d = .list ds ∧ v = .ref a ∧ SqL K H a xs ∧ DpAll K G xs ds
theorem db_h {K : PySem.W.Frag} {G H : Hp} {v : V} {d : PyData} (e : Ex G H) (h : Db K G H v d) : Dp K H v d := by
  rcases h with h | ⟨a, xs, ds, rfl, rfl, h, q⟩
  · exact Dp.ex e h
  · exact .lst h (DpAll.ex e q)
theorem db_nx {K : PySem.W.Frag} {G H G' H' : Hp} {v : V} {d : PyData} (n : Nx G H G' H') (h : Db K G H v d) : Db K G' H' v d := by
  rcases h with h | ⟨a, xs, ds, rfl, rfl, h, q⟩
  · exact .inl (Dp.ex n.g h)
  · exact .inr ⟨a, xs, ds, rfl, rfl, Ex.sql n.h h, DpAll.ex n.g q⟩
theorem db_list {K : PySem.W.Frag} {G H : Hp} {v : V} {ds : List PyData} (e : Ex G H) (h : Db K G H v (.list ds)) : ∃ a xs, v = .ref a ∧ SqL K H a xs ∧ DpAll K G xs ds := by
  rcases h with h | ⟨a, xs, ds, z, rfl, h, q⟩
  · obtain ⟨a, xs, rfl, h, q⟩ := Dp.list_v h
    exact ⟨a, xs, rfl, Ex.sql e h, q⟩
  · cases z
    exact ⟨a, xs, rfl, h, q⟩
theorem db_tups {K : PySem.W.Frag} {G H : Hp} {v : V} {ds : List PyData} (h : Db K G H v (.tuple ds)) : ∃ a xs, v = .ref a ∧ G a = some (.tup xs) ∧ DpAll K G xs ds := by
  rcases h with h | ⟨a, xs, ds, z, _⟩
  · exact Dp.tuple_s h
  · cases z
theorem db_tup {K : PySem.W.Frag} {G H : Hp} {v : V} {ds : List PyData} (h : Db K G H v (.tuple ds)) : ∃ a xs, v = .ref a ∧ SqT K G a xs ∧ DpAll K G xs ds := by
  rcases h with h | ⟨a, xs, ds, z, _⟩
  · exact Dp.tuple_v h
  · cases z
theorem db_int {K : PySem.W.Frag} {G H : Hp} {v : V} {i : Int} (h : Db K G H v (.int i)) : v = .int i := by
  rcases h with h | ⟨a, xs, ds, z, _⟩
  · exact Dp.int_v h
  · cases z
theorem db_bl {K : PySem.W.Frag} {G H : Hp} {v : V} {i : Bool} (h : Db K G H v (.bool i)) : v = .bl i := by
  rcases h with h | ⟨a, xs, ds, z, _⟩
  · exact Dp.bl_v h
  · cases z
theorem db_non {K : PySem.W.Frag} {G H : Hp} {v : V} (h : Db K G H v .none) : v = .non := by
  rcases h with h | ⟨a, xs, ds, z, _⟩
  · exact Dp.non_v h
  · cases z

/-! ### what a reading gives -/
abbrev Rel (β α : Type) := Hp → Hp → Hp → Hp → β → α → Prop
def ErrP {α : Type} (c : Pc) (E : XK) (G H : Hp) (r : Rs α) : Prop := ∀ x, r = .err x → ∀ G' H' cl dd, Nx G H G' H' → XR c x cl dd G' → E cl dd H'
theorem ErrP.go {α : Type} {c : Pc} {E : XK} {G H G' H' : Hp} {r : Rs α} (h : ErrP c E G H r) (n : Nx G H G' H') : ErrP c E G' H' r := fun x e _ _ _ _ m q => h x e _ _ _ _ (n.trans m) q
def SemG {β α : Type} (c : Pc) (E : XK) (t : L2.St → Hp → (β → Hp → Prop) → Prop) (F : Env → Rs α) (R : Rel β α) : Prop :=
  ∀ (G H : Hp) (ρ : Env) (σ : L2.St), Rep c G H ρ σ → F ρ ≠ .stuck → ∀ Q : β → Hp → Prop,
    (∀ a, F ρ = .ok a → ∀ G' H' v, Nx G H G' H' → R G H G' H' v a → Q v H') → ErrP c E G H (F ρ) → t σ H Q
theorem SemG.use {β α γ : Type} {c : Pc} {E : XK} {t : L2.St → Hp → (β → Hp → Prop) → Prop} {F : Env → Rs α} {R : Rel β α} (h : SemG c E t F R) {k : α → Rs γ} {G H : Hp} {ρ : Env} {σ : L2.St} (rep : Rep c G H ρ σ)
    (hns : (F ρ >>= k) ≠ .stuck) (her : ErrP c E G H (F ρ >>= k)) {Q : β → Hp → Prop}
    (go : ∀ a, F ρ = .ok a → (F ρ >>= k) = k a → ∀ G' H' v, Nx G H G' H' → Rep c G' H' ρ σ → R G H G' H' v a → k a ≠ .stuck → ErrP c E G' H' (k a) → Q v H') : t σ H Q := by
  refine h G H ρ σ rep (fun z => hns (by rw [z]; rfl)) Q (fun a e G' H' v n q => ?_) (fun x e => ?_)
  · have e1 : (F ρ >>= k) = k a := by rw [e]; rfl
    refine go a e e1 G' H' v n (rep.nx n) q (by rw [← e1]; exact hns) ?_
    rw [← e1]
    exact her.go n
  · exact her x (by rw [e]; rfl)
def RB (c : Pc) : Rel V PyData := fun _ _ G' H' v d => Db c.K G' H' v d
def RS (c : Pc) : Rel V PyData := fun _ _ G' _ v d => Dp c.K G' v d
def RV (c : Pc) : Rel V Sl := fun _ H G' H' v s => match s with
  | .no => False
  | .sh d => Dp c.K G' v d
  | .ol ds => ∃ p xs, v = .ref p ∧ H p = none ∧ G' p = none ∧ H' p = some (.lst xs) ∧ DpAll c.K G' xs ds
  | .od kvs => ∃ p es, v = .ref p ∧ H p = none ∧ G' p = none ∧ H' p = some (.dT es) ∧ KvOk c.K G' es kvs
  | .exn x => ExnOk c G' v x
def RT : Rel Bool Bool := fun _ _ _ _ b a => b = a
def RA (c : Pc) : Rel (List V) (List PyData) := fun _ _ G' _ vs ds => DpAll c.K G' vs ds
def RO : Rel (Option Int) (Option Int) := fun _ _ _ _ b a => b = a
theorem RV.mono {c : Pc} {G H G1 H1 G' H' : Hp} {v : V} {s : Sl} (n : Nx G H G1 H1) (h : RV c G1 H1 G' H' v s) : RV c G H G' H' v s := by
  cases s with
  | no => exact h
  | sh d => exact h
  | ol ds => obtain ⟨p, xs, e, h1, q⟩ := h; exact ⟨p, xs, e, n.h.back h1, q⟩
  | od ds => obtain ⟨p, xs, e, h1, q⟩ := h; exact ⟨p, xs, e, n.h.back h1, q⟩
  | exn x => exact h

/-! ### the judgements: the syntax's reading, and what it computes -/
structure JB (ca : Nat → Addr) (X : Cx) (E : XK) (e : Expr) (t : TE) (F : Env → Rs PyData) : Prop where
  pe : PE X e t
  sem : SemG ⟨X.K, ca⟩ E t F (RB ⟨X.K, ca⟩)
structure JS (ca : Nat → Addr) (X : Cx) (E : XK) (e : Expr) (t : TE) (F : Env → Rs PyData) : Prop where
  pe : PE X e t
  sem : SemG ⟨X.K, ca⟩ E t F (RS ⟨X.K, ca⟩)
structure JV (ca : Nat → Addr) (X : Cx) (E : XK) (e : Expr) (t : TE) (F : Env → Rs Sl) : Prop where
  pe : PE X e t
  sem : SemG ⟨X.K, ca⟩ E t F (RV ⟨X.K, ca⟩)
structure JT (ca : Nat → Addr) (X : Cx) (E : XK) (e : Expr) (t : TT) (F : Env → Rs Bool) : Prop where
  pt : PT X e t
  sem : SemG ⟨X.K, ca⟩ E t F RT
structure JA (ca : Nat → Addr) (X : Cx) (E : XK) (es : List Expr) (t : TA) (F : Env → Rs (List PyData)) : Prop where
  pa : PA X es t
  sem : SemG ⟨X.K, ca⟩ E t F (RA ⟨X.K, ca⟩)
structure JO (ca : Nat → Addr) (X : Cx) (E : XK) (e : Option Expr) (t : TO) (F : Env → Rs (Option Int)) : Prop where
  po : PO X e t
  sem : SemG ⟨X.K, ca⟩ E t F RO

def slShare : Sl → Rs PyData
  | .sh d => .ok d
  | .ol ds => .ok (.list ds)
  | _ => .stuck
def fSh (F : Env → Rs Sl) : Env → Rs PyData := fun ρ => F ρ >>= slShare
def fV (F : Env → Rs PyData) : Env → Rs Sl := fun ρ => F ρ >>= fun d => .ok (.sh d)
section
variable {ca : Nat → Addr} {X : Cx} {E : XK} {e : Expr} {t : TE}
theorem jb_s {F : Env → Rs PyData} (h : JS ca X E e t F) : JB ca X E e t F :=
  ⟨h.pe, fun G H ρ σ rep hns Q ok er => h.sem G H ρ σ rep hns Q (fun a ea G' H' v n q => ok a ea G' H' v n (.inl q)) er⟩
theorem jv_s {F : Env → Rs PyData} (h : JS ca X E e t F) : JV ca X E e t (fV F) :=
  ⟨h.pe, fun G H ρ σ rep hns Q ok er => h.sem.use rep hns er fun a ea e1 G' H' v n _ q _ _ => ok (.sh a) e1 G' H' v n q⟩
theorem js_v {F : Env → Rs Sl} (h : JV ca X E e t F) : JS ca X E e t (fSh F) := by
  refine ⟨h.pe, fun G H ρ σ rep hns Q ok er => h.sem.use rep hns er fun a ea e1 G' H' v n _ q hk _ => ?_⟩
  cases a with
  | no => exact absurd rfl hk
  | sh d => exact ok d e1 G' H' v n q
  | ol ds =>
    obtain ⟨p, xs, rfl, h0, g1, h1, q⟩ := q
    have m := n.show h0 h1 g1
    refine ok (.list ds) e1 (upd G' p (.lst xs)) H' _ m ?_
    have x : Ex G' (upd G' p (.lst xs)) := Ex.new g1
    exact Dp.lst (.inl (.inl upd_same)) (DpAll.ex x q)
  | od kvs => exact absurd rfl hk
  | exn x => exact absurd rfl hk
end

/-! ### names, constants -/
def slB : Option Sl → Rs PyData
  | some (.sh d) => .ok d
  | some (.ol ds) => .ok (.list ds)
  | _ => .stuck
def slS : Option Sl → Rs PyData
  | some (.sh d) => .ok d
  | _ => .stuck
def fVarB (i : Nat) : Env → Rs PyData := fun ρ => slB ρ[i]?
def fVarS (i : Nat) : Env → Rs PyData := fun ρ => slS ρ[i]?
def fC (d : PyData) : Env → Rs PyData := fun _ => .ok d
section
variable {ca : Nat → Addr} {X : Cx} {E : XK} {pos : Pos}
theorem jb_var (i : Nat) {x : Str} (h : PE X (.Name x pos) (tVar i)) : JB ca X E (.Name x pos) (tVar i) (fVarB i) := by
  refine ⟨h, fun G H ρ σ rep hns Q ok er => ?_⟩
  unfold fVarB at hns ok
  cases hs : ρ[i]? with
  | none => rw [hs] at hns; exact absurd rfl hns
  | some s =>
    rw [hs] at hns ok
    obtain ⟨o, e1, q⟩ := rep.sl i s hs
    cases s with
    | sh d =>
      obtain ⟨v, rfl, q⟩ := q
      exact ⟨v, e1, ok d rfl G H v (Nx.refl rep.gh) (.inl q)⟩
    | ol ds =>
      obtain ⟨p, xs, rfl, g1, h1, q⟩ := q
      exact ⟨_, e1, ok (.list ds) rfl G H _ (Nx.refl rep.gh) (.inr ⟨_, _, _, rfl, rfl, .inl (.inl h1), q⟩)⟩
    | no => exact absurd rfl hns
    | od _ => exact absurd rfl hns
    | exn _ => exact absurd rfl hns
theorem js_var (i : Nat) {x : Str} (h : PE X (.Name x pos) (tVar i)) : JS ca X E (.Name x pos) (tVar i) (fVarS i) := by
  refine ⟨h, fun G H ρ σ rep hns Q ok er => ?_⟩
  unfold fVarS at hns ok
  cases hs : ρ[i]? with
  | none => rw [hs] at hns; exact absurd rfl hns
  | some s =>
    rw [hs] at hns ok
    obtain ⟨o, e1, q⟩ := rep.sl i s hs
    cases s with
    | sh d =>
      obtain ⟨v, rfl, q⟩ := q
      exact ⟨v, e1, ok d rfl G H v (Nx.refl rep.gh) q⟩
    | ol ds => exact absurd rfl hns
    | no => exact absurd rfl hns
    | od _ => exact absurd rfl hns
    | exn _ => exact absurd rfl hns
theorem sem_c {c : Pc} {v : V} {d : PyData} (h : ∀ G, Dp c.K G v d) : SemG c E (tC v) (fC d) (RS c) :=
  fun G H ρ σ rep _ Q ok _ => ok d rfl G H v (Nx.refl rep.gh) (h G)
theorem js_int {i : Int} {j : Nat} : JS ca X E (.Constant (.int i) j pos) (tC (.int i)) (fC (.int i)) := ⟨pe_int, sem_c fun _ => .int i⟩
theorem js_bl {b : Bool} {j : Nat} : JS ca X E (.Constant (.bool b) j pos) (tC (.bl b)) (fC (.bool b)) := ⟨pe_bl, sem_c fun _ => .bl b⟩
theorem js_non {j : Nat} : JS ca X E (.Constant .none j pos) (tC .non) (fC .none) := ⟨pe_non, sem_c fun _ => .non⟩
end

/-! ### two-place operations -/
def fOp {α : Type} (f : PyData → PyData → Rs α) (Fa Fb : Env → Rs PyData) : Env → Rs α := fun ρ => Fa ρ >>= fun a => Fb ρ >>= fun b => f a b
/-- f is computed by the rule r -/
structure OpSem {α : Type} (c : Pc) (r : R2) (f : PyData → PyData → Rs α) (R : Rel V α) : Prop where
  go : ∀ G H x y a b s, Ex G H → Db c.K G H x a → Db c.K G H y b → f a b = .ok s → ∀ Q : VK, (∀ G' H' v, Nx G H G' H' → R G H G' H' v s → Q v H') → r x y H Q
  ne : ∀ a b x, f a b ≠ .err x
theorem sem_op {α : Type} {c : Pc} {E : XK} {r : R2} {f : PyData → PyData → Rs α} {R : Rel V α} {ta tb : TE} {Fa Fb : Env → Rs PyData} (hr : OpSem c r f R)
    (hR : ∀ G H G1 H1 G' H' v s, Nx G H G1 H1 → R G1 H1 G' H' v s → R G H G' H' v s) (ha : SemG c E ta Fa (RB c)) (hb : SemG c E tb Fb (RB c)) : SemG c E (tOp r ta tb) (fOp f Fa Fb) R := by
  intro G H ρ σ rep hns Q ok er
  refine ha.use rep hns er fun a ea e1 G1 H1 x n1 r1 q1 h1 er1 => ?_
  refine hb.use r1 h1 er1 fun b eb e2 G2 H2 y n2 r2 q2 h2 er2 => ?_
  cases hf : f a b with
  | stuck => exact absurd hf h2
  | err z => exact absurd hf (hr.ne a b z)
  | ok s =>
    refine hr.go G2 H2 x y a b s n2.gh (db_nx n2 q1) q2 hf Q fun G' H' v n3 q3 => ?_
    refine ok s ?_ G' H' v ((n1.trans n2).trans n3) (hR _ _ _ _ _ _ _ _ (n1.trans n2) q3)
    unfold fOp
    rw [e1, e2, hf]
theorem RS.mono {c : Pc} : ∀ (G H G1 H1 G' H' : Hp) (v : V) (s : PyData), Nx G H G1 H1 → RS c G1 H1 G' H' v s → RS c G H G' H' v s := fun _ _ _ _ _ _ _ _ _ h => h
theorem RV.mono' {c : Pc} : ∀ (G H G1 H1 G' H' : Hp) (v : V) (s : Sl), Nx G H G1 H1 → RV c G1 H1 G' H' v s → RV c G H G' H' v s := fun _ _ _ _ _ _ _ _ n h => RV.mono n h
def intOf : PyData → Rs Int
  | .int i => .ok i
  | _ => .stuck
/-- the ints' own operations -/
def iop (f : Int → Int → Rs PyData) : PyData → PyData → Rs PyData
  | .int a, .int b => f a b
  | _, _ => .stuck
theorem iop_ok {f : Int → Int → Rs PyData} {a b : PyData} {s : PyData} (h : iop f a b = .ok s) : ∃ i j, a = .int i ∧ b = .int j ∧ f i j = .ok s := by
  unfold iop at h
  split at h
  · exact ⟨_, _, rfl, rfl, h⟩
  · cases h
theorem iop_ne {f : Int → Int → Rs PyData} (hf : ∀ i j x, f i j ≠ .err x) : ∀ a b x, iop f a b ≠ .err x := fun a b x h => by
  unfold iop at h
  split at h
  · exact hf _ _ x h
  · cases h
theorem opsem_int {c : Pc} {C : Int → Int → Prop} {g : Int → Int → V} {f : Int → Int → Rs PyData} (hf : ∀ i j s, f i j = .ok s → C i j ∧ ∀ G, Dp c.K G (g i j) s) (hne : ∀ i j x, f i j ≠ .err x) : OpSem c (rI C g) (iop f) (RS c) where
  go := fun G H x y a b s e da db hs Q q => by
    obtain ⟨i, j, rfl, rfl, hs⟩ := iop_ok hs
    obtain ⟨h1, h2⟩ := hf i j s hs
    exact ⟨i, j, db_int da, db_int db, h1, q G H _ (Nx.refl e) (h2 G)⟩
  ne := iop_ne hne
theorem opsem_int0 {c : Pc} {g : Int → Int → V} {f : Int → Int → PyData} (hf : ∀ i j G, Dp c.K G (g i j) (f i j)) : OpSem c (rI0 g) (iop fun i j => .ok (f i j)) (RS c) where
  go := fun G H x y a b s e da db hs Q q => by
    obtain ⟨i, j, rfl, rfl, hs⟩ := iop_ok hs
    cases hs
    exact ⟨i, j, db_int da, db_int db, q G H _ (Nx.refl e) (hf i j G)⟩
  ne := iop_ne fun _ _ _ h => nomatch h
/-- how large a list may grow here -/
abbrev lim : Nat := 1000000
theorem lim_le {n : Nat} (h : n ≤ lim) : n ≤ sizeLine := Nat.le_trans h (by decide)
theorem lim_lt {n : Nat} (h : n < lim) : n < sizeLine := Nat.lt_of_lt_of_le h (by decide)
/-- + of ints, lists, tuples -/
def addD : PyData → PyData → Rs Sl
  | .int a, .int b => .ok (.sh (.int (a + b)))
  | .list xs, .list ys => if xs.length + ys.length ≤ lim then .ok (.ol (xs ++ ys)) else .stuck
  | .tuple xs, .tuple ys => if xs.length + ys.length ≤ lim then .ok (.sh (.tuple (xs ++ ys))) else .stuck
  | _, _ => .stuck
def rAddA (K : PySem.W.Frag) : R2 := fun x y H Q => (rI0 (fun i j => .int (i + j)) x y H Q ∨ (∃ a b xs ys, x = .ref a ∧ y = .ref b ∧ SqL K H a xs ∧ SqL K H b ys ∧ xs.length + ys.length ≤ sizeLine ∧ ∀ p, H p = none → Q (.ref p) (upd H p (.lst (xs ++ ys))))) ∨ rCatA K x y H Q
theorem opsem_add {c : Pc} : OpSem c (rAddA c.K) addD (RV c) where
  go := fun G H x y a b s e da db hs Q q => by
    unfold addD at hs
    split at hs
    · cases hs
      exact .inl (.inl ⟨_, _, db_int da, db_int db, q G H _ (Nx.refl e) (.int _)⟩)
    · split at hs
      · rename_i xs ys hl
        cases hs
        obtain ⟨p, vs, rfl, hv, av⟩ := db_list e da
        obtain ⟨r, ws, rfl, hw, aw⟩ := db_list e db
        exact .inl (.inr ⟨p, r, vs, ws, rfl, rfl, hv, hw, lim_le (by rw [DpAll.length av, DpAll.length aw]; exact hl), fun l hl =>
          q G _ _ (Nx.hid e hl) ⟨l, _, rfl, hl, e.back hl, upd_same, DpAll.append av aw⟩⟩)
      · cases hs
    · split at hs
      · rename_i xs ys hl
        cases hs
        obtain ⟨p, vs, rfl, hv, av⟩ := db_tups da
        obtain ⟨r, ws, rfl, hw, aw⟩ := db_tups db
        have lv := DpAll.length av
        have lw := DpAll.length aw
        refine .inr ⟨p, r, vs, ws, rfl, rfl, Ex.sqt e (tup_sqt hv), Ex.sqt e (tup_sqt hw), lim_le (by rw [lv, lw]; exact hl), fun z => ?_, fun z1 z2 => ?_, fun z1 z2 l hl => ?_⟩
        · subst z
          cases av
          exact q G H _ (Nx.refl e) (.tup hw aw)
        · subst z2
          cases aw
          rw [List.append_nil] at q
          exact q G H _ (Nx.refl e) (.tup hv av)
        · exact q _ _ _ (Nx.new e hl) (.tup upd_same (DpAll.ex (Ex.new (e.back hl)) (DpAll.append av aw)))
      · cases hs
    · cases hs
  ne := fun a b x h => by
    unfold addD at h
    split at h
    · cases h
    · split at h <;> cases h
    · split at h <;> cases h
    · cases h
end PF

namespace PF
open PySem L2

/-! ### operators of the machine -/
def mulOk (i j : Int) : Prop := i.natAbs.log2 < 64 ∨ j.natAbs.log2 < 64 ∨ i.natAbs.log2 + j.natAbs.log2 < 134217000
instance (i j : Int) : Decidable (mulOk i j) := by unfold mulOk; infer_instance
theorem mulOk.ok {i j : Int} (h : mulOk i j) : IntMulOk i j := by
  have b : ∀ x : Int, Builtin.Int.intBits x ≤ x.natAbs.log2 + 1 := fun x => by
    unfold Builtin.Int.intBits
    split <;> omega
  have h1 := b i
  have h2 := b j
  rcases h with h | h | h
  · exact IntMulOk.of_left (by omega)
  · exact IntMulOk.of_right (by omega)
  · have e : bitsLine = 134217728 := by decide
    unfold IntMulOk
    intro z
    rw [Bool.and_eq_true] at z
    have z2 := z.2
    unfold Builtin.Int.intTooBig at z2
    have z3 := of_decide_eq_true z2
    rw [e] at z3
    omega
def divOk (i j : Int) : Prop := j ≠ 0 ∧ Builtin.divisionGoesByPylong i j = false
instance (i j : Int) : Decidable (divOk i j) := by unfold divOk; infer_instance
def powOk (i j : Int) : Prop := 0 ≤ j ∧ j ≤ 1000000 ∧ i.natAbs < 2 ^ 64
instance (i j : Int) : Decidable (powOk i j) := by unfold powOk; infer_instance
section
variable {X : Cx}
theorem op_mulP : OpR X (binaryOp .Mult) (rI mulOk fun i j => .int (i * j)) := opI fun _ _ _ _ _ _ _ hc q => PyProof.Rows.mul_int q hc.ok
theorem op_divP : OpR X (binaryOp .FloorDiv) (rI divOk fun i j => .int (i.fdiv j)) := opI fun i j _ _ _ _ _ hc q => PyProof.Rows.floordiv_int hc.1 q (.inl hc.2)
def rCatL (K : PySem.W.Frag) : R2 := fun x y H Q => ∃ a b xs ys, x = .ref a ∧ y = .ref b ∧ SqL K H a xs ∧ SqL K H b ys ∧ xs.length + ys.length ≤ sizeLine ∧ ∀ p, H p = none → Q (.ref p) (upd H p (.lst (xs ++ ys)))
open PyProof.Rows in
theorem op_catL : OpR X (binaryOp .Add) (rCatL X.K) := by
  intro pins s σ H x y v u Q I rx ry h
  obtain ⟨a, b, xs, ys, rfl, rfl, ha, hb, hz, q⟩ := h
  cases rx
  cases ry
  obtain ⟨its, r1, ⟨⟨cls, dd, data, sl⟩, n, ho, hc, _, hd⟩, z1⟩ := I.list ha
  obtain ⟨its2, r2, ⟨⟨cls2, dd2, data2, sl2⟩, n2, ho2, hc2, _, hd2⟩, z2⟩ := I.list hb
  simp only at hc hd hc2 hd2
  subst hc hd hc2 hd2
  have e1 := r1.length
  have e2 := r2.length
  refine concat_meets ⟨_, ho, rfl⟩ ⟨_, ho2, rfl⟩ noFill_list_add seq_list_add PySem.F.slot_list_add PySem.F.entry_list_add (PySem.F.args_list_add_2 _ _)
    (list_addW a b its.toArray its2.toArray n n2 dd dd2 sl sl2 (by rw [List.size_toArray, List.size_toArray]; omega)) ⟨ho, ho2, ?_⟩
  have ea : its.toArray ++ its2.toArray = (its ++ its2).toArray := by simp
  rw [ea]
  exact ⟨.ref _, _, I.lnew (t' := s.toks) (r1.append r2) (by rw [List.length_append]; omega), rfl, q _ I.fresh⟩
theorem op_addA : OpR X (binaryOp .Add) (rAddA X.K) := (op_add.or op_catL).or op_catA
end

/-! ### ints -/
def subD : PyData → PyData → Rs PyData := iop fun i j => .ok (.int (i - j))
def mulD : PyData → PyData → Rs PyData := iop fun i j => if mulOk i j then .ok (.int (i * j)) else .stuck
def divD : PyData → PyData → Rs PyData := iop fun i j => if divOk i j then .ok (.int (i.fdiv j)) else .stuck
def modD : PyData → PyData → Rs PyData := iop fun i j => if j ≠ 0 then .ok (.int (i.fmod j)) else .stuck
def powD : PyData → PyData → Rs PyData := iop fun i j => if powOk i j then .ok (.int (i ^ j.toNat)) else .stuck
def ltD : PyData → PyData → Rs PyData := iop fun i j => .ok (.bool (decide (i < j)))
def leD : PyData → PyData → Rs PyData := iop fun i j => .ok (.bool (decide (i ≤ j)))
def gtD : PyData → PyData → Rs PyData := iop fun i j => .ok (.bool (decide (j < i)))
def geD : PyData → PyData → Rs PyData := iop fun i j => .ok (.bool (decide (j ≤ i)))
theorem opsem_if {c : Pc} {C : Int → Int → Prop} [∀ i j, Decidable (C i j)] {g : Int → Int → Int} : OpSem c (rI C fun i j => .int (g i j)) (iop fun i j => if C i j then .ok (.int (g i j)) else .stuck) (RS c) :=
  opsem_int (fun i j s h => by
    split at h
    · rename_i hc
      cases h
      exact ⟨hc, fun _ => .int _⟩
    · cases h) (fun i j x h => by split at h <;> cases h)
section
variable {c : Pc}
theorem opsem_sub : OpSem c (rI0 fun i j => .int (i - j)) subD (RS c) := opsem_int0 fun _ _ _ => .int _
theorem opsem_mul : OpSem c (rI mulOk fun i j => .int (i * j)) mulD (RS c) := opsem_if
theorem opsem_div : OpSem c (rI divOk fun i j => .int (i.fdiv j)) divD (RS c) := opsem_if
theorem opsem_mod : OpSem c (rI (fun _ j => j ≠ 0) fun i j => .int (i.fmod j)) modD (RS c) := opsem_if (C := fun _ j => j ≠ 0)
theorem opsem_pow : OpSem c (rI CPow fun i j => .int (i ^ j.toNat)) powD (RS c) := opsem_if (C := powOk)
theorem opsem_lt : OpSem c (rI0 fun i j => .bl (decide (i < j))) ltD (RS c) := opsem_int0 fun _ _ _ => .bl _
theorem opsem_le : OpSem c (rI0 fun i j => .bl (decide (i ≤ j))) leD (RS c) := opsem_int0 fun _ _ _ => .bl _
theorem opsem_gt : OpSem c (rI0 fun i j => .bl (decide (j < i))) gtD (RS c) := opsem_int0 fun _ _ _ => .bl _
theorem opsem_ge : OpSem c (rI0 fun i j => .bl (decide (j ≤ i))) geD (RS c) := opsem_int0 fun _ _ _ => .bl _
end
/-! ### == and in, of data -/
def eqD (a b : PyData) : Rs PyData := if SeqAt.shaped a = true ∧ SeqAt.shaped b = true then .ok (.bool (PyData.eqv a b)) else .stuck
def neD (a b : PyData) : Rs PyData := if SeqAt.shaped a = true ∧ SeqAt.shaped b = true then .ok (.bool (!PyData.eqv a b)) else .stuck
def inD (a b : PyData) : Rs PyData := match b with
  | .list ds => if SeqAt.shaped a = true ∧ SeqAt.shaped (.list ds) = true then .ok (.bool (ds.any fun z => PyData.eqv z a)) else .stuck
  | _ => .stuck
def ninD (a b : PyData) : Rs PyData := match b with
  | .list ds => if SeqAt.shaped a = true ∧ SeqAt.shaped (.list ds) = true then .ok (.bool (!ds.any fun z => PyData.eqv z a)) else .stuck
  | _ => .stuck
def isNo : PyData → Bool
  | .none => true
  | _ => false
def isND (a b : PyData) : Rs PyData := match b with
  | .none => .ok (.bool (isNo a))
  | _ => .stuck
def notND (a b : PyData) : Rs PyData := match b with
  | .none => .ok (.bool (!isNo a))
  | _ => .stuck
section
variable {c : Pc}
theorem opsem_eq : OpSem c (rEqD c.K) eqD (RS c) where
  go := fun G H x y a b s e da db hs Q q => by
    unfold eqD at hs
    split at hs
    · rename_i h
      cases hs
      exact ⟨a, b, (db_h e da).weak, (db_h e db).weak, h.1, h.2, q G H _ (Nx.refl e) (.bl _)⟩
    · cases hs
  ne := fun a b x h => by unfold eqD at h; split at h <;> cases h
theorem opsem_ne : OpSem c (rNeD c.K) neD (RS c) where
  go := fun G H x y a b s e da db hs Q q => by
    unfold neD at hs
    split at hs
    · rename_i h
      cases hs
      exact ⟨a, b, (db_h e da).weak, (db_h e db).weak, h.1, h.2, q G H _ (Nx.refl e) (.bl _)⟩
    · cases hs
  ne := fun a b x h => by unfold neD at h; split at h <;> cases h
theorem opsem_in : OpSem c (rInD c.K) inD (RS c) where
  go := fun G H x y a b s e da db hs Q q => by
    unfold inD at hs
    split at hs
    · rename_i ds
      split at hs
      · rename_i h
        cases hs
        exact ⟨a, ds, (db_h e da).weak, (db_h e db).weak, h.1, h.2, q G H _ (Nx.refl e) (.bl _)⟩
      · cases hs
    · cases hs
  ne := fun a b x h => by
    unfold inD at h
    split at h
    · split at h <;> cases h
    · cases h
theorem opsem_nin : OpSem c (rNotInD c.K) ninD (RS c) where
  go := fun G H x y a b s e da db hs Q q => by
    unfold ninD at hs
    split at hs
    · rename_i ds
      split at hs
      · rename_i h
        cases hs
        exact ⟨a, ds, (db_h e da).weak, (db_h e db).weak, h.1, h.2, q G H _ (Nx.refl e) (.bl _)⟩
      · cases hs
    · cases hs
  ne := fun a b x h => by
    unfold ninD at h
    split at h
    · split at h <;> cases h
    · cases h
theorem db_isNo {K : PySem.W.Frag} {G H : Hp} {v : V} {d : PyData} (h : Db K G H v d) : decide (v = .non) = isNo d := by
  rcases h with h | ⟨a, xs, ds, rfl, rfl, _⟩
  · cases h <;> rfl
  · rfl
theorem opsem_isN : OpSem c (fun x y H Q => y = .non ∧ Q (.bl (decide (x = .non))) H) isND (RS c) where
  go := fun G H x y a b s e da db hs Q q => by
    unfold isND at hs
    split at hs
    · cases hs
      exact ⟨db_non db, q G H _ (Nx.refl e) (by rw [db_isNo da]; exact .bl _)⟩
    · cases hs
  ne := fun a b x h => by unfold isND at h; split at h <;> cases h
theorem opsem_notN : OpSem c (fun x y H Q => y = .non ∧ Q (.bl (!decide (x = .non))) H) notND (RS c) where
  go := fun G H x y a b s e da db hs Q q => by
    unfold notND at hs
    split at hs
    · cases hs
      exact ⟨db_non db, q G H _ (Nx.refl e) (by rw [db_isNo da]; exact .bl _)⟩
    · cases hs
  ne := fun a b x h => by unfold notND at h; split at h <;> cases h
end

/-! ### tests -/
def boolOf : PyData → Rs Bool
  | .bool b => .ok b
  | _ => .stuck
def fB (F : Env → Rs PyData) : Env → Rs Bool := fun ρ => F ρ >>= boolOf
theorem sem_test {c : Pc} {E : XK} {t : TE} {F : Env → Rs PyData} (h : SemG c E t F (RS c)) : SemG c E (fun σ H Q => t σ H fun x H1 => ∃ k, x = .bl k ∧ Q k H1) (fB F) RT := by
  intro G H ρ σ rep hns Q ok er
  refine h.use rep hns er fun a ea e1 G' H' v n _ q hk _ => ?_
  cases a with
  | bool b => exact ⟨b, Dp.bl_v q, ok b e1 G' H' b n rfl⟩
  | none => exact absurd rfl hk
  | int i => exact absurd rfl hk
  | str i => exact absurd rfl hk
  | list i => exact absurd rfl hk
  | tuple i => exact absurd rfl hk
  | dict i => exact absurd rfl hk
def fNot (F : Env → Rs Bool) : Env → Rs Bool := fun ρ => F ρ >>= fun b => .ok (!b)
def fAnd (F G : Env → Rs Bool) : Env → Rs Bool := fun ρ => F ρ >>= fun b => if b = true then G ρ else .ok false
def fOr (F G : Env → Rs Bool) : Env → Rs Bool := fun ρ => F ρ >>= fun b => if b = true then .ok true else G ρ
structure JW (ca : Nat → Addr) (X : Cx) (E : XK) (e : Expr) (t : TT) (F : Env → Rs Bool) : Prop where
  pw : PW X e t
  sem : SemG ⟨X.K, ca⟩ E t F RT
section
variable {ca : Nat → Addr} {X : Cx} {E : XK} {a b e : Expr} {ta tb : TT} {te tf : TE} {pos : Pos} {rest : List Expr}
theorem jt_val {F : Env → Rs PyData} (h : JS ca X E e te F) (he : ∀ whole, isTrue e X.env whole = (do let v ← whole; standAt e.pos; holding [v] (truthy v)) := by intro _; rfl) : JT ca X E e (tB te) (fB F) :=
  ⟨pt_val h.pe he, sem_test h.sem⟩
theorem jt_not {F : Env → Rs Bool} (h : JT ca X E a ta F) : JT ca X E (.UnaryOp .Not a pos) (tNot ta) (fNot F) :=
  ⟨pt_not h.pt, fun G H ρ σ rep hns Q ok er => h.sem.use rep hns er fun x ea e1 G' H' v n _ q hk _ => by
    cases q
    exact ok _ e1 G' H' _ n rfl⟩
theorem jw_and1 {F : Env → Rs Bool} (h : JT ca X E a ta F) : JW ca X E (.BoolOp .And [a] pos) ta F := ⟨pw_and1 h.pt, h.sem⟩
theorem jw_or1 {F : Env → Rs Bool} (h : JT ca X E a ta F) : JW ca X E (.BoolOp .Or [a] pos) ta F := ⟨pw_or1 h.pt, h.sem⟩
theorem jw_and {F F' : Env → Rs Bool} (h : JT ca X E a ta F) (h' : JW ca X E (.BoolOp .And (b :: rest) pos) tb F') : JW ca X E (.BoolOp .And (a :: b :: rest) pos) (tAnd ta tb) (fAnd F F') :=
  ⟨pw_and h.pt h'.pw, fun G H ρ σ rep hns Q ok er => h.sem.use rep hns er fun x ea e1 G' H' v n r q hk er' => by
    cases q
    cases x with
    | true =>
      show tb σ H' Q
      refine h'.sem G' H' ρ σ r hk Q (fun y ey G2 H2 u n2 q2 => ok y (e1.trans ey) G2 H2 u (n.trans n2) q2) er'
    | false =>
      show Q false H'
      exact ok false e1 G' H' false n rfl⟩
theorem jw_or {F F' : Env → Rs Bool} (h : JT ca X E a ta F) (h' : JW ca X E (.BoolOp .Or (b :: rest) pos) tb F') : JW ca X E (.BoolOp .Or (a :: b :: rest) pos) (tOr ta tb) (fOr F F') :=
  ⟨pw_or h.pt h'.pw, fun G H ρ σ rep hns Q ok er => h.sem.use rep hns er fun x ea e1 G' H' v n r q hk er' => by
    cases q
    cases x with
    | false =>
      show tb σ H' Q
      refine h'.sem G' H' ρ σ r hk Q (fun y ey G2 H2 u n2 q2 => ok y (e1.trans ey) G2 H2 u (n.trans n2) q2) er'
    | true =>
      show Q true H'
      exact ok true e1 G' H' true n rfl⟩
theorem jt_w {F : Env → Rs Bool} (h : JW ca X E a ta F) : JT ca X E a ta F := ⟨h.pw.pt, h.sem⟩
/-- as values -/
def fAndV (F G : Env → Rs PyData) : Env → Rs PyData := fun ρ => F ρ >>= fun a => boolOf a >>= fun b => if b = true then G ρ else .ok (.bool false)
def fOrV (F G : Env → Rs PyData) : Env → Rs PyData := fun ρ => F ρ >>= fun a => boolOf a >>= fun b => if b = true then .ok (.bool true) else G ρ
def fNotV (F : Env → Rs PyData) : Env → Rs PyData := fun ρ => F ρ >>= fun a => boolOf a >>= fun b => .ok (.bool (!b))
theorem boolOf_ok {a : PyData} {β : Type} {k : Bool → Rs β} (h : (boolOf a >>= k) ≠ .stuck) : ∃ b, a = .bool b := by
  cases a with
  | bool b => exact ⟨b, rfl⟩
  | none => exact absurd rfl h
  | int i => exact absurd rfl h
  | str i => exact absurd rfl h
  | list i => exact absurd rfl h
  | tuple i => exact absurd rfl h
  | dict i => exact absurd rfl h
theorem js_one {op : BoolOp} {F : Env → Rs PyData} (h : JS ca X E a te F) : JS ca X E (.BoolOp op [a] pos) te F := ⟨pe_one h.pe, h.sem⟩
theorem js_and {F F' : Env → Rs PyData} (h : JS ca X E a te F) (h' : JS ca X E (.BoolOp .And (b :: rest) pos) tf F') : JS ca X E (.BoolOp .And (a :: b :: rest) pos) (tAndV te tf) (fAndV F F') :=
  ⟨pe_and h.pe h'.pe, fun G H ρ σ rep hns Q ok er => h.sem.use rep hns er fun x ea e1 G' H' v n r q hk er' => by
    obtain ⟨k, rfl⟩ := boolOf_ok hk
    refine ⟨k, Dp.bl_v q, ?_⟩
    cases k with
    | true =>
      show tf σ H' Q
      exact h'.sem G' H' ρ σ r hk Q (fun y ey G2 H2 u n2 q2 => ok y (e1.trans ey) G2 H2 u (n.trans n2) q2) er'
    | false =>
      show Q (.bl false) H'
      exact ok (.bool false) e1 G' H' _ n (.bl _)⟩
theorem js_or {F F' : Env → Rs PyData} (h : JS ca X E a te F) (h' : JS ca X E (.BoolOp .Or (b :: rest) pos) tf F') : JS ca X E (.BoolOp .Or (a :: b :: rest) pos) (tOrV te tf) (fOrV F F') :=
  ⟨pe_or h.pe h'.pe, fun G H ρ σ rep hns Q ok er => h.sem.use rep hns er fun x ea e1 G' H' v n r q hk er' => by
    obtain ⟨k, rfl⟩ := boolOf_ok hk
    refine ⟨k, Dp.bl_v q, ?_⟩
    cases k with
    | false =>
      show tf σ H' Q
      exact h'.sem G' H' ρ σ r hk Q (fun y ey G2 H2 u n2 q2 => ok y (e1.trans ey) G2 H2 u (n.trans n2) q2) er'
    | true =>
      show Q (.bl true) H'
      exact ok (.bool true) e1 G' H' _ n (.bl _)⟩
theorem js_not {F : Env → Rs PyData} (h : JS ca X E a te F) : JS ca X E (.UnaryOp .Not a pos) (tNotV te) (fNotV F) :=
  ⟨pe_not h.pe, fun G H ρ σ rep hns Q ok er => h.sem.use rep hns er fun x ea e1 G' H' v n r q hk er' => by
    obtain ⟨k, rfl⟩ := boolOf_ok hk
    exact ⟨k, Dp.bl_v q, ok (.bool (!k)) e1 G' H' _ n (.bl _)⟩⟩
end

/-! ### the operators as judgements -/
section
variable {ca : Nat → Addr} {X : Cx} {E : XK} {a b : Expr} {ta tb : TE} {Fa Fb : Env → Rs PyData} {pos : Pos}
theorem js_bin {op : Operator} {r : R2} {f : PyData → PyData → Rs PyData} (ho : OpR X (binaryOp op) r) (hs : OpSem ⟨X.K, ca⟩ r f (RS ⟨X.K, ca⟩)) (ha : JB ca X E a ta Fa) (hb : JB ca X E b tb Fb) : JS ca X E (.BinOp a op b pos) (tOp r ta tb) (fOp f Fa Fb) :=
  ⟨pe_op ho ha.pe hb.pe, sem_op hs RS.mono ha.sem hb.sem⟩
theorem jv_add (ha : JB ca X E a ta Fa) (hb : JB ca X E b tb Fb) : JV ca X E (.BinOp a .Add b pos) (tOp (rAddA X.K) ta tb) (fOp addD Fa Fb) :=
  ⟨pe_op op_addA ha.pe hb.pe, sem_op opsem_add RV.mono' ha.sem hb.sem⟩
theorem js_sub (ha : JB ca X E a ta Fa) (hb : JB ca X E b tb Fb) : JS ca X E (.BinOp a .Sub b pos) (tOp (rI0 fun i j => .int (i - j)) ta tb) (fOp subD Fa Fb) := js_bin op_sub opsem_sub ha hb
theorem js_mul (ha : JB ca X E a ta Fa) (hb : JB ca X E b tb Fb) : JS ca X E (.BinOp a .Mult b pos) (tOp (rI mulOk fun i j => .int (i * j)) ta tb) (fOp mulD Fa Fb) := js_bin op_mulP opsem_mul ha hb
theorem js_div (ha : JB ca X E a ta Fa) (hb : JB ca X E b tb Fb) : JS ca X E (.BinOp a .FloorDiv b pos) (tOp (rI divOk fun i j => .int (i.fdiv j)) ta tb) (fOp divD Fa Fb) := js_bin op_divP opsem_div ha hb
theorem js_mod (ha : JB ca X E a ta Fa) (hb : JB ca X E b tb Fb) : JS ca X E (.BinOp a .Mod b pos) (tOp (rI (fun _ j => j ≠ 0) fun i j => .int (i.fmod j)) ta tb) (fOp modD Fa Fb) := js_bin op_modN opsem_mod ha hb
theorem js_pow (ha : JB ca X E a ta Fa) (hb : JB ca X E b tb Fb) : JS ca X E (.BinOp a .Pow b pos) (tOp (rI CPow fun i j => .int (i ^ j.toNat)) ta tb) (fOp powD Fa Fb) := js_bin op_pow opsem_pow ha hb
theorem js_cmp {op : CmpOp} {r : R2} {f : PyData → PyData → Rs PyData} (ho : OpR X (compareOp op) r) (hs : OpSem ⟨X.K, ca⟩ r f (RS ⟨X.K, ca⟩)) (hm : behindInMarks op b = false) (ha : JB ca X E a ta Fa) (hb : JB ca X E b tb Fb) : JS ca X E (.Compare a [op] [b] pos) (tOp r ta tb) (fOp f Fa Fb) :=
  ⟨pe_cmpR ho ha.pe hb.pe hm, sem_op hs RS.mono ha.sem hb.sem⟩
theorem jt_cmp {op : CmpOp} {r : R2} {f : PyData → PyData → Rs PyData} (ho : OpR X (compareOp op) r) (hs : OpSem ⟨X.K, ca⟩ r f (RS ⟨X.K, ca⟩)) (hm : behindInMarks op b = false) (ha : JB ca X E a ta Fa) (hb : JB ca X E b tb Fb) : JT ca X E (.Compare a [op] [b] pos) (tTest (tOp r ta tb)) (fB (fOp f Fa Fb)) :=
  ⟨pt_cmpR ho ha.pe hb.pe hm, sem_test (sem_op hs RS.mono ha.sem hb.sem)⟩
/-- -a -/
def negD : PyData → Rs PyData
  | .int i => .ok (.int (-i))
  | _ => .stuck
def fUn {α β : Type} (f : α → Rs β) (F : Env → Rs α) : Env → Rs β := fun ρ => F ρ >>= f
theorem js_neg (ha : JB ca X E a ta Fa) : JS ca X E (.UnaryOp .USub a pos) (tUn (rU fun i => .int (-i)) ta) (fUn negD Fa) :=
  ⟨pe_un un_neg ha.pe, fun G H ρ σ rep hns Q ok er => ha.sem.use rep hns er fun x ea e1 G' H' v n r q hk er' => by
    cases x with
    | int i => exact ⟨i, db_int q, ok _ e1 G' H' _ n (.int _)⟩
    | none => exact absurd rfl hk
    | bool i => exact absurd rfl hk
    | str i => exact absurd rfl hk
    | list i => exact absurd rfl hk
    | tuple i => exact absurd rfl hk
    | dict i => exact absurd rfl hk⟩
end
/-! ### arguments, displays -/
def fNil : Env → Rs (List PyData) := fun _ => .ok []
def fCons (F : Env → Rs PyData) (Fs : Env → Rs (List PyData)) : Env → Rs (List PyData) := fun ρ => F ρ >>= fun d => Fs ρ >>= fun ds => .ok (d :: ds)
def lstD (ds : List PyData) : Rs Sl := if ds.length ≤ lim then .ok (.ol ds) else .stuck
def tupD (ds : List PyData) : Rs PyData := if ds.length ≤ lim then .ok (.tuple ds) else .stuck
section
variable {ca : Nat → Addr} {X : Cx} {E : XK} {e : Expr} {es : List Expr} {te : TE} {t : TA} {F : Env → Rs PyData} {Fs : Env → Rs (List PyData)} {pos : Pos}
theorem ja_nil : JA ca X E [] tNil fNil := ⟨pa_nil, fun G H ρ σ rep hns Q ok er => ok [] rfl G H [] (Nx.refl rep.gh) .nil⟩
theorem ja_cons (h : JS ca X E e te F) (h' : JA ca X E es t Fs) (hs : starEach (e :: es) X.env = (false, eval e X.env) :: starEach es X.env := by rfl) : JA ca X E (e :: es) (tCons te t) (fCons F Fs) :=
  ⟨pa_cons h.pe h'.pa hs, fun G H ρ σ rep hns Q ok er => h.sem.use rep hns er fun x ea e1 G1 H1 v n1 r1 q1 hk1 er1 => h'.sem.use r1 hk1 er1 fun xs exs e2 G2 H2 vs n2 r2 q2 hk2 er2 =>
    ok (x :: xs) (e1.trans e2) G2 H2 _ (n1.trans n2) (.cons (Dp.ex n2.g q1) q2)⟩
theorem jv_lst (h : JA ca X E es t Fs) : JV ca X E (.List es pos) (tLst t) (fUn lstD Fs) :=
  ⟨pe_lst h.pa, fun G H ρ σ rep hns Q ok er => h.sem.use rep hns er fun x ea e1 G' H' v n r q hk er' => by
    by_cases hl : x.length ≤ lim
    · have e2 : lstD x = .ok (.ol x) := if_pos hl
      exact ⟨lim_le (by rw [DpAll.length q]; exact hl), fun p hp => ok (.ol x) (e1.trans e2) G' _ _ (n.trans (Nx.hid n.gh hp)) ⟨p, v, rfl, n.h.back hp, n.gh.back hp, upd_same, q⟩⟩
    · exact absurd (if_neg hl) hk⟩
theorem js_tup {x1} (h : JA ca X E es t Fs) : JS ca X E (.Tuple es x1 pos) (tTup t) (fUn tupD Fs) :=
  ⟨pe_tup h.pa, fun G H ρ σ rep hns Q ok er => h.sem.use rep hns er fun x ea e1 G' H' v n r q hk er' => by
    by_cases hl : x.length ≤ lim
    · have e2 : tupD x = .ok (.tuple x) := if_pos hl
      refine ⟨lim_le (by rw [DpAll.length q]; exact hl), fun p hp => ok (.tuple x) (e1.trans e2) (upd G' p (.tup v)) _ _ (n.trans (Nx.new n.gh hp)) (.tup upd_same (DpAll.ex (Ex.new (n.gh.back hp)) q))⟩
    · exact absurd (if_neg hl) hk⟩
end
end PF

namespace PF
open PySem L2

/-! ### items and slices -/
def getP (ds : List PyData) (i : Int) : Rs PyData := match atI ds i with
  | some d => .ok d
  | none => .stuck
def ixD (a b : PyData) : Rs PyData := match a, b with
  | .list ds, .int i => getP ds i
  | .tuple ds, .int i => getP ds i
  | _, _ => .stuck
theorem at_dp {K : PySem.W.Frag} {G : Hp} {xs : List V} {ds : List PyData} {i : Int} {d : PyData} (h : DpAll K G xs ds) (e : getP ds i = .ok d) : ∃ v, atI xs i = some v ∧ Dp K G v d := by
  unfold getP at e
  split at e
  · rename_i z hz
    cases e
    unfold atI at hz ⊢
    rw [DpAll.length h]
    cases hn : ixN ds.length i with
    | none => rw [hn] at hz; cases hz
    | some j =>
      rw [hn] at hz
      rw [Option.bind_some] at hz ⊢
      exact DpAll.getD h hz
  · cases e
theorem getP_ne {ds : List PyData} {i : Int} {x : Exn} : getP ds i ≠ .err x := by unfold getP; split <;> exact fun h => nomatch h
theorem opsem_ix {c : Pc} : OpSem c (rIx c.K) ixD (RS c) where
  go := fun G H x y a b s e da db hs Q q => by
    unfold ixD at hs
    split at hs
    · obtain ⟨p, xs, rfl, hx, ax⟩ := db_list e da
      obtain ⟨v, hv, dv⟩ := at_dp ax hs
      exact .inl ⟨p, xs, _, v, rfl, db_int db, hx, hv, q G H v (Nx.refl e) dv⟩
    · obtain ⟨p, xs, rfl, hx, ax⟩ := db_tup da
      obtain ⟨v, hv, dv⟩ := at_dp ax hs
      exact .inr (.inl ⟨p, xs, _, v, rfl, db_int db, Ex.sqt e hx, hv, q G H v (Nx.refl e) dv⟩)
    · cases hs
  ne := fun a b x h => by
    unfold ixD at h
    split at h
    · exact getP_ne h
    · exact getP_ne h
    · cases h
def cutP (ds : List PyData) (lo hi : Option Int) : List PyData := (ds.drop (HT.sIx ds.length 0 lo)).take (HT.sIx ds.length ds.length hi - HT.sIx ds.length 0 lo)
theorem cut_dp {K : PySem.W.Frag} {G : Hp} {xs : List V} {ds : List PyData} (lo hi : Option Int) (h : DpAll K G xs ds) : DpAll K G (cutV xs lo hi) (cutP ds lo hi) := by
  unfold cutV cutP
  rw [DpAll.length h]
  exact DpAll.take _ (DpAll.drop _ h)
def slD (a : PyData) (lo hi : Option Int) : Rs Sl := match a with
  | .list ds => .ok (.ol (cutP ds lo hi))
  | .tuple ds => .ok (.sh (.tuple (cutP ds lo hi)))
  | _ => .stuck
def rSlAll (K : PySem.W.Frag) : V → Option Int → Option Int → Hp → VK → Prop := fun x lo hi H Q => rSlL K x lo hi H Q ∨ rSlA K x lo hi H Q
def fSl (F : Env → Rs PyData) (Fl Fh : Env → Rs (Option Int)) : Env → Rs Sl := fun ρ => F ρ >>= fun a => Fl ρ >>= fun l => Fh ρ >>= fun h => slD a l h
def fNone : Env → Rs (Option Int) := fun _ => .ok none
def fSome (F : Env → Rs PyData) : Env → Rs (Option Int) := fun ρ => F ρ >>= fun d => intOf d >>= fun i => .ok (some i)
theorem intOf_ok {a : PyData} {β : Type} {k : Int → Rs β} (h : (intOf a >>= k) ≠ .stuck) : ∃ b, a = .int b := by
  cases a with
  | int b => exact ⟨b, rfl⟩
  | none => exact absurd rfl h
  | bool i => exact absurd rfl h
  | str i => exact absurd rfl h
  | list i => exact absurd rfl h
  | tuple i => exact absurd rfl h
  | dict i => exact absurd rfl h
section
variable {ca : Nat → Addr} {X : Cx} {E : XK} {a b : Expr} {ta tb : TE} {Fa Fb : Env → Rs PyData} {pos p2 : Pos} {lo hi : Option Expr} {tl th : TO} {Fl Fh : Env → Rs (Option Int)}
theorem js_ix (ha : JB ca X E a ta Fa) (hb : JB ca X E b tb Fb) (hs : PlainIx b := by exact fun _ _ => rfl) : JS ca X E (.Subscript a b pos) (tOp (rIx X.K) ta tb) (fOp ixD Fa Fb) :=
  ⟨pe_ix ix_seq ha.pe hb.pe hs, sem_op opsem_ix RS.mono ha.sem hb.sem⟩
theorem jo_none : JO ca X E none tNoPart fNone := ⟨po_none, fun G H ρ σ rep hns Q ok er => ok none rfl G H none (Nx.refl rep.gh) rfl⟩
theorem jo_some (ha : JB ca X E a ta Fa) : JO ca X E (some a) (tPart ta) (fSome Fa) :=
  ⟨po_some ha.pe, fun G H ρ σ rep hns Q ok er => ha.sem.use rep hns er fun x ea e1 G' H' v n r q hk er' => by
    obtain ⟨i, rfl⟩ := intOf_ok hk
    exact ⟨i, db_int q, ok (some i) e1 G' H' _ n rfl⟩⟩
theorem jv_slice (ha : JB ca X E a ta Fa) (hl : JO ca X E lo tl Fl) (hh : JO ca X E hi th Fh) : JV ca X E (.Subscript a (.Slice lo hi none p2) pos) (tSl (rSlAll X.K) ta tl th) (fSl Fa Fl Fh) :=
  ⟨pe_slice (sl_list.or sl_tupA) ha.pe hl.po hh.po, fun G H ρ σ rep hns Q ok er => ha.sem.use rep hns er fun x ea e1 G1 H1 v n1 r1 q1 hk1 er1 => hl.sem.use r1 hk1 er1 fun l el e2 G2 H2 vl n2 r2 q2 hk2 er2 => hh.sem.use r2 hk2 er2 fun h eh e3 G3 H3 vh n3 r3 q3 hk3 er3 => by
    cases q2
    cases q3
    have q := db_nx (n2.trans n3) q1
    have ee := (e1.trans e2).trans e3
    have nn := (n1.trans n2).trans n3
    cases x with
    | list ds =>
      obtain ⟨p, xs, rfl, hx, ax⟩ := db_list n3.gh q
      exact .inl ⟨p, xs, rfl, hx, fun p' hp => ok _ ee G3 _ _ (nn.trans (Nx.hid n3.gh hp)) ⟨p', _, rfl, nn.h.back hp, n3.gh.back hp, upd_same, cut_dp _ _ ax⟩⟩
    | tuple ds =>
      obtain ⟨p, xs, rfl, hx, ax⟩ := db_tups q
      have le := DpAll.length ax
      refine .inr ⟨p, xs, rfl, Ex.sqt n3.gh (tup_sqt hx), fun hw => ?_, fun hw p' hp => ok _ ee (upd G3 p' (.tup (cutV xs l h))) _ _ (nn.trans (Nx.new n3.gh hp)) (.tup upd_same (DpAll.ex (Ex.new (n3.gh.back hp)) (cut_dp _ _ ax)))⟩
      refine ok _ ee G3 H3 _ nn ?_
      have e0 : cutP ds l h = ds := by
        rw [le] at hw
        unfold cutP
        rw [hw.1, hw.2, List.drop_zero, Nat.sub_zero, List.take_length]
      rw [e0]
      exact .tup hx ax
    | none => exact absurd rfl hk3
    | bool i => exact absurd rfl hk3
    | int i => exact absurd rfl hk3
    | str i => exact absurd rfl hk3
    | dict i => exact absurd rfl hk3⟩
end

/-! ### calls of built-ins by values -/
structure CallSem {α : Type} (c : Pc) (r : List V → Hp → VK → Prop) (f : PyData → Rs α) (R : Rel V α) : Prop where
  go : ∀ G H x a s, Ex G H → Db c.K G H x a → f a = .ok s → ∀ Q : VK, (∀ G' H' v, Nx G H G' H' → R G H G' H' v s → Q v H') → r [x] H Q
  ne : ∀ a x, f a ≠ .err x
theorem sem_call1 {α : Type} {c : Pc} {E : XK} {r : List V → Hp → VK → Prop} {f : PyData → Rs α} {R : Rel V α} {ta : TE} {Fa : Env → Rs PyData} (hr : CallSem c r f R)
    (hR : ∀ G H G1 H1 G' H' v s, Nx G H G1 H1 → R G1 H1 G' H' v s → R G H G' H' v s) (ha : SemG c E ta Fa (RB c)) : SemG c E (tCB r (tCons ta tNil)) (fUn f Fa) R := by
  intro G H ρ σ rep hns Q ok er
  refine ha.use rep hns er fun a ea e1 G1 H1 x n1 r1 q1 h1 er1 => ?_
  cases hf : f a with
  | stuck => exact absurd hf h1
  | err z => exact absurd hf (hr.ne a z)
  | ok s =>
    refine hr.go G1 H1 x a s n1.gh q1 hf Q fun G' H' v n3 q3 => ?_
    refine ok s ?_ G' H' v (n1.trans n3) (hR _ _ _ _ _ _ _ _ n1 q3)
    unfold fUn
    rw [e1, hf]
structure CallSem2 {α : Type} (c : Pc) (r : List V → Hp → VK → Prop) (f : PyData → PyData → Rs α) (R : Rel V α) : Prop where
  go : ∀ G H x y a b s, Ex G H → Db c.K G H x a → Db c.K G H y b → f a b = .ok s → ∀ Q : VK, (∀ G' H' v, Nx G H G' H' → R G H G' H' v s → Q v H') → r [x, y] H Q
  ne : ∀ a b x, f a b ≠ .err x
theorem sem_call2 {α : Type} {c : Pc} {E : XK} {r : List V → Hp → VK → Prop} {f : PyData → PyData → Rs α} {R : Rel V α} {ta tb : TE} {Fa Fb : Env → Rs PyData} (hr : CallSem2 c r f R)
    (hR : ∀ G H G1 H1 G' H' v s, Nx G H G1 H1 → R G1 H1 G' H' v s → R G H G' H' v s) (ha : SemG c E ta Fa (RB c)) (hb : SemG c E tb Fb (RB c)) : SemG c E (tCB r (tCons ta (tCons tb tNil))) (fOp f Fa Fb) R := by
  intro G H ρ σ rep hns Q ok er
  refine ha.use rep hns er fun a ea e1 G1 H1 x n1 r1 q1 h1 er1 => ?_
  refine hb.use r1 h1 er1 fun b eb e2 G2 H2 y n2 r2 q2 h2 er2 => ?_
  cases hf : f a b with
  | stuck => exact absurd hf h2
  | err z => exact absurd hf (hr.ne a b z)
  | ok s =>
    refine hr.go G2 H2 x y a b s n2.gh (db_nx n2 q1) q2 hf Q fun G' H' v n3 q3 => ?_
    refine ok s ?_ G' H' v ((n1.trans n2).trans n3) (hR _ _ _ _ _ _ _ _ (n1.trans n2) q3)
    unfold fOp
    rw [e1, e2, hf]
def lenD : PyData → Rs PyData
  | .list ds => .ok (.int ds.length)
  | .tuple ds => .ok (.int ds.length)
  | _ => .stuck
def absD : PyData → Rs PyData
  | .int i => .ok (.int (if i < 0 then -i else i))
  | _ => .stuck
def int1D : PyData → Rs PyData
  | .int i => .ok (.int i)
  | .bool b => .ok (.int (if b then 1 else 0))
  | _ => .stuck
def listD : PyData → Rs Sl
  | .list ds => .ok (.ol ds)
  | .tuple ds => .ok (.ol ds)
  | _ => .stuck
def tupleD : PyData → Rs PyData
  | .list ds => .ok (.tuple ds)
  | .tuple ds => .ok (.tuple ds)
  | _ => .stuck
def min2D : PyData → PyData → Rs PyData := iop fun i j => .ok (.int (if j < i then j else i))
def max2D : PyData → PyData → Rs PyData := iop fun i j => .ok (.int (if j > i then j else i))
section
variable {c : Pc}
theorem callsem_len : CallSem c (fun xs H Q => ∃ p ys, xs = [.ref p] ∧ (SqL c.K H p ys ∨ SqT c.K H p ys) ∧ Q (.int ys.length) H) lenD (RS c) where
  go := fun G H x a s e da hs Q q => by
    unfold lenD at hs
    split at hs
    · cases hs
      obtain ⟨p, xs, rfl, hx, ax⟩ := db_list e da
      exact ⟨p, xs, rfl, .inl hx, q G H _ (Nx.refl e) (by rw [DpAll.length ax]; exact .int _)⟩
    · cases hs
      obtain ⟨p, xs, rfl, hx, ax⟩ := db_tup da
      exact ⟨p, xs, rfl, .inr (Ex.sqt e hx), q G H _ (Nx.refl e) (by rw [DpAll.length ax]; exact .int _)⟩
    · cases hs
  ne := fun a x h => by unfold lenD at h; split at h <;> cases h
theorem callsem_abs : CallSem c (fun xs H Q => ∃ i, xs = [.int i] ∧ Q (.int (if i < 0 then -i else i)) H) absD (RS c) where
  go := fun G H x a s e da hs Q q => by
    unfold absD at hs
    split at hs
    · cases hs
      exact ⟨_, by rw [db_int da], q G H _ (Nx.refl e) (.int _)⟩
    · cases hs
  ne := fun a x h => by unfold absD at h; split at h <;> cases h
theorem callsem_int : CallSem c (fun xs H Q => (∃ i, xs = [.int i] ∧ Q (.int i) H) ∨ ∃ k, xs = [.bl k] ∧ Q (.int (if k then 1 else 0)) H) int1D (RS c) where
  go := fun G H x a s e da hs Q q => by
    unfold int1D at hs
    split at hs
    · cases hs
      exact .inl ⟨_, by rw [db_int da], q G H _ (Nx.refl e) (.int _)⟩
    · cases hs
      exact .inr ⟨_, by rw [db_bl da], q G H _ (Nx.refl e) (.int _)⟩
    · cases hs
  ne := fun a x h => by unfold int1D at h; split at h <;> cases h
theorem callsem_list : CallSem c (fun xs H Q => ∃ p ys, xs = [.ref p] ∧ (SqL c.K H p ys ∨ SqT c.K H p ys) ∧ ∀ l, H l = none → Q (.ref l) (upd H l (.lst ys))) listD (RV c) where
  go := fun G H x a s e da hs Q q => by
    unfold listD at hs
    split at hs
    · cases hs
      obtain ⟨p, xs, rfl, hx, ax⟩ := db_list e da
      exact ⟨p, xs, rfl, .inl hx, fun l hl => q G _ _ (Nx.hid e hl) ⟨l, xs, rfl, hl, e.back hl, upd_same, ax⟩⟩
    · cases hs
      obtain ⟨p, xs, rfl, hx, ax⟩ := db_tup da
      exact ⟨p, xs, rfl, .inr (Ex.sqt e hx), fun l hl => q G _ _ (Nx.hid e hl) ⟨l, xs, rfl, hl, e.back hl, upd_same, ax⟩⟩
    · cases hs
  ne := fun a x h => by unfold listD at h; split at h <;> cases h
theorem callsem_tuple : CallSem c (fun xs H Q => ∃ p ys, xs = [.ref p] ∧ ((SqL c.K H p ys ∧ ∀ l, H l = none → Q (.ref l) (upd H l (.tup ys))) ∨ (SqT c.K H p ys ∧ Q (.ref p) H))) tupleD (RS c) where
  go := fun G H x a s e da hs Q q => by
    unfold tupleD at hs
    split at hs
    · cases hs
      obtain ⟨p, xs, rfl, hx, ax⟩ := db_list e da
      exact ⟨p, xs, rfl, .inl ⟨hx, fun l hl => q _ _ _ (Nx.new e hl) (.tup upd_same (DpAll.ex (Ex.new (e.back hl)) ax))⟩⟩
    · cases hs
      obtain ⟨p, xs, rfl, hx, ax⟩ := db_tups da
      exact ⟨p, xs, rfl, .inr ⟨Ex.sqt e (tup_sqt hx), q G H _ (Nx.refl e) (.tup hx ax)⟩⟩
    · cases hs
  ne := fun a x h => by unfold tupleD at h; split at h <;> cases h
theorem callsem_min : CallSem2 c (fun xs H Q => ∃ i j, xs = [.int i, .int j] ∧ Q (.int (if j < i then j else i)) H) min2D (RS c) where
  go := fun G H x y a b s e da db hs Q q => by
    obtain ⟨i, j, rfl, rfl, hs⟩ := iop_ok hs
    cases hs
    exact ⟨i, j, by rw [db_int da, db_int db], q G H _ (Nx.refl e) (.int _)⟩
  ne := iop_ne fun _ _ _ h => nomatch h
theorem callsem_max : CallSem2 c (fun xs H Q => ∃ i j, xs = [.int i, .int j] ∧ Q (.int (if j > i then j else i)) H) max2D (RS c) where
  go := fun G H x y a b s e da db hs Q q => by
    obtain ⟨i, j, rfl, rfl, hs⟩ := iop_ok hs
    cases hs
    exact ⟨i, j, by rw [db_int da, db_int db], q G H _ (Nx.refl e) (.int _)⟩
  ne := iop_ne fun _ _ _ h => nomatch h
end
/-- sum of a list of ints -/
def intsOf : List PyData → Rs (List Int)
  | [] => .ok []
  | d :: ds => intOf d >>= fun i => intsOf ds >>= fun is => .ok (i :: is)
def sumD : PyData → Rs PyData
  | .list ds => intsOf ds >>= fun is => .ok (.int is.sum)
  | _ => .stuck
theorem intOf_eq {d : PyData} {i : Int} (h : intOf d = .ok i) : d = .int i := by
  unfold intOf at h
  split at h <;> cases h
  rfl
theorem intsOf_ne : ∀ (ds : List PyData) (x : Exn), intsOf ds ≠ .err x
  | [], x, h => by cases h
  | d :: ds, x, h => by
    cases hd : intOf d with
    | stuck => rw [show intsOf (d :: ds) = (intOf d >>= fun i => intsOf ds >>= fun is => .ok (i :: is)) from rfl, hd] at h; cases h
    | err y => unfold intOf at hd; split at hd <;> cases hd
    | ok i =>
      rw [show intsOf (d :: ds) = (intOf d >>= fun i => intsOf ds >>= fun is => .ok (i :: is)) from rfl, hd] at h
      cases hs : intsOf ds with
      | stuck => rw [ok_bind, hs] at h; cases h
      | err y => exact intsOf_ne ds y hs
      | ok is => rw [ok_bind, hs] at h; cases h
theorem intsOf_eq : ∀ {ds : List PyData} {is : List Int}, intsOf ds = .ok is → ds = is.map .int
  | [], is, h => by cases h; rfl
  | d :: ds, is, h => by
    rw [show intsOf (d :: ds) = (intOf d >>= fun i => intsOf ds >>= fun is => .ok (i :: is)) from rfl] at h
    cases hd : intOf d with
    | stuck => rw [hd] at h; cases h
    | err y => rw [hd] at h; cases h
    | ok i =>
      rw [hd, ok_bind] at h
      cases hs : intsOf ds with
      | stuck => rw [hs] at h; cases h
      | err y => rw [hs] at h; cases h
      | ok js =>
        rw [hs, ok_bind] at h
        cases h
        rw [intOf_eq hd, intsOf_eq hs]
        rfl
theorem dpall_ints {K : PySem.W.Frag} {G : Hp} : ∀ {xs : List V} {is : List Int}, DpAll K G xs (is.map .int) → xs = is.map .int
  | _, [], h => by cases h; rfl
  | _, i :: is, h => by
    cases h with
    | cons h a => rw [Dp.int_v h, dpall_ints a]; rfl
theorem callsem_sum {c : Pc} : CallSem c (rSum c.K) sumD (RS c) where
  go := fun G H x a s e da hs Q q => by
    unfold sumD at hs
    split at hs
    · rename_i ds
      cases hi : intsOf ds with
      | stuck => rw [hi] at hs; cases hs
      | err y => rw [hi] at hs; cases hs
      | ok is =>
        rw [hi, ok_bind] at hs
        cases hs
        obtain ⟨p, xs, rfl, hx, ax⟩ := db_list e da
        rw [intsOf_eq hi] at ax
        rw [dpall_ints ax] at hx
        exact ⟨p, is, rfl, hx, q G H _ (Nx.refl e) (.int _)⟩
    · cases hs
  ne := fun a x h => by
    unfold sumD at h
    split at h
    · rename_i ds
      cases hi : intsOf ds with
      | stuck => rw [hi] at h; cases h
      | err y => exact intsOf_ne ds y hi
      | ok is => rw [hi] at h; cases h
    · cases h
/-! ### the class of a value -/
def tyN : PyData → String
  | .none => "NoneType"
  | .bool _ => "bool"
  | .int _ => "int"
  | .str _ => "str"
  | .list _ => "list"
  | .tuple _ => "tuple"
  | .dict _ => "dict"
theorem db_ty {K : PySem.W.Frag} {G H : Hp} {v : V} {d : PyData} (e : Ex G H) (h : Db K G H v d) : TyX K H v (.type (tyN d)) := by
  have h := db_h e h
  cases h with
  | non => exact .base .non
  | bl b => exact .base (.bl b)
  | int i => exact .base (.int i)
  | str x => exact .base (.str x)
  | lst hx a =>
    rcases hx with (h | ⟨o, h⟩) | ⟨o, its, n, h, hc, _⟩
    · exact .base (.lst h)
    · exact .base (.frz h)
    · exact .kList h hc
  | tup hx a => exact .base (.tup hx)
def isiD (T : String) (d : PyData) : Rs PyData := match kitB (tyN d) T with
  | some b => .ok (.bool b)
  | none => .stuck
theorem kit_int (d : PyData) : isiD "int" d = .ok (.bool (match d with | .int _ => true | .bool _ => true | _ => false)) := by cases d <;> rfl
theorem kit_bool (d : PyData) : isiD "bool" d = .ok (.bool (match d with | .bool _ => true | _ => false)) := by cases d <;> rfl
theorem kit_list (d : PyData) : isiD "list" d = .ok (.bool (match d with | .list _ => true | _ => false)) := by cases d <;> rfl
theorem kit_tuple (d : PyData) : isiD "tuple" d = .ok (.bool (match d with | .tuple _ => true | _ => false)) := by cases d <;> rfl
end PF

namespace PF
open PySem L2

/-! ### statements -/
inductive Out where
  | nx (ρ : Env)
  | rt (s : Sl)
def SemP (c : Pc) (E : XK) (t : TS) (F : Env → Rs Out) : Prop :=
  ∀ (G0 H0 G H : Hp) (ρ : Env) (σ : L2.St), Rep c G H ρ σ → Ent G0 H0 G H ρ σ → F ρ ≠ .stuck → ∀ D : Ends,
    (∀ ρ', F ρ = .ok (.nx ρ') → ∀ G' H' σ', Rep c G' H' ρ' σ' → Ent G0 H0 G' H' ρ' σ' → D.nx σ' H') →
    (∀ s, F ρ = .ok (.rt s) → ∀ G' H' v, Nx G0 H0 G' H' → RV c G0 H0 G' H' v s → D.rt v H') → ErrP c E G0 H0 (F ρ) → t D σ H
structure JP (ca : Nat → Addr) (X : Cx) (E : XK) (st : Stmt) (t : TS) (F : Env → Rs Out) : Prop where
  ps : PS X st t
  sem : SemP ⟨X.K, ca⟩ E t F
structure JPs (ca : Nat → Addr) (X : Cx) (E : XK) (sts : List Stmt) (t : TS) (F : Env → Rs Out) : Prop where
  ps : PSs X sts t
  sem : SemP ⟨X.K, ca⟩ E t F
def after (r : Rs Out) (k : Env → Rs Out) : Rs Out := r >>= fun o => match o with
  | .nx ρ => k ρ
  | .rt s => .ok (.rt s)
theorem after_nx {ρ : Env} {k : Env → Rs Out} : after (.ok (.nx ρ)) k = k ρ := rfl
theorem after_rt {s : Sl} {k : Env → Rs Out} : after (.ok (.rt s)) k = .ok (.rt s) := rfl
/-- a statement, what follows is k -/
theorem SemP.use {c : Pc} {E : XK} {t : TS} {F : Env → Rs Out} (h : SemP c E t F) {k : Env → Rs Out} {G0 H0 G H : Hp} {ρ : Env} {σ : L2.St} (rep : Rep c G H ρ σ) (en : Ent G0 H0 G H ρ σ) (hns : after (F ρ) k ≠ .stuck) {D : Ends}
    (go : ∀ ρ', F ρ = .ok (.nx ρ') → after (F ρ) k = k ρ' → ∀ G' H' σ', Rep c G' H' ρ' σ' → Ent G0 H0 G' H' ρ' σ' → D.nx σ' H')
    (rt : ∀ s, after (F ρ) k = .ok (.rt s) → ∀ G' H' v, Nx G0 H0 G' H' → RV c G0 H0 G' H' v s → D.rt v H') (er : ErrP c E G0 H0 (after (F ρ) k)) : t D σ H := by
  refine h G0 H0 G H ρ σ rep en (fun z => hns (by rw [z]; rfl)) D (fun ρ' e => go ρ' e (by rw [e]; rfl)) (fun s e => rt s (by rw [e]; rfl)) fun x e => er x (by rw [e]; rfl)
def fSeq (F G : Env → Rs Out) : Env → Rs Out := fun ρ => after (F ρ) G
def fSkip : Env → Rs Out := fun ρ => .ok (.nx ρ)
/-- a list of our own is shown from now on -/
def fzSl : Option Sl → Option Sl
  | some (.ol ds) => some (.sh (.list ds))
  | _ => none
def fz1 (i : Nat) (ρ : Env) : Env := match fzSl ρ[i]? with
  | some s => ρ.set i s
  | none => ρ
theorem fz_rep {c : Pc} {G0 H0 G H : Hp} {ρ : Env} {σ : L2.St} (i : Nat) (rep : Rep c G H ρ σ) (en : Ent G0 H0 G H ρ σ) : ∃ G', Rep c G' H (fz1 i ρ) σ ∧ Ent G0 H0 G' H (fz1 i ρ) σ := by
  unfold fz1
  cases hs : ρ[i]? with
  | none => exact ⟨G, rep, en⟩
  | some s =>
    cases s with
    | no => exact ⟨G, rep, en⟩
    | sh d => exact ⟨G, rep, en⟩
    | od kvs => exact ⟨G, rep, en⟩
    | exn x => exact ⟨G, rep, en⟩
    | ol ds =>
      show ∃ G', Rep c G' H (ρ.set i (.sh (.list ds))) σ ∧ Ent G0 H0 G' H (ρ.set i (.sh (.list ds))) σ
      obtain ⟨o, e1, p, xs, rfl, gp, hp, q⟩ := rep.sl i _ hs
      have h0 := en.own i _ p hs rfl e1
      have x : Ex G (upd G p (.lst xs)) := Ex.new gp
      have m : Nx G0 H0 (upd G p (.lst xs)) H := en.nx.show h0 hp gp
      have old : ∀ (j : Nat) u, (ρ.set i (.sh (.list ds)))[j]? = some u → u.own = true → j ≠ i ∧ ρ[j]? = some u := fun j u e hu => by
        rw [List.getElem?_set] at e
        by_cases hij : i = j
        · rw [if_pos hij] at e
          split at e <;> cases e
          cases hu
        · rw [if_neg hij] at e
          exact ⟨fun z => hij z.symm, e⟩
      refine ⟨upd G p (.lst xs), ⟨m.gh, by rw [List.length_set, rep.len], fun j u e => ?_, fun j k u u' r a1 a2 w1 w2 f1 f2 => ?_⟩, ⟨m, fun j u r a w f => ?_⟩⟩
      · rw [List.getElem?_set] at e
        by_cases hij : i = j
        · rw [if_pos hij] at e
          split at e
          · cases e
            rw [← hij]
            exact ⟨_, e1, _, rfl, .lst (.inl (.inl upd_same)) (DpAll.ex x q)⟩
          · cases e
        · rw [if_neg hij] at e
          obtain ⟨o, e2, q2⟩ := rep.sl j u e
          refine ⟨o, e2, ?_⟩
          have ne : ∀ b, o = some (.ref b) → u.own = true → b ≠ p := fun b eb hu z => by
            subst z
            rw [eb] at e2
            exact hij (rep.inj i j _ u b hs e rfl hu e1 e2)
          cases u with
          | no => trivial
          | sh d => obtain ⟨v, z1, z2⟩ := q2; exact ⟨v, z1, Dp.ex x z2⟩
          | ol es => obtain ⟨b, ys, z1, g1, z2, z3⟩ := q2; exact ⟨b, ys, z1, by rw [upd_ne (ne b z1 rfl)]; exact g1, z2, DpAll.ex x z3⟩
          | od es => obtain ⟨b, ys, z1, g1, z2, z3⟩ := q2; exact ⟨b, ys, z1, by rw [upd_ne (ne b z1 rfl)]; exact g1, z2, KvOk.ex x z3⟩
          | exn y => obtain ⟨v, z1, z2⟩ := q2; exact ⟨v, z1, z2.ex x⟩
      · obtain ⟨_, b1⟩ := old j u a1 w1
        obtain ⟨_, b2⟩ := old k u' a2 w2
        exact rep.inj j k u u' r b1 b2 w1 w2 f1 f2
      · obtain ⟨_, b1⟩ := old j u a w
        exact en.own j u r b1 w f
/-- what a context is to be -/
structure CxOk (X : Cx) (E : XK) : Prop where
  calm : X.calm = true
  un : X.A.units + 200 < cLine
  nd : X.N.Nodup
  pas : PassesOwn (model X.prog X.w) X.A X.env X.xe
  call : Passes (L2.CX X.prog X.w) X E
  tk : Takes X (fun cls d _ H => E cls d H)
theorem CxOk.u64 {X : Cx} {E : XK} (o : CxOk X E) : X.A.units + 64 < cLine := by
  have := o.un
  omega
theorem CxOk.u65 {X : Cx} {E : XK} (o : CxOk X E) : X.A.units + 65 < cLine := by
  have := o.un
  omega
section
variable {ca : Nat → Addr} {X : Cx} {E : XK} {st : Stmt} {sts : List Stmt} {t u : TS} {F F' : Env → Rs Out}
theorem jps_fz (i : Nat) (h : JPs ca X E sts t F) : JPs ca X E sts t (fun ρ => F (fz1 i ρ)) :=
  ⟨h.ps, fun G0 H0 G H ρ σ rep en hns D nx rt er => by
    obtain ⟨G', rep', en'⟩ := fz_rep i rep en
    exact h.sem G0 H0 G' H _ σ rep' en' hns D nx rt er⟩
theorem jp_fz (i : Nat) (h : JP ca X E st t F) : JP ca X E st t (fun ρ => F (fz1 i ρ)) :=
  ⟨h.ps, fun G0 H0 G H ρ σ rep en hns D nx rt er => by
    obtain ⟨G', rep', en'⟩ := fz_rep i rep en
    exact h.sem G0 H0 G' H _ σ rep' en' hns D nx rt er⟩
theorem jps_nil : JPs ca X E [] tNext fSkip := ⟨pss_nil, fun G0 H0 G H ρ σ rep en hns D nx rt er => nx ρ rfl G H σ rep en⟩
theorem jps_one (h : JP ca X E st t F) : JPs ca X E [st] t F := ⟨pss_one h.ps, h.sem⟩
theorem jps_cons (h : JP ca X E st t F) (h' : JPs ca X E sts u F') : JPs ca X E (st :: sts) (tSeq t u) (fSeq F F') :=
  ⟨pss_cons h.ps h'.ps, fun G0 H0 G H ρ σ rep en hns D nx rt er => h.sem.use rep en hns (fun ρ' e1 e2 G' H' σ' rep' en' =>
      h'.sem G0 H0 G' H' ρ' σ' rep' en' (by rw [← e2]; exact hns) D (fun ρ2 e3 => nx ρ2 (e2.trans e3)) (fun s e3 => rt s (e2.trans e3)) (by rw [← e2]; exact er)) rt er⟩
theorem jp_pass {pos : Pos} : JP ca X E (.Pass pos) tNext fSkip := ⟨ps_pass, fun G0 H0 G H ρ σ rep en hns D nx rt er => nx ρ rfl G H σ rep en⟩
/-- what can't be met -/
def fNever : Env → Rs Out := fun _ => .stuck
theorem jp_never : JP ca X E st tNever fNever := ⟨ps_never, fun G0 H0 G H ρ σ rep en hns D nx rt er => absurd rfl hns⟩
end
/-! ### assignments, returns, tests -/
def fSet (i : Nat) (F : Env → Rs Sl) : Env → Rs Out := fun ρ => F ρ >>= fun s => .ok (.nx (ρ.set i s))
def fRet (F : Env → Rs Sl) : Env → Rs Out := fun ρ => F ρ >>= fun s => .ok (.rt s)
def slRet : Option Sl → Rs Sl
  | some (.sh d) => .ok (.sh d)
  | some (.ol ds) => .ok (.ol ds)
  | some (.od kvs) => .ok (.od kvs)
  | some (.exn x) => .ok (.exn x)
  | _ => .stuck
def fRetVar (i : Nat) : Env → Rs Out := fun ρ => slRet ρ[i]? >>= fun s => .ok (.rt s)
def fIf (F : Env → Rs Bool) (A B : Env → Rs Out) : Env → Rs Out := fun ρ => F ρ >>= fun b => if b = true then A ρ else B ρ
/-- a slot takes what an expression gave -/
theorem rep_take {c : Pc} {G0 H0 G H G' H' : Hp} {ρ : Env} {σ : L2.St} {v : V} {s : Sl} (i : Nat) (rep : Rep c G H ρ σ) (en : Ent G0 H0 G H ρ σ) (n : Nx G H G' H') (q : RV c G H G' H' v s) :
    Rep c G' H' (ρ.set i s) (σ.set i (some v)) ∧ Ent G0 H0 G' H' (ρ.set i s) (σ.set i (some v)) := by
  have r' := rep.nx n
  have fresh : ∀ p, H p = none → ∀ (j : Nat) u, j ≠ i → ρ[j]? = some u → u.own = true → σ[j]? ≠ some (some (.ref p)) := fun p hp j u _ e hu z => by
    obtain ⟨o, e1, q⟩ := rep.sl j u e
    rw [z] at e1
    cases e1
    cases u with
    | ol ds => obtain ⟨b, xs, z1, _, h1, _⟩ := q; cases z1; rw [hp] at h1; cases h1
    | od ds => obtain ⟨b, xs, z1, _, h1, _⟩ := q; cases z1; rw [hp] at h1; cases h1
    | no => cases hu
    | sh d => cases hu
    | exn x => cases hu
  have ent : ∀ (w : s.own = true → ∀ p, v = .ref p → H0 p = none), Ent G0 H0 G' H' (ρ.set i s) (σ.set i (some v)) := fun w => by
    refine ⟨en.nx.trans n, fun j u p e hu f => ?_⟩
    rw [List.getElem?_set] at e f
    by_cases hij : i = j
    · rw [if_pos hij] at e f
      split at e
      · cases e
        split at f
        · cases f
          exact w hu p rfl
        · cases f
      · cases e
    · rw [if_neg hij] at e f
      exact en.own j u p e hu f
  cases s with
  | no => exact q.elim
  | sh d => exact ⟨r'.set rfl ⟨v, rfl, q⟩, ent fun z => nomatch z⟩
  | ol ds =>
    obtain ⟨p, xs, rfl, h0, g1, h1, q⟩ := q
    exact ⟨r'.setOwn ⟨p, xs, rfl, g1, h1, q⟩ (fresh p h0), ent fun _ b e => by cases e; exact en.nx.h.back h0⟩
  | od ds =>
    obtain ⟨p, xs, rfl, h0, g1, h1, q⟩ := q
    exact ⟨r'.setOwn ⟨p, xs, rfl, g1, h1, q⟩ (fresh p h0), ent fun _ b e => by cases e; exact en.nx.h.back h0⟩
  | exn x => exact ⟨r'.set rfl ⟨v, rfl, q⟩, ent fun z => nomatch z⟩
theorem sem_set {c : Pc} {E : XK} {te : TE} {F : Env → Rs Sl} (i : Nat) (h : SemG c E te F (RV c)) : SemP c E (tAsg te (gName i)) (fSet i F) := by
  intro G0 H0 G H ρ σ rep en hns D nx rt er
  refine h.use rep hns (fun x e G' H' cl dd n => er x e G' H' cl dd (en.nx.trans n)) fun s es e1 G' H' v n _ q hk _ => ?_
  obtain ⟨r2, e2⟩ := rep_take i rep en n q
  exact nx _ e1 G' H' _ r2 e2
section
variable {ca : Nat → Addr} {X : Cx} {E : XK} {e : Expr} {te : TE} {F : Env → Rs Sl} {pos pos' : Pos}
theorem jp_set {i : Nat} {x : Str} (h : JV ca X E e te F) (hN : X.N.Nodup) (hi : X.N[i]? = some x) (hx : Loc X.env.scope x) (hs : swapsWith e (some (.Name x pos')) pos.line X.env = pure false := by rfl)
    (hf : X.fn x = true ∨ X.env.scope.names.lookup x = some .local := by first | exact .inl rfl | exact .inr rfl) : JP ca X E (.Assign [.Name x pos'] e pos) (tAsg te (gName i)) (fSet i F) :=
  ⟨ps_set hN hi hx h.pe hs hf, sem_set i h.sem⟩
theorem jp_ret (h : JV ca X E e te F) : JP ca X E (.Return (some e) pos) (tRet te) (fRet F) :=
  ⟨ps_ret h.pe, fun G0 H0 G H ρ σ rep en hns D nx rt er => h.sem.use rep hns (fun x e G' H' cl dd n => er x e G' H' cl dd (en.nx.trans n)) fun s es e1 G' H' v n _ q hk _ =>
    rt s e1 G' H' v (en.nx.trans n) (RV.mono en.nx q)⟩
theorem jp_retVar (i : Nat) {x : Str} (h : PE X (.Name x pos') (tVar i)) : JP ca X E (.Return (some (.Name x pos')) pos) (tRet (tVar i)) (fRetVar i) := by
  refine ⟨ps_ret h, fun G0 H0 G H ρ σ rep en hns D nx rt er => ?_⟩
  unfold fRetVar at hns rt
  cases hs : ρ[i]? with
  | none => rw [hs] at hns; exact absurd rfl hns
  | some s =>
    rw [hs] at hns rt
    obtain ⟨o, e1, q⟩ := rep.sl i s hs
    cases s with
    | no => exact absurd rfl hns
    | exn x =>
      obtain ⟨v, rfl, q⟩ := q
      exact ⟨v, e1, rt (.exn x) rfl G H v en.nx q⟩
    | sh d =>
      obtain ⟨v, rfl, q⟩ := q
      exact ⟨v, e1, rt (.sh d) rfl G H v en.nx q⟩
    | ol ds =>
      obtain ⟨p, xs, rfl, gp, hp, q⟩ := q
      exact ⟨_, e1, rt (.ol ds) rfl G H _ en.nx ⟨p, xs, rfl, en.own i _ p hs rfl e1, gp, hp, q⟩⟩
    | od ds =>
      obtain ⟨p, xs, rfl, gp, hp, q⟩ := q
      exact ⟨_, e1, rt (.od ds) rfl G H _ en.nx ⟨p, xs, rfl, en.own i _ p hs rfl e1, gp, hp, q⟩⟩
theorem jp_if {c : Expr} {a b : List Stmt} {tc : TT} {ta tb : TS} {Fc : Env → Rs Bool} {Fa Fb : Env → Rs Out} (hc : JT ca X E c tc Fc) (ha : JPs ca X E a ta Fa) (hb : JPs ca X E b tb Fb) : JP ca X E (.If c a b pos) (tIfS tc ta tb) (fIf Fc Fa Fb) :=
  ⟨ps_if hc.pt ha.ps hb.ps, fun G0 H0 G H ρ σ rep en hns D nx rt er => hc.sem.use rep hns (fun x e G' H' cl dd n => er x e G' H' cl dd (en.nx.trans n)) fun s es e1 G' H' v n r q hk _ => by
    cases q
    cases s with
    | true =>
      show ta D σ H'
      exact ha.sem G0 H0 G' H' ρ σ r (en.go n) hk D (fun ρ' e => nx ρ' (e1.trans e)) (fun s e => rt s (e1.trans e)) fun x e => er x (e1.trans e)
    | false =>
      show tb D σ H'
      exact hb.sem G0 H0 G' H' ρ σ r (en.go n) hk D (fun ρ' e => nx ρ' (e1.trans e)) (fun s e => rt s (e1.trans e)) fun x e => er x (e1.trans e)⟩
end
/-! ### a, b = x, y with plain local names -/
def fPar (i j : Nat) (F : Env → Rs (List PyData)) : Env → Rs Out := fun ρ => F ρ >>= fun ds => match ds with
  | [a, b] => .ok (.nx ((ρ.set i (.sh a)).set j (.sh b)))
  | _ => .stuck
section
variable {ca : Nat → Addr} {X : Cx} {E : XK}
theorem jp_par {i j : Nat} {x y : Str} {a b : Expr} {ta : TA} {F : Env → Rs (List PyData)} {px py pt pos : Pos} {kt k2 pt2} (ha : JA ca X E [a, b] ta F) (hc : X.calm = true) (hN : X.N.Nodup) (hi : X.N[i]? = some x) (hj : X.N[j]? = some y) (hij : i ≠ j)
    (hx : X.env.scope.names.lookup x = some .local) (hy : X.env.scope.names.lookup y = some .local)
    (hw : swappedStores [.Tuple [.Name x px, .Name y py] kt pt] (.Tuple [a, b] k2 pt2) X.env = pure (some [x, y]) := by rfl)
    (hs : swapsWithSole [.Tuple [.Name x px, .Name y py] kt pt] (.Tuple [a, b] k2 pt2) pos.line X.env = pure false := by rfl) :
    JP ca X E (.Assign [.Tuple [.Name x px, .Name y py] kt pt] (.Tuple [a, b] k2 pt2) pos) (tPar i j ta) (fPar i j F) :=
  ⟨ps_par hc hN hi hj hij hx hy ha.pa hw hs, fun G0 H0 G H ρ σ rep en hns D nx rt er => ha.sem.use rep hns (fun x e G' H' cl dd n => er x e G' H' cl dd (en.nx.trans n)) fun ds es e1 G' H' vs n r q hk _ => by
    have q : DpAll X.K G' vs ds := q
    match ds, vs, q with
    | [d, e], _, .cons q1 (.cons q2 .nil) =>
      refine ⟨_, _, rfl, ?_⟩
      obtain ⟨r1, n1⟩ := rep_take (s := .sh d) i rep en n q1
      obtain ⟨r2, n2⟩ := rep_take (s := .sh e) j r1 n1 (Nx.refl r1.gh) q2
      exact nx _ e1 G' H' _ r2 n2
    | [], _, _ => exact absurd rfl hk
    | [_], _, _ => exact absurd rfl hk
    | _ :: _ :: _ :: _, _, _ => exact absurd rfl hk⟩
end
/-! ### while -/
def whF (c : Env → Rs Bool) (b : Env → Rs Out) : Nat → Env → Rs Out
  | 0, _ => .stuck
  | n + 1, ρ => c ρ >>= fun k => if k = true then after (b ρ) (whF c b n) else .ok (.nx ρ)
theorem whF_mono {c : Env → Rs Bool} {b : Env → Rs Out} : ∀ (n m : Nat) (ρ : Env), n ≤ m → whF c b n ρ ≠ .stuck → whF c b m ρ = whF c b n ρ
  | 0, _, _, _, h => absurd rfl h
  | n + 1, 0, _, hl, _ => absurd hl (by omega)
  | n + 1, m + 1, ρ, hl, h => by
    unfold whF at h ⊢
    cases hc : c ρ with
    | stuck => rfl
    | err x => rfl
    | ok k =>
      rw [hc, ok_bind] at h
      rw [ok_bind, ok_bind]
      cases k with
      | false => rfl
      | true =>
        rw [if_pos rfl] at h
        rw [if_pos rfl, if_pos rfl]
        cases hb : b ρ with
        | stuck => rfl
        | err x => rfl
        | ok o =>
          cases o with
          | rt s => rfl
          | nx ρ' =>
            rw [hb, after_nx] at h
            rw [after_nx, after_nx]
            exact whF_mono n m ρ' (by omega) h
open Classical in
/-- the whole loop -/
noncomputable def whL (c : Env → Rs Bool) (b : Env → Rs Out) (ρ : Env) : Rs Out := if h : ∃ n, whF c b n ρ ≠ .stuck then whF c b (Classical.choose h) ρ else .stuck
theorem whL_of {c : Env → Rs Bool} {b : Env → Rs Out} {n : Nat} {ρ : Env} {r : Rs Out} (h : whF c b n ρ = r) (hr : r ≠ .stuck) : whL c b ρ = r := by
  have hx : ∃ n, whF c b n ρ ≠ .stuck := ⟨n, by rw [h]; exact hr⟩
  have e : whL c b ρ = whF c b (Classical.choose hx) ρ := dif_pos hx
  have h2 := Classical.choose_spec hx
  rw [e]
  by_cases hl : n ≤ Classical.choose hx
  · rw [whF_mono n _ ρ hl (by rw [h]; exact hr), h]
  · rw [← whF_mono _ n ρ (by omega) h2, h]
theorem whL_ex {c : Env → Rs Bool} {b : Env → Rs Out} {ρ : Env} (h : whL c b ρ ≠ .stuck) : ∃ n, whF c b n ρ = whL c b ρ := by
  by_cases hx : ∃ n, whF c b n ρ ≠ .stuck
  · exact ⟨Classical.choose hx, by unfold whL; rw [dif_pos hx]⟩
  · exact absurd (dif_neg hx) h
/-- one turn of it -/
theorem whL_eq (c : Env → Rs Bool) (b : Env → Rs Out) (ρ : Env) : whL c b ρ = (c ρ >>= fun k => if k = true then after (b ρ) (whL c b) else .ok (.nx ρ)) := by
  cases hc : c ρ with
  | stuck =>
    have : ∀ n, whF c b n ρ = .stuck := fun n => by cases n with
      | zero => rfl
      | succ n => unfold whF; rw [hc]; rfl
    exact dif_neg fun ⟨n, h⟩ => h (this n)
  | err x => exact whL_of (n := 1) (by unfold whF; rw [hc]; rfl) (fun z => nomatch z)
  | ok k =>
    rw [ok_bind]
    cases k with
    | false => exact whL_of (n := 1) (by unfold whF; rw [hc]; rfl) (fun z => nomatch z)
    | true =>
      rw [if_pos rfl]
      have e1 : ∀ n, whF c b (n + 1) ρ = after (b ρ) (whF c b n) := fun n => by
        show (c ρ >>= fun k => if k = true then after (b ρ) (whF c b n) else .ok (.nx ρ)) = _
        rw [hc, ok_bind, if_pos rfl]
      by_cases hx : after (b ρ) (whL c b) = .stuck
      · rw [hx]
        refine dif_neg fun ⟨n, h⟩ => ?_
        cases n with
        | zero => exact h rfl
        | succ n =>
          rw [e1] at h
          cases hb : b ρ with
          | stuck => rw [hb] at h; exact h rfl
          | err x => rw [hb] at hx; cases hx
          | ok o =>
            cases o with
            | rt s => rw [hb] at hx; cases hx
            | nx ρ' =>
              rw [hb, after_nx] at h hx
              rw [whL_of rfl h] at hx
              exact h hx
      · cases hb : b ρ with
        | stuck => rw [hb] at hx; exact absurd rfl hx
        | err x => exact whL_of (n := 1) (by rw [e1, hb]; rfl) (fun z => nomatch z)
        | ok o =>
          cases o with
          | rt s => exact whL_of (n := 1) (by rw [e1, hb]; rfl) (fun z => nomatch z)
          | nx ρ' =>
            rw [hb, after_nx] at hx
            obtain ⟨n, hn⟩ := whL_ex hx
            rw [after_nx]
            exact whL_of (n := n + 1) (by rw [e1, hb, after_nx, hn]) hx
section
variable {ca : Nat → Addr} {X : Cx} {E : XK} {pos : Pos}
theorem jp_while {c : Expr} {body : List Stmt} {tc : TT} {tb : TS} {Fc : Env → Rs Bool} {Fb : Env → Rs Out} (hc : JT ca X E c tc Fc) (hb : JPs ca X E body tb Fb) (hp : PassesOwn (model X.prog X.w) X.A X.env X.xe) : JP ca X E (.While c body [] pos) (tWhile tc tb) (whL Fc Fb) := by
  refine ⟨ps_while hp hc.pt hb.ps, fun G0 H0 G H ρ σ rep en hns D nx rt er => ?_⟩
  obtain ⟨n, hn⟩ := whL_ex hns
  refine ⟨fun m σ' H' => ∃ G' ρ', Rep ⟨X.K, ca⟩ G' H' ρ' σ' ∧ Ent G0 H0 G' H' ρ' σ' ∧ whF Fc Fb m ρ' = whL Fc Fb ρ, ⟨n, G, ρ, rep, en, hn⟩, fun m σ' H' h => ?_⟩
  obtain ⟨G', ρ', rep', en', hm⟩ := h
  cases m with
  | zero => exact absurd hm.symm hns
  | succ m =>
    have e0 : (Fc ρ' >>= fun k => if k = true then after (Fb ρ') (whF Fc Fb m) else .ok (.nx ρ')) = whL Fc Fb ρ := hm
    refine hc.sem.use rep' (by rw [e0]; exact hns) (fun x e G' H' cl dd n => er x (e0 ▸ e) G' H' cl dd (en'.nx.trans n)) fun k hk e1 G1 H1 v n1 r1 q hk1 _ => ?_
    cases q
    cases k with
    | false =>
      show D.nx σ' H1
      exact nx ρ' (e0.symm.trans e1) G1 H1 σ' r1 (en'.go n1)
    | true =>
      show ∃ N : L2.St → Hp → Prop, _
      rw [if_pos rfl] at e1 hk1
      have e2 : after (Fb ρ') (whF Fc Fb m) = whL Fc Fb ρ := e1.symm.trans e0
      refine ⟨fun σ2 H2 => ∃ G2 ρ2, Rep ⟨X.K, ca⟩ G2 H2 ρ2 σ2 ∧ Ent G0 H0 G2 H2 ρ2 σ2 ∧ whF Fc Fb m ρ2 = whL Fc Fb ρ, fun σ2 H2 h => ⟨m, Nat.lt_succ_self m, h⟩, ?_⟩
      exact hb.sem.use r1 (en'.go n1) hk1 (fun ρ2 e3 e4 G2 H2 σ2 rep2 en2 => ⟨G2, ρ2, rep2, en2, e4.symm.trans e2⟩) (fun s e3 => rt s (e2.symm.trans e3)) fun x e => er x (e2.symm.trans e)
end
/-! ### defs -/
def outV : Rs Out → Rs Sl
  | .ok (.nx _) => .ok (.sh .none)
  | .ok (.rt s) => .ok s
  | .err x => .err x
  | .stuck => .stuck
/-- a def's function: its parameters shared, its other names nothing -/
def fnOf (np n : Nat) (F : Env → Rs Out) (ds : List PyData) : Rs Sl := if ds.length = np then outV (F (ds.map Sl.sh ++ List.replicate (n - ds.length) Sl.no)) else .stuck
/-- the promise -/
def spF (c : Pc) (f : List PyData → Rs Sl) (np : Nat) : Sp := fun vs H Q E => ∃ G ds, Ex G H ∧ DpAll c.K G vs ds ∧ ds.length = np ∧ f ds ≠ .stuck ∧
  (∀ s, f ds = .ok s → ∀ G' H' v, Nx G H G' H' → RV c G H G' H' v s → Q v H') ∧ ErrP c E G H (f ds)
theorem start_rep {c : Pc} {G H : Hp} {N : List Str} {vs : List V} {ds : List PyData} (e : Ex G H) (a : DpAll c.K G vs ds) (hl : ds.length ≤ N.length) : Rep c G H (ds.map Sl.sh ++ List.replicate (N.length - ds.length) Sl.no) (L2.start N vs) := by
  have hv := DpAll.length a
  have noown : ∀ (i : Nat) s, (ds.map Sl.sh ++ List.replicate (N.length - ds.length) Sl.no)[i]? = some s → s.own = false := fun i s h => by
    have hm := List.mem_of_getElem? h
    rcases List.mem_append.mp hm with q | q
    · obtain ⟨d, _, rfl⟩ := List.mem_map.mp q
      rfl
    · rw [(List.mem_replicate.mp q).2]
      rfl
  refine ⟨e, ?_, fun i s h => ?_, fun i j s s' p h1 h2 w1 w2 => ?_⟩
  · unfold L2.start
    simp only [List.length_append, List.length_map, List.length_replicate]
    omega
  · unfold L2.start
    by_cases hi : i < ds.length
    · rw [List.getElem?_append_left (by rw [List.length_map]; exact hi), List.getElem?_map] at h
      cases hd : ds[i]? with
      | none => rw [hd] at h; cases h
      | some d =>
        rw [hd] at h
        cases h
        obtain ⟨v, hv, q⟩ := DpAll.getD a hd
        refine ⟨some v, ?_, v, rfl, q⟩
        rw [List.getElem?_append_left (by rw [List.length_map]; omega), List.getElem?_map, hv]
        rfl
    · rw [List.getElem?_append_right (by rw [List.length_map]; omega)] at h
      have hs := List.mem_of_getElem? h
      rw [(List.mem_replicate.mp hs).2]
      have hlt := (List.getElem?_eq_some_iff.mp h).1
      rw [List.length_map, List.length_replicate] at hlt
      refine ⟨none, ?_, trivial⟩
      rw [List.getElem?_append_right (by rw [List.length_map]; omega), List.getElem?_replicate, if_pos (by rw [List.length_map]; omega)]
  · rw [noown i s h1] at w1
    cases w1
theorem fnOf_len {np n : Nat} {F : Env → Rs Out} (ds : List PyData) (h : fnOf np n F ds ≠ .stuck) : ds.length = np := by
  unfold fnOf at h
  split at h
  · assumption
  · exact absurd rfl h
/-- THE RULE for a def -/
theorem fn_ok {P : Program} {w : World} {K : PySem.W.Frag} {mg : Str → Option Value} {base : Heap} {ca : Nat → Addr} {x qual : Str} {st : Stmt} {f : Addr} {fd : FuncData} {N ps : List Str} {k : Nat} (F : Fun K x qual st f fd) (S : FnScope N ps (defScope st)) (FF : Env → Rs Out)
    (hb : ∀ (cdv : Value) (A : Around) (outer : List PySem.Env) (s : Shared) (H : Hp) (E : XK), Room k (A.deeper (PyProof.Rows.envOfC qual (defScope st) s.heap.objs.size f cdv)) →
      CxOk (cxOf (L2.CX P w) P w K mg base N qual (defScope st) f cdv A outer s H E) E →
      ∃ t, JPs ca (cxOf (L2.CX P w) P w K mg base N qual (defScope st) f cdv A outer s H E) E (defBody st) t FF) (hnp : ps.length ≤ N.length := by decide) :
    FnOk P w K mg base (L2.CX P w) (k + 1) f fd ps (spF ⟨K, ca⟩ (fnOf ps.length N.length FF) ps.length) := by
  refine F.okX S (fun vs H Q E h => ?_) (fun cdv A outer s H vs Q E hr h => ?_)
  · obtain ⟨G, ds, _, a, e, _⟩ := h
    rw [DpAll.length a, e]
  · obtain ⟨G, ds, e, a, el, hns, hok, her⟩ := h
    have o : CxOk (cxOf (L2.CX P w) P w K mg base N qual (defScope st) f cdv A outer s H E) E :=
      ⟨rfl, by have := hr.un; show (A.deeper _).units + 200 < cLine; omega, S.nd, passes_of rfl, passes_call (takes_of rfl rfl rfl rfl) fun _ _ _ _ z => z, takes_of rfl rfl rfl rfl⟩
    obtain ⟨t, hps, hsem⟩ := hb cdv A outer s H E hr o
    refine ⟨t, hps, ?_⟩
    have rep : Rep ⟨K, ca⟩ G H (ds.map Sl.sh ++ List.replicate (N.length - ds.length) Sl.no) (L2.start N vs) := start_rep e a (by rw [el]; exact hnp)
    have ent : Ent G H G H (ds.map Sl.sh ++ List.replicate (N.length - ds.length) Sl.no) (L2.start N vs) := ⟨Nx.refl e, fun i s p h1 h2 h3 => by
      have hm := List.mem_of_getElem? h1
      rcases List.mem_append.mp hm with q | q
      · obtain ⟨d, _, rfl⟩ := List.mem_map.mp q
        cases h2
      · rw [(List.mem_replicate.mp q).2] at h2
        cases h2⟩
    have key : ∀ r, FF (ds.map Sl.sh ++ List.replicate (N.length - ds.length) Sl.no) = r → fnOf ps.length N.length FF ds = outV r := fun r z => by unfold fnOf; rw [if_pos el, z]
    refine hsem G H G H _ _ rep ent (fun z => hns (by rw [key _ z]; rfl)) _ (fun ρ' z G' H' σ' r' n' => ?_) (fun s z G' H' v n q => ?_) fun y z => ?_
    · exact hok (.sh .none) (by rw [key _ z]; rfl) G' H' .non n'.nx .non
    · exact hok s (by rw [key _ z]; rfl) G' H' v n q
    · exact her y (by rw [key _ z]; rfl)
/-- f(..) -/
def fCall (f : List PyData → Rs Sl) (F : Env → Rs (List PyData)) : Env → Rs Sl := fun ρ => F ρ >>= f
theorem sem_callF {c : Pc} {E : XK} {f : List PyData → Rs Sl} {np : Nat} {t : TA} {F : Env → Rs (List PyData)} (h : SemG c E t F (RA c)) (hl : ∀ ds, f ds ≠ .stuck → ds.length = np) : SemG c E (tCall (spF c f np) [] E t) (fCall f F) (RV c) := by
  intro G H ρ σ rep hns Q ok er
  refine h.use rep hns er fun ds ed e1 G1 H1 vs n1 r1 q1 h1 er1 => ?_
  show spF c f np (vs ++ []) H1 Q E
  rw [List.append_nil]
  exact ⟨G1, ds, n1.gh, q1, hl ds h1, h1, fun s es G' H' v n q => ok s (e1.trans es) G' H' v (n1.trans n) (RV.mono n1 q), er1⟩
end PF

namespace PF
open PySem L2

/-! ### targets -/
theorem wipe_set {σ : L2.St} {i : Nat} {o : Option V} : ∀ {vs : List Nat}, i ∈ vs → wipe (σ.set i o) vs = wipe σ vs
  | v :: vs, h => by
    show (wipe (σ.set i o) vs).set v none = (wipe σ vs).set v none
    by_cases hi : i ∈ vs
    · rw [wipe_set hi]
    · have e : v = i := by
        rcases List.mem_cons.mp h with q | q
        · exact q.symm
        · exact absurd q hi
      subst e
      have key : ∀ (us : List Nat), v ∉ us → wipe (σ.set v o) us = (wipe σ us).set v o := fun us => by
        induction us with
        | nil => intro _; rfl
        | cons u us ih =>
          intro hu
          have h1 : v ≠ u := fun z => hu (by rw [z]; exact List.mem_cons_self)
          show (wipe (σ.set v o) us).set u none = ((wipe σ us).set u none).set v o
          rw [ih fun z => hu (List.mem_cons_of_mem _ z)]
          exact List.set_comm _ _ h1
      rw [key vs hi, List.set_set]
theorem wipe_idem (σ : L2.St) (vs : List Nat) : wipe (wipe σ vs) vs = wipe σ vs := by
  have key : ∀ us : List Nat, (∀ u ∈ us, u ∈ vs) → wipe (wipe σ us) vs = wipe σ vs := fun us => by
    induction us with
    | nil => intro _; rfl
    | cons u us ih =>
      intro h
      show wipe ((wipe σ us).set u none) vs = wipe σ vs
      rw [wipe_set (h u List.mem_cons_self)]
      exact ih fun z hz => h z (List.mem_cons_of_mem _ hz)
  exact key vs fun _ h => h
/-- what a target binds -/
abbrev Tgt := PyData → Env → Option Env
def SemTG (c : Pc) (g : TG) (T : Tgt) (L : List Nat) : Prop :=
  ∀ (G H : Hp) (ρ : Env) (σ : L2.St) (v : V) (d : PyData) (ρ' : Env), Rep c G H ρ σ → Dp c.K G v d → T d ρ = some ρ' → ∀ Q : L2.St → Hp → Prop,
    (∀ σ', Rep c G H ρ' σ' → (∀ (i : Nat) s, ρ'[i]? = some s → s.own = true → ρ[i]? = some s ∧ σ'[i]? = σ[i]?) → (∀ vs, (∀ i ∈ L, i ∈ vs) → wipe σ' vs = wipe σ vs) → Q σ' H) → g v σ H Q
structure JG (ca : Nat → Addr) (X : Cx) (e : Expr) (g : TG) (T : Tgt) (L : List Nat) : Prop where
  pg : PG X e g
  sem : SemTG ⟨X.K, ca⟩ g T L
abbrev Tgts := List PyData → Env → Option Env
def SemTGs (c : Pc) (g : TGs) (T : Tgts) (L : List Nat) : Prop :=
  ∀ (G H : Hp) (ρ : Env) (σ : L2.St) (vs : List V) (ds : List PyData) (ρ' : Env), Rep c G H ρ σ → DpAll c.K G vs ds → T ds ρ = some ρ' → ∀ Q : L2.St → Hp → Prop,
    (∀ σ', Rep c G H ρ' σ' → (∀ (i : Nat) s, ρ'[i]? = some s → s.own = true → ρ[i]? = some s ∧ σ'[i]? = σ[i]?) → (∀ vs, (∀ i ∈ L, i ∈ vs) → wipe σ' vs = wipe σ vs) → Q σ' H) → g vs σ H Q
structure JGs (ca : Nat → Addr) (X : Cx) (es : List Expr) (g : TGs) (T : Tgts) (L : List Nat) : Prop where
  pgs : PGs X es g
  sem : SemTGs ⟨X.K, ca⟩ g T L
def tgN (i : Nat) : Tgt := fun d ρ => some (ρ.set i (.sh d))
def tgNil : Tgts := fun ds ρ => match ds with
  | [] => some ρ
  | _ => none
def tgCons (T : Tgt) (Ts : Tgts) : Tgts := fun ds ρ => match ds with
  | [] => none
  | d :: ds => (T d ρ).bind (Ts ds)
def tgT (n : Nat) (Ts : Tgts) : Tgt := fun d ρ => match d with
  | .tuple ds => if ds.length = n then Ts ds ρ else none
  | _ => none
def tgL (n : Nat) (Ts : Tgts) : Tgt := fun d ρ => match d with
  | .list ds => if ds.length = n then Ts ds ρ else none
  | _ => none
section
variable {ca : Nat → Addr} {X : Cx} {pos : Pos}
theorem own_set {ρ : Env} {σ : L2.St} {i : Nat} {d : PyData} {o : Option V} : ∀ (j : Nat) s, (ρ.set i (.sh d))[j]? = some s → s.own = true → ρ[j]? = some s ∧ (σ.set i o)[j]? = σ[j]? := fun j s e hs => by
  rw [List.getElem?_set] at e ⊢
  by_cases hij : i = j
  · rw [if_pos hij] at e
    split at e <;> cases e
    cases hs
  · rw [if_neg hij] at e ⊢
    exact ⟨e, rfl⟩
theorem jg_name {i : Nat} {x : Str} (hN : X.N.Nodup) (hi : X.N[i]? = some x) (hx : Loc X.env.scope x) (hf : X.fn x = true ∨ X.env.scope.names.lookup x = some .local := by first | exact .inl rfl | exact .inr rfl) : JG ca X (.Name x pos) (gName i) (tgN i) [i] :=
  ⟨pg_name hN hi hx hf, fun G H ρ σ v d ρ' rep q e Q k => by
    cases e
    exact k _ (rep.set rfl ⟨v, rfl, q⟩) own_set fun vs hv => wipe_set (hv i List.mem_cons_self)⟩
theorem jgs_nil : JGs ca X [] gNil tgNil [] :=
  ⟨pgs_nil, fun G H ρ σ vs ds ρ' rep q e Q k => by
    cases q with
    | nil =>
      cases e
      exact ⟨rfl, k σ rep (fun i s h _ => ⟨h, rfl⟩) fun _ _ => rfl⟩
    | cons _ _ => cases e⟩
theorem jgs_cons {e : Expr} {es : List Expr} {g : TG} {gs : TGs} {T : Tgt} {Ts : Tgts} {L L' : List Nat} (h : JG ca X e g T L) (h' : JGs ca X es gs Ts L')
    (hs : (assignEach (e :: es) X.env).map (·.2) = assign e X.env :: (assignEach es X.env).map (·.2) := by rfl) : JGs ca X (e :: es) (gCons g gs) (tgCons T Ts) (L ++ L') :=
  ⟨pgs_cons h.pg h'.pgs hs, fun G H ρ σ vs ds ρ' rep q e Q k => by
    cases q with
    | nil => cases e
    | @cons v vs d ds q1 q2 =>
      have e : (T d ρ).bind (Ts ds) = some ρ' := e
      cases e1 : T d ρ with
      | none => rw [e1] at e; cases e
      | some ρ1 =>
        rw [e1, Option.bind_some] at e
        refine ⟨v, vs, rfl, h.sem G H ρ σ v d ρ1 rep q1 e1 _ fun σ1 r1 o1 w1 => h'.sem G H ρ1 σ1 vs ds ρ' r1 q2 e Q fun σ2 r2 o2 w2 => k σ2 r2 (fun i s a b => ?_) fun us hu => ?_⟩
        · obtain ⟨a1, b1⟩ := o2 i s a b
          obtain ⟨a2, b2⟩ := o1 i s a1 b
          exact ⟨a2, b1.trans b2⟩
        · rw [w2 us fun i hi => hu i (List.mem_append_right _ hi), w1 us fun i hi => hu i (List.mem_append_left _ hi)]⟩
theorem jg_tup {es : List Expr} {k : Nat} {g : TGs} {n : Nat} {Ts : Tgts} {L : List Nat} (h : JGs ca X es g Ts L) (hc : X.calm = true) (hn : (assignEach es X.env).length = n := by rfl) (hst : (assignEach es X.env).findIdx? (·.1) = none := by rfl) : JG ca X (.Tuple es k pos) (gTup X.K n g) (tgT n Ts) L :=
  ⟨pg_tup hc h.pgs hn hst, fun G H ρ σ v d ρ' rep q e Q k => by
    cases d with
    | tuple ds =>
      have e : (if ds.length = n then Ts ds ρ else none) = some ρ' := e
      split at e
      · rename_i hl
        obtain ⟨a, xs, rfl, hx, ax⟩ := Dp.tuple_v q
        exact ⟨a, xs, rfl, Ex.sqt rep.gh hx, by rw [DpAll.length ax, hl], h.sem G H ρ σ xs ds ρ' rep ax e Q k⟩
      · cases e
    | none => cases e
    | bool b => cases e
    | int b => cases e
    | str b => cases e
    | list b => cases e
    | dict b => cases e⟩
theorem jg_unl {es : List Expr} {k : Nat} {g : TGs} {n : Nat} {Ts : Tgts} {L : List Nat} (h : JGs ca X es g Ts L) (hc : X.calm = true) (hn : (assignEach es X.env).length = n := by rfl) (hst : (assignEach es X.env).findIdx? (·.1) = none := by rfl) : JG ca X (.Tuple es k pos) (gUnl X.K n g) (tgL n Ts) L :=
  ⟨pg_unl hc h.pgs hn hst, fun G H ρ σ v d ρ' rep q e Q k => by
    cases d with
    | list ds =>
      have e : (if ds.length = n then Ts ds ρ else none) = some ρ' := e
      split at e
      · rename_i hl
        obtain ⟨a, xs, rfl, hx, ax⟩ := Dp.list_v q
        exact ⟨a, xs, rfl, Ex.sql rep.gh hx, by rw [DpAll.length ax, hl], h.sem G H ρ σ xs ds ρ' rep ax e Q k⟩
      · cases e
    | none => cases e
    | bool b => cases e
    | int b => cases e
    | str b => cases e
    | tuple b => cases e
    | dict b => cases e⟩
/-- target = e -/
def fAsg (T : Tgt) (F : Env → Rs PyData) : Env → Rs Out := fun ρ => F ρ >>= fun d => match T d ρ with
  | some ρ' => .ok (.nx ρ')
  | none => .stuck
theorem ent_tgt {G0 H0 G H : Hp} {ρ ρ' : Env} {σ σ' : L2.St} (en : Ent G0 H0 G H ρ σ) (o : ∀ (i : Nat) s, ρ'[i]? = some s → s.own = true → ρ[i]? = some s ∧ σ'[i]? = σ[i]?) : Ent G0 H0 G H ρ' σ' :=
  ⟨en.nx, fun i s p e hs f => by
    obtain ⟨a, b⟩ := o i s e hs
    exact en.own i s p a hs (b ▸ f)⟩
theorem jp_asg {E : XK} {tg e : Expr} {te : TE} {g : TG} {F : Env → Rs PyData} {T : Tgt} {L : List Nat} (he : JS ca X E e te F) (hg : JG ca X tg g T L) (hs : swapsWithSole [tg] e pos.line X.env = pure false := by rfl) (hw : swappedStores [tg] e X.env = pure none := by rfl) (h1 : (assignEach [tg] X.env).map (·.2) = [assign tg X.env] := by rfl) :
    JP ca X E (.Assign [tg] e pos) (tAsg te g) (fAsg T F) :=
  ⟨ps_asg he.pe hg.pg hs hw h1, fun G0 H0 G H ρ σ rep en hns D nx rt er => he.sem.use rep hns (fun x e G' H' cl dd n => er x e G' H' cl dd (en.nx.trans n)) fun d ed e1 G' H' v n r q hk _ => by
    cases ht : T d ρ with
    | none => rw [ht] at hk; exact absurd rfl hk
    | some ρ' =>
      rw [ht] at e1
      exact hg.sem G' H' ρ σ v d ρ' r q ht _ fun σ' r' o _ => nx ρ' e1 G' H' σ' r' (ent_tgt (en.go n) o)⟩
end

/-! ### what a loop walks -/
/-- while D holds of the heap the walk gives the data ds; b: D stands as long as the whole heap does, else as long as what is shown does -/
structure WalkD (c : Pc) (b : Bool) (G1 H1 : Hp) (J : It) (ds : List PyData) : Prop where
  ex : ∃ Gd : Hp → Prop, (∀ G H, Ex G1 G → Ex G H → (b = true → Ex H1 H) → Gd H) ∧ (∀ i H, i < ds.length → Gd H → J.go i H) ∧ (∀ H, Gd H → J.stop ds.length H) ∧
    ∀ i G H x H' d, ds[i]? = some d → Gd H → Ex G1 G → Ex G H → J.yld i H x H' → ∃ G', Nx G H G' H' ∧ Dp c.K G' x d
def SemI (c : Pc) (E : XK) (b : Bool) (wi : TI) (F : Env → Rs (List PyData)) : Prop :=
  ∀ (G H : Hp) (ρ : Env) (σ : L2.St), Rep c G H ρ σ → F ρ ≠ .stuck → ∀ R : It → Hp → Prop,
    (∀ ds, F ρ = .ok ds → ∀ G' H' J, Nx G H G' H' → WalkD c b G' H' J ds → R J H') → ErrP c E G H (F ρ) → wi σ H R
structure JI (ca : Nat → Addr) (X : Cx) (E : XK) (b : Bool) (tg iter : Expr) (wi : TI) (F : Env → Rs (List PyData)) : Prop where
  pi : PI X tg iter wi
  sem : SemI ⟨X.K, ca⟩ E b wi F
def itemsL : PyData → Rs (List PyData)
  | .list ds => .ok ds
  | _ => .stuck
def itemsT : PyData → Rs (List PyData)
  | .tuple ds => .ok ds
  | _ => .stuck
def rangeD (lo hi : Int) : List PyData := (List.range (hi - lo).toNat).map fun (i : Nat) => .int (lo + i)
def small62 (i : Int) : Prop := -(2 ^ 62) ≤ i ∧ i < 2 ^ 62
instance (i : Int) : Decidable (small62 i) := by unfold small62; infer_instance
def rng1 : List PyData → Rs (List PyData)
  | [.int j] => if small62 j then .ok (rangeD 0 j) else .stuck
  | _ => .stuck
def rng2 : List PyData → Rs (List PyData)
  | [.int i, .int j] => if small62 i ∧ small62 j then .ok (rangeD i j) else .stuck
  | _ => .stuck
def pairD (a b : PyData) : PyData := .tuple [a, b]
def zipL (xs ys : List PyData) : List PyData := List.zipWith pairD xs ys
/-- zip: two lists, or two tuples -/
def zipD : List PyData → Rs (List PyData)
  | [.list xs, .list ys] => .ok (zipL xs ys)
  | [.tuple xs, .tuple ys] => .ok (zipL xs ys)
  | _ => .stuck
def enumL (xs : List PyData) : List PyData := (xs.zipIdx).map fun p => pairD (.int p.2) p.1
def enumD : List PyData → Rs (List PyData)
  | [.list xs] => .ok (enumL xs)
  | _ => .stuck
def revD : PyData → Rs (List PyData)
  | .list ds => .ok ds.reverse
  | .tuple ds => .ok ds.reverse
  | _ => .stuck
def fIt {α : Type} (f : α → Rs (List PyData)) (F : Env → Rs α) : Env → Rs (List PyData) := fun ρ => F ρ >>= f
theorem walkd_same {c : Pc} {b : Bool} {G1 H1 : Hp} {J : It} {ds : List PyData} {xs : List V} (Gd : Hp → Prop) (Y : Nat → Hp → V → Hp → Prop) (hg : ∀ G H, Ex G1 G → Ex G H → (b = true → Ex H1 H) → Gd H) (a : DpAll c.K G1 xs ds)
    (w : Walk J xs.length Gd Y) (hy : ∀ i H x H', Y i H x H' → H' = H ∧ xs[i]? = some x) : WalkD c b G1 H1 J ds := by
  have hl := DpAll.length a
  refine ⟨Gd, hg, fun i H hi g => w.goes i H (by omega) g, fun H g => by rw [← hl]; exact w.stops H g, fun i G H x H' d hd g x1 x2 hyl => ?_⟩
  have hi : i < xs.length := by rw [hl]; exact (List.getElem?_eq_some_iff.mp hd).1
  obtain ⟨rfl, hx⟩ := hy i H x H' (w.yields i H x H' hi g hyl)
  obtain ⟨d', e1, q⟩ := DpAll.get a hx
  rw [hd] at e1
  cases e1
  exact ⟨G, Nx.refl x2, Dp.ex x1 q⟩
/-- a pair is laid and shown -/
theorem pair_new {c : Pc} {G H H' : Hp} {T : Addr} {x y : V} {a b : PyData} (e : Ex G H) (h : H T = none) (e' : H' = upd H T (.tup [x, y])) (da : Dp c.K G x a) (db : Dp c.K G y b) : ∃ G', Nx G H G' H' ∧ Dp c.K G' (.ref T) (pairD a b) := by
  subst e'
  have x1 : Ex G (upd G T (.tup [x, y])) := Ex.new (e.back h)
  exact ⟨upd G T (.tup [x, y]), Nx.new e h, .tup upd_same (.cons (Dp.ex x1 da) (.cons (Dp.ex x1 db) .nil))⟩
theorem zipL_get {xs ys : List PyData} {i : Nat} {d : PyData} (h : (zipL xs ys)[i]? = some d) : ∃ a b, xs[i]? = some a ∧ ys[i]? = some b ∧ d = pairD a b := by
  unfold zipL at h
  rw [List.getElem?_zipWith] at h
  cases hx : xs[i]? with
  | none => rw [hx] at h; simp at h
  | some a =>
    cases hy : ys[i]? with
    | none => rw [hx, hy] at h; simp at h
    | some b =>
      rw [hx, hy] at h
      simp at h
      exact ⟨a, b, rfl, rfl, h.symm⟩
section
variable {ca : Nat → Addr} {X : Cx} {E : XK} {tg e e2 : Expr} {te : TE} {ta : TA} {F : Env → Rs PyData} {Fs : Env → Rs (List PyData)} {p pos tpos : Pos} {elts : List Expr} {kk : Nat}
/-- over a list that is shown -/
theorem ji_list (h : JS ca X E e te F) : JI ca X E false tg e (iList X.K te) (fIt itemsL F) :=
  ⟨pi_list h.pe, fun G H ρ σ rep hns R ok er => h.sem.use rep hns er fun d ed e1 G' H' v n r q hk _ => by
    cases d with
    | list ds =>
      obtain ⟨a, xs, rfl, hx, ax⟩ := Dp.list_v q
      exact ⟨a, rfl, ⟨xs, Ex.sql n.gh hx⟩, ok ds e1 G' H' _ n (walkd_same _ _ (fun G2 H2 z1 z2 _ => Ex.sql z2 (Ex.sql z1 hx)) ax walk_list fun i H x H' y => y)⟩
    | none => exact absurd rfl hk
    | bool b => exact absurd rfl hk
    | int b => exact absurd rfl hk
    | str b => exact absurd rfl hk
    | tuple b => exact absurd rfl hk
    | dict b => exact absurd rfl hk⟩
/-- over a list that stands still -/
theorem ji_listB (h : JB ca X E e te F) : JI ca X E true tg e (iList X.K te) (fIt itemsL F) :=
  ⟨pi_list h.pe, fun G H ρ σ rep hns R ok er => h.sem.use rep hns er fun d ed e1 G' H' v n r q hk _ => by
    cases d with
    | list ds =>
      obtain ⟨a, xs, rfl, hx, ax⟩ := db_list n.gh q
      exact ⟨a, rfl, ⟨xs, hx⟩, ok ds e1 G' H' _ n (walkd_same _ _ (fun G2 H2 z1 z2 z3 => Ex.sql (z3 rfl) hx) ax walk_list fun i H x H' y => y)⟩
    | none => exact absurd rfl hk
    | bool b => exact absurd rfl hk
    | int b => exact absurd rfl hk
    | str b => exact absurd rfl hk
    | tuple b => exact absurd rfl hk
    | dict b => exact absurd rfl hk⟩
theorem ji_tup {b : Bool} (h : JS ca X E e te F) : JI ca X E b tg e (iTup X.K te) (fIt itemsT F) :=
  ⟨pi_tup h.pe, fun G H ρ σ rep hns R ok er => h.sem.use rep hns er fun d ed e1 G' H' v n r q hk _ => by
    cases d with
    | tuple ds =>
      obtain ⟨a, xs, rfl, hx, ax⟩ := Dp.tuple_v q
      exact ⟨a, rfl, ⟨xs, Ex.sqt n.gh hx⟩, ok ds e1 G' H' _ n (walkd_same _ _ (fun G2 H2 z1 z2 _ => Ex.sqt z2 (Ex.sqt z1 hx)) ax walk_tup fun i H x H' y => y)⟩
    | none => exact absurd rfl hk
    | bool b => exact absurd rfl hk
    | int b => exact absurd rfl hk
    | str b => exact absurd rfl hk
    | list b => exact absurd rfl hk
    | dict b => exact absurd rfl hk⟩
theorem walkd_range {c : Pc} {b : Bool} {G1 H1 : Hp} {lo hi : Int} : WalkD c b G1 H1 (Itr lo (hi - lo).toNat) (rangeD lo hi) := by
  have hl : (rangeD lo hi).length = (hi - lo).toNat := by unfold rangeD; rw [List.length_map, List.length_range]
  refine ⟨fun _ => True, fun _ _ _ _ _ => trivial, fun i H hi' _ => by rw [hl] at hi'; exact hi', fun H _ => by rw [hl]; exact Nat.le_refl _, fun i G H x H' d hd _ x1 x2 hyl => ?_⟩
  obtain ⟨rfl, rfl⟩ := hyl
  unfold rangeD at hd
  rw [List.getElem?_map] at hd
  have hi' : i < (hi - lo).toNat := by rw [← hl]; exact (by
    have := (List.getElem?_eq_some_iff.mp (show (rangeD lo hi)[i]? = some d by unfold rangeD; rw [List.getElem?_map]; exact hd)).1
    exact this)
  rw [List.getElem?_range hi'] at hd
  cases hd
  exact ⟨G, Nx.refl x2, .int _⟩
theorem ji_range1 {a : Expr} {b : Bool} (ha : JA ca X E [a] ta Fs) (hm : X.mg "range" = none) (hg : Gl X "range" := by rfl) (hs : starEach [a] X.env = [(false, eval a X.env)] := by rfl) : JI ca X E b tg (.Call (.Name "range" p) [a] [] pos) (iRng1 ta) (fIt rng1 Fs) :=
  ⟨pi_range1 hg hm ha.pa hs, fun G H ρ σ rep hns R ok er => ha.sem.use rep hns er fun d ed e1 G' H' v n r q hk _ => by
    have q : DpAll X.K G' v d := q
    match d, v, q with
    | [.int j], _, .cons q .nil =>
      by_cases hj : small62 j
      · have e2 : rng1 [.int j] = .ok (rangeD 0 j) := if_pos hj
        refine ⟨j, by rw [Dp.int_v q], hj.1, hj.2, ok _ (e1.trans e2) G' H' _ n ?_⟩
        have := walkd_range (c := ⟨X.K, ca⟩) (b := b) (G1 := G') (H1 := H') (lo := 0) (hi := j)
        rw [Int.sub_zero] at this
        exact this
      · exact absurd (if_neg hj) hk
    | [], _, _ => exact absurd rfl hk
    | [.none], _, _ => exact absurd rfl hk
    | [.bool _], _, _ => exact absurd rfl hk
    | [.str _], _, _ => exact absurd rfl hk
    | [.list _], _, _ => exact absurd rfl hk
    | [.tuple _], _, _ => exact absurd rfl hk
    | [.dict _], _, _ => exact absurd rfl hk
    | a1 :: a2 :: as, _, _ => exact absurd (show rng1 (a1 :: a2 :: as) = .stuck by cases a1 <;> rfl) hk⟩
theorem rng2_ok {ds rs : List PyData} (h : rng2 ds = .ok rs) : ∃ i j, ds = [.int i, .int j] ∧ small62 i ∧ small62 j ∧ rs = rangeD i j := by
  unfold rng2 at h
  split at h
  · split at h
    · rename_i h2
      cases h
      exact ⟨_, _, rfl, h2.1, h2.2, rfl⟩
    · cases h
  · cases h
theorem ji_range2 {a a2 : Expr} {b : Bool} (ha : JA ca X E [a, a2] ta Fs) (hm : X.mg "range" = none) (hg : Gl X "range" := by rfl) (hs : starEach [a, a2] X.env = [(false, eval a X.env), (false, eval a2 X.env)] := by rfl) (hs2 : starEach [a2] X.env = [(false, eval a2 X.env)] := by rfl) :
    JI ca X E b tg (.Call (.Name "range" p) [a, a2] [] pos) (iRng2 ta) (fIt rng2 Fs) :=
  ⟨pi_range2 hg hm ha.pa hs hs2, fun G H ρ σ rep hns R ok er => ha.sem.use rep hns er fun d ed e1 G' H' v n r q hk _ => by
    have q : DpAll X.K G' v d := q
    cases h2 : rng2 d with
    | stuck => exact absurd h2 hk
    | err x => unfold rng2 at h2; split at h2 <;> (try split at h2) <;> cases h2
    | ok rs =>
      obtain ⟨i, j, rfl, hi, hj, rfl⟩ := rng2_ok h2
      match v, q with
      | _, .cons q1 (.cons q2 .nil) => exact ⟨i, j, by rw [Dp.int_v q1, Dp.int_v q2], ⟨hi.1, hi.2, hj.1, hj.2⟩, ok _ (e1.trans h2) G' H' _ n walkd_range⟩⟩
theorem zipD_ok {ds rs : List PyData} (h : zipD ds = .ok rs) : ∃ xs ys, (ds = [.list xs, .list ys] ∨ ds = [.tuple xs, .tuple ys]) ∧ rs = zipL xs ys := by
  unfold zipD at h
  split at h
  · cases h; exact ⟨_, _, .inl rfl, rfl⟩
  · cases h; exact ⟨_, _, .inr rfl, rfl⟩
  · cases h
/-- over zip of two lists or of two tuples, shown -/
theorem ji_zip {b : Bool} (ha : JA ca X E [e, e2] ta Fs) (hm : X.mg "zip" = none) (hg : Gl X "zip" := by rfl) (hs : starEach [e, e2] X.env = (false, eval e X.env) :: starEach [e2] X.env := by rfl) (hpl : (backTo pos (starEach [e2] X.env)).any (·.1) = false := by rfl) :
    JI ca X E b (.Tuple elts kk tpos) (.Call (.Name "zip" p) [e, e2] [] pos) (RZ.iZipA X.K ta) (fIt zipD Fs) :=
  ⟨RZ.pi_zipA hg hm ha.pa hs hpl, fun G H ρ σ rep hns R ok er => ha.sem.use rep hns er fun d ed e1 G' H' v n r q hk _ => by
    have q : DpAll X.K G' v d := q
    cases h2 : zipD d with
    | stuck => exact absurd h2 hk
    | err x => unfold zipD at h2; split at h2 <;> cases h2
    | ok rs =>
      obtain ⟨xs, ys, hd, rfl⟩ := zipD_ok h2
      have hlen : (zipL xs ys).length = min xs.length ys.length := by unfold zipL; exact List.length_zipWith
      rcases hd with rfl | rfl
      · match v, q with
        | _, .cons q1 (.cons q2 .nil) =>
          obtain ⟨a, vs, rfl, ha1, aa⟩ := Dp.list_v q1
          obtain ⟨b2, ws, rfl, hb1, ab⟩ := Dp.list_v q2
          have la := DpAll.length aa
          have lb := DpAll.length ab
          refine ⟨a, b2, vs, ws, rfl, .inl ⟨Ex.sql n.gh ha1, Ex.sql n.gh hb1, ok _ (e1.trans h2) G' H' _ n ⟨fun H => SqL X.K H a vs ∧ SqL X.K H b2 ws, fun G2 H2 z1 z2 _ => ⟨Ex.sql z2 (Ex.sql z1 ha1), Ex.sql z2 (Ex.sql z1 hb1)⟩, ?_, ?_, ?_⟩⟩⟩
          · intro i H hi g
            exact (walk_zip (K := X.K) (a := a) (b := b2) (xs := vs) (ys := ws) rfl).goes i H (by rw [hlen] at hi; omega) g
          · intro H g
            rw [hlen, ← la, ← lb]
            exact (walk_zip (K := X.K) (a := a) (b := b2) (xs := vs) (ys := ws) rfl).stops H g
          · intro i G2 H2 x H3 d hd g z1 z2 hy
            obtain ⟨c1, c2, h1, h2, rfl⟩ := zipL_get hd
            have hi : i < min vs.length ws.length := by
              have a1 := (List.getElem?_eq_some_iff.mp h1).1
              have a2 := (List.getElem?_eq_some_iff.mp h2).1
              omega
            obtain ⟨T, x1, y1, rfl, hT, e3, e4, e5⟩ := (walk_zip (K := X.K) (a := a) (b := b2) (xs := vs) (ys := ws) rfl).yields i H2 x H3 hi g hy
            obtain ⟨d1, f1, g1⟩ := DpAll.get aa e4
            obtain ⟨d2, f2, g2⟩ := DpAll.get ab e5
            rw [h1] at f1
            rw [h2] at f2
            cases f1
            cases f2
            exact pair_new z2 hT e3 (Dp.ex z1 g1) (Dp.ex z1 g2)
      · match v, q with
        | _, .cons q1 (.cons q2 .nil) =>
          obtain ⟨a, vs, rfl, ha1, aa⟩ := Dp.tuple_v q1
          obtain ⟨b2, ws, rfl, hb1, ab⟩ := Dp.tuple_v q2
          have la := DpAll.length aa
          have lb := DpAll.length ab
          refine ⟨a, b2, vs, ws, rfl, .inr ⟨Ex.sqt n.gh ha1, Ex.sqt n.gh hb1, ok _ (e1.trans h2) G' H' _ n ⟨fun H => SqT X.K H a vs ∧ SqT X.K H b2 ws, fun G2 H2 z1 z2 _ => ⟨Ex.sqt z2 (Ex.sqt z1 ha1), Ex.sqt z2 (Ex.sqt z1 hb1)⟩, ?_, ?_, ?_⟩⟩⟩
          · intro i H hi g
            have l1 : i < vs.length := by rw [hlen] at hi; omega
            have l2 : i < ws.length := by rw [hlen] at hi; omega
            exact ⟨vs, ws, vs[i], ws[i], g.1, g.2, List.getElem?_eq_getElem l1, List.getElem?_eq_getElem l2⟩
          · intro H g
            exact ⟨vs, ws, g.1, g.2, by rw [hlen]; omega⟩
          · intro i G2 H2 x H3 d hd g z1 z2 hy
            obtain ⟨c1, c2, h1, h2, rfl⟩ := zipL_get hd
            obtain ⟨T, x1, y1, rfl, hT, e3, e4, e5⟩ := hy
            obtain ⟨d1, f1, g1⟩ := DpAll.get aa (e4 vs g.1)
            obtain ⟨d2, f2, g2⟩ := DpAll.get ab (e5 ws g.2)
            rw [h1] at f1
            rw [h2] at f2
            cases f1
            cases f2
            exact pair_new z2 hT e3 (Dp.ex z1 g1) (Dp.ex z1 g2)⟩
theorem enumD_ok {ds rs : List PyData} (h : enumD ds = .ok rs) : ∃ xs, ds = [.list xs] ∧ rs = enumL xs := by
  unfold enumD at h
  split at h
  · cases h; exact ⟨_, rfl, rfl⟩
  · cases h
theorem enumL_get {xs : List PyData} {i : Nat} {d : PyData} (h : (enumL xs)[i]? = some d) : ∃ a, xs[i]? = some a ∧ d = pairD (.int i) a := by
  unfold enumL at h
  rw [List.getElem?_map, List.getElem?_zipIdx] at h
  cases hx : xs[i]? with
  | none => rw [hx] at h; cases h
  | some a =>
    rw [hx] at h
    simp at h
    exact ⟨a, rfl, h.symm⟩
theorem ji_enum {b : Bool} (ha : JA ca X E [e] ta Fs) (hm : X.mg "enumerate" = none) (hg : Gl X "enumerate" := by rfl) (hs : starEach [e] X.env = [(false, eval e X.env)] := by rfl) :
    JI ca X E b (.Tuple elts kk tpos) (.Call (.Name "enumerate" p) [e] [] pos) (iEnum X.K ta) (fIt enumD Fs) :=
  ⟨pi_enum hg hm ha.pa hs, fun G H ρ σ rep hns R ok er => ha.sem.use rep hns er fun d ed e1 G' H' v n r q hk _ => by
    have q : DpAll X.K G' v d := q
    cases h2 : enumD d with
    | stuck => exact absurd h2 hk
    | err x => unfold enumD at h2; split at h2 <;> cases h2
    | ok rs =>
      obtain ⟨xs, rfl, rfl⟩ := enumD_ok h2
      have hlen : (enumL xs).length = xs.length := by unfold enumL; rw [List.length_map, List.length_zipIdx]
      match v, q with
      | _, .cons q1 .nil =>
        obtain ⟨a, vs, rfl, ha1, aa⟩ := Dp.list_v q1
        have la := DpAll.length aa
        refine ⟨a, vs, rfl, Ex.sql n.gh ha1, ok _ (e1.trans h2) G' H' _ n ⟨fun H => SqL X.K H a vs, fun G2 H2 z1 z2 _ => Ex.sql z2 (Ex.sql z1 ha1), ?_, ?_, ?_⟩⟩
        · intro i H hi g
          exact walk_enum.goes i H (by rw [hlen] at hi; omega) g
        · intro H g
          rw [hlen, ← la]
          exact walk_enum.stops H g
        · intro i G2 H2 x H3 d hd g z1 z2 hy
          obtain ⟨c1, h1, rfl⟩ := enumL_get hd
          have hi : i < vs.length := by rw [la]; exact (List.getElem?_eq_some_iff.mp h1).1
          obtain ⟨T, x1, y1, rfl, hT, e3, e4, e5⟩ := walk_enum.yields i H2 x H3 hi g hy
          obtain ⟨d1, f1, g1⟩ := DpAll.get aa e5
          rw [h1] at f1
          cases f1
          cases e4
          exact pair_new z2 hT e3 (.int _) (Dp.ex z1 g1)⟩
theorem ji_rev {b : Bool} (h : JS ca X E e te F) (hm : X.mg "reversed" = none) (hg : Gl X "reversed" := by rfl) (hs : starEach [e] X.env = (false, eval e X.env) :: starEach [] X.env := by rfl) : JI ca X E b tg (.Call (.Name "reversed" p) [e] [] pos) (RT.iRevA X.K te) (fIt revD F) :=
  ⟨RT.pi_revA hg hm h.pe hs, fun G H ρ σ rep hns R ok er => h.sem.use rep hns er fun d ed e1 G' H' v n r q hk _ => by
    have rev : ∀ {ds : List PyData} {vs : List V} {i : Nat} {x : V} {d : PyData}, DpAll X.K G' vs ds → vs[vs.length - 1 - i]? = some x → ds.reverse[i]? = some d → Dp X.K G' x d := fun {ds vs i x d} a hx hd => by
      have hl := DpAll.length a
      have hi : i < ds.length := by have := (List.getElem?_eq_some_iff.mp hd).1; rwa [List.length_reverse] at this
      rw [List.getElem?_reverse hi, ← hl] at hd
      obtain ⟨d', e1, q⟩ := DpAll.get a hx
      rw [hd] at e1
      cases e1
      exact q
    cases d with
    | list ds =>
      obtain ⟨a, xs, rfl, hx, ax⟩ := Dp.list_v q
      have la := DpAll.length ax
      refine ⟨a, xs, rfl, .inl ⟨Ex.sql n.gh hx, ok _ e1 G' H' _ n ⟨fun H => SqL X.K H a xs, fun G2 H2 z1 z2 _ => Ex.sql z2 (Ex.sql z1 hx), ?_, ?_, ?_⟩⟩⟩
      · intro i H hi g
        exact walk_rev.goes i H (by rw [List.length_reverse] at hi; omega) g
      · intro H g
        rw [List.length_reverse, ← la]
        exact walk_rev.stops H g
      · intro i G2 H2 x H3 d hd g z1 z2 hy
        have hi : i < xs.length := by rw [la]; have := (List.getElem?_eq_some_iff.mp hd).1; rwa [List.length_reverse] at this
        obtain ⟨rfl, e3⟩ := walk_rev.yields i H2 x H3 hi g hy
        exact ⟨G2, Nx.refl z2, Dp.ex z1 (rev ax e3 hd)⟩
    | tuple ds =>
      obtain ⟨a, xs, rfl, hx, ax⟩ := Dp.tuple_v q
      have la := DpAll.length ax
      refine ⟨a, xs, rfl, .inr ⟨Ex.sqt n.gh hx, ok _ e1 G' H' _ n ⟨fun H => SqT X.K H a xs, fun G2 H2 z1 z2 _ => Ex.sqt z2 (Ex.sqt z1 hx), ?_, ?_, ?_⟩⟩⟩
      · intro i H hi g
        have hi : i < xs.length := by rw [List.length_reverse] at hi; omega
        exact ⟨hi, xs, xs[xs.length - 1 - i], g, List.getElem?_eq_getElem (by omega)⟩
      · intro H g
        show xs.length ≤ ds.reverse.length
        rw [List.length_reverse, la]
        exact Nat.le_refl _
      · intro i G2 H2 x H3 d hd g z1 z2 hy
        obtain ⟨rfl, e3⟩ := hy
        exact ⟨G2, Nx.refl z2, Dp.ex z1 (rev ax (e3 xs g) hd)⟩
    | none => exact absurd rfl hk
    | bool b => exact absurd rfl hk
    | int b => exact absurd rfl hk
    | str b => exact absurd rfl hk
    | dict b => exact absurd rfl hk⟩
end
/-! ### for -/
/-- H0 with all that is shown now -/
def ovl (H0 G : Hp) : Hp := fun a => match G a with
  | some o => some o
  | none => H0 a
theorem ovl_some {H0 G : Hp} {a : Addr} {o : HO} (h : G a = some o) : ovl H0 G a = some o := by unfold ovl; rw [h]
theorem ovl_none {H0 G : Hp} {a : Addr} (h : G a = none) : ovl H0 G a = H0 a := by unfold ovl; rw [h]
theorem ovl_ex {G0 H0 G H : Hp} (n : Nx G0 H0 G H) : Ex H0 (ovl H0 G) := fun a o h => by
  cases hg : G a with
  | none => rw [ovl_none hg]; exact h
  | some u =>
    rw [ovl_some hg]
    have h1 := n.gh a u hg
    rw [n.h a o h] at h1
    exact h1.symm
theorem nx_up {G0 H0 G H G2 H2 : Hp} (n : Nx G0 H0 G H) (n2 : Nx G0 H0 G2 H2) (x : Ex G G2) : Nx G (ovl H0 G) G2 H2 := by
  refine ⟨x, fun a o h => ?_, n2.gh, fun a h g => ?_⟩
  · cases hg : G a with
    | none => rw [ovl_none hg] at h; exact n2.h a o h
    | some u => rw [ovl_some hg] at h; cases h; exact n2.gh a _ (x a _ hg)
  · rw [ovl_none g] at h
    exact n2.fr a h (n.g.back g)
theorem nx_down {G0 H0 G H G3 H3 : Hp} (n : Nx G0 H0 G H) (m : Nx G (ovl H0 G) G3 H3) : Nx G0 H0 G3 H3 := by
  refine ⟨n.g.trans m.g, (ovl_ex n).trans m.h, m.gh, fun a h g => ?_⟩
  rcases n.fr a h g with q | ⟨xs, q⟩
  · exact m.fr a (by rw [ovl_none q]; exact h) q
  · exact .inr ⟨xs, m.g a _ q⟩
theorem ent_up {G0 H0 G H G2 H2 : Hp} {ρ : Env} {σ : L2.St} (c : Pc) (n : Nx G0 H0 G H) (x : Ex G G2) (r : Rep c G2 H2 ρ σ) (e : Ent G0 H0 G2 H2 ρ σ) : Ent G (ovl H0 G) G2 H2 ρ σ :=
  ⟨nx_up n e.nx x, fun i s p h1 h2 h3 => by
    have g : G2 p = none := by
      obtain ⟨o, e1, q⟩ := r.sl i s h1
      rw [h3] at e1
      cases e1
      cases s with
      | ol ds => obtain ⟨b, xs, z, g, _⟩ := q; cases z; exact g
      | od ds => obtain ⟨b, xs, z, g, _⟩ := q; cases z; exact g
      | no => cases h2
      | sh d => cases h2
      | exn x => cases h2
    rw [ovl_none (x.back g)]
    exact e.own i s p h1 h2 h3⟩
theorem ent_down {G0 H0 G H G3 H3 : Hp} {ρ : Env} {σ : L2.St} (n : Nx G0 H0 G H) (e : Ent G (ovl H0 G) G3 H3 ρ σ) : Ent G0 H0 G3 H3 ρ σ :=
  ⟨nx_down n e.nx, fun i s p h1 h2 h3 => (ovl_ex n).back (e.own i s p h1 h2 h3)⟩
theorem rv_down {c : Pc} {G0 H0 G H G3 H3 : Hp} {v : V} {s : Sl} (n : Nx G0 H0 G H) (h : RV c G (ovl H0 G) G3 H3 v s) : RV c G0 H0 G3 H3 v s := by
  cases s with
  | no => exact h
  | sh d => exact h
  | ol ds => obtain ⟨p, xs, e, h1, q⟩ := h; exact ⟨p, xs, e, (ovl_ex n).back h1, q⟩
  | od ds => obtain ⟨p, xs, e, h1, q⟩ := h; exact ⟨p, xs, e, (ovl_ex n).back h1, q⟩
  | exn x => exact h
def forF (T : Tgt) (B : Env → Rs Out) : List PyData → Env → Rs Out
  | [], ρ => .ok (.nx ρ)
  | d :: ds, ρ => match T d ρ with
    | some ρ' => after (B ρ') (forF T B ds)
    | none => .stuck
def fFor (F : Env → Rs (List PyData)) (T : Tgt) (B : Env → Rs Out) : Env → Rs Out := fun ρ => F ρ >>= fun ds => forF T B ds ρ
section
variable {ca : Nat → Addr} {X : Cx} {E : XK} {pos : Pos}
theorem jp_for {tg iter : Expr} {body : List Stmt} {wi : TI} {g : TG} {tb : TS} {F : Env → Rs (List PyData)} {T : Tgt} {L : List Nat} {B : Env → Rs Out} (hi : JI ca X E false tg iter wi F) (hg : JG ca X tg g T L) (hb : JPs ca X E body tb B)
    (hp : PassesOwn (model X.prog X.w) X.A X.env X.xe) (hc : X.calm = true) (hs : ∀ x, foldedSetIterable iter X.env x = pure x := by intro _; rfl) : JP ca X E (.For tg iter body [] pos) (tFor wi g tb) (fFor F T B) := by
  refine ⟨ps_for hp hc hi.pi hg.pg hb.ps hs, fun G0 H0 G H ρ σ rep en hns D nx rt er => ?_⟩
  refine hi.sem G H ρ σ rep (fun z => hns (by unfold fFor; rw [z]; rfl)) _ (fun ds ed G' H' J n wd => ?_) fun x e G' H' cl dd n => er x (by unfold fFor; rw [e]; rfl) G' H' cl dd (en.nx.trans n)
  have e0 : fFor F T B ρ = forF T B ds ρ := by unfold fFor; rw [ed]; rfl
  have n0 : Nx G0 H0 G' H' := en.nx.trans n
  obtain ⟨Gd, hgd, goes, stops, ylds⟩ := wd.ex
  refine ⟨fun i m σ1 H1 => m = ds.length - i ∧ i ≤ ds.length ∧ ∃ G1 ρ1, Rep ⟨X.K, ca⟩ G1 H1 ρ1 σ1 ∧ Ent G' (ovl H0 G') G1 H1 ρ1 σ1 ∧ forF T B (ds.drop i) ρ1 = fFor F T B ρ,
    ⟨ds.length, rfl, Nat.zero_le _, G', ρ, rep.nx n, ent_up ⟨X.K, ca⟩ n0 (Ex.refl _) (rep.nx n) (en.go n), e0.symm⟩, fun i m σ1 H1 h => ?_⟩
  obtain ⟨rfl, hil, G1, ρ1, rep1, en1, hf⟩ := h
  have gd := hgd G1 H1 en1.nx.g rep1.gh (fun z => nomatch z)
  by_cases hlt : i < ds.length
  · refine .inr ⟨goes i H1 hlt gd, ?_⟩
    have hd : ds[i]? = some ds[i] := List.getElem?_eq_getElem hlt
    rw [List.drop_eq_getElem_cons hlt] at hf
    unfold forF at hf
    cases ht : T ds[i] ρ1 with
    | none => rw [ht] at hf; exact absurd hf.symm hns
    | some ρ2 =>
      rw [ht] at hf
      have hf : after (B ρ2) (forF T B (ds.drop (i + 1))) = fFor F T B ρ := hf
      refine ⟨fun σ2 H2 => ∃ G2 ρ3, Rep ⟨X.K, ca⟩ G2 H2 ρ3 σ2 ∧ Ent G' (ovl H0 G') G2 H2 ρ3 σ2 ∧ forF T B (ds.drop (i + 1)) ρ3 = fFor F T B ρ, fun σ2 H2 ⟨G2, ρ3, a1, a2, a4⟩ => ⟨ds.length - (i + 1), by omega, rfl, hlt, G2, ρ3, a1, a2, a4⟩, fun x H2 hy => ?_⟩
      obtain ⟨G2, n2, q2⟩ := ylds i G1 H1 x H2 _ hd gd en1.nx.g rep1.gh hy
      have r2 := rep1.nx n2
      refine hg.sem G2 H2 ρ1 σ1 x _ ρ2 r2 q2 ht _ fun σ2 r3 o _ => ?_
      have en2 : Ent G' (ovl H0 G') G2 H2 ρ2 σ2 := ent_tgt (en1.go n2) o
      exact hb.sem.use (k := forF T B (ds.drop (i + 1))) r3 en2 (by rw [hf]; exact hns) (fun ρ' e3 e4 G3 H3 σ3 r4 en3 => ⟨G3, ρ', r4, en3, e4.symm.trans hf⟩) (fun s e3 G3 H3 v n3 q3 => rt s (hf.symm.trans e3) G3 H3 v (nx_down n0 n3) (rv_down n0 q3))
        fun x e G3 H3 cl dd n3 => er x (hf.symm.trans e) G3 H3 cl dd (nx_down n0 n3)
  · have hi2 : i = ds.length := by omega
    subst hi2
    rw [List.drop_length] at hf
    exact .inl ⟨stops H1 gd, nx ρ1 hf.symm G1 H1 σ1 rep1 (ent_down n0 en1)⟩
end
/-! ### comprehensions -/
def wipeE (ρ : Env) : List Nat → Env
  | [] => ρ
  | v :: vs => (wipeE ρ vs).set v .no
theorem wipe_rep {c : Pc} {G H : Hp} {ρ : Env} {σ : L2.St} (r : Rep c G H ρ σ) : ∀ vs : List Nat, Rep c G H (wipeE ρ vs) (wipe σ vs)
  | [] => r
  | v :: vs => (wipe_rep r vs).set rfl trivial
/-- the items kept -/
def lcF (T : Tgt) (C : Env → Rs Bool) (F : Env → Rs PyData) (ρ0 : Env) : List PyData → List PyData → Rs (List PyData)
  | [], acc => .ok acc
  | d :: ds, acc => match T d ρ0 with
    | some ρ => C ρ >>= fun b => if b = true then F ρ >>= fun y => (if acc.length < lim then lcF T C F ρ0 ds (acc ++ [y]) else .stuck) else lcF T C F ρ0 ds acc
    | none => .stuck
def fLc (S : Env → Rs (List PyData)) (T : Tgt) (C : Env → Rs Bool) (F : Env → Rs PyData) (vs : List Nat) : Env → Rs Sl := fun ρ => S ρ >>= fun ds => lcF T C F (wipeE ρ vs) ds [] >>= fun r => .ok (.ol r)
def fYes : Env → Rs Bool := fun _ => .ok true
/-- the tests of a clause -/
structure JC (ca : Nat → Addr) (X : Cx) (E : XK) (ifs : List Expr) (t : TT) (F : Env → Rs Bool) : Prop where
  pts : PTs X ifs t
  sem : SemG ⟨X.K, ca⟩ E t F RT
theorem jc_nil {ca : Nat → Addr} {X : Cx} {E : XK} : JC ca X E [] tYes fYes := ⟨pts_nil, fun G H ρ σ rep hns Q ok er => ok true rfl G H true (Nx.refl rep.gh) rfl⟩
theorem jc_one {ca : Nat → Addr} {X : Cx} {E : XK} {c : Expr} {t : TT} {F : Env → Rs Bool} (h : JT ca X E c t F) : JC ca X E [c] t F := ⟨pts_one h.pt, h.sem⟩
theorem lc_sem {c : Pc} {E : XK} {wi : TI} {g : TG} {tt : TT} {te : TE} {S : Env → Rs (List PyData)} {T : Tgt} {L vs : List Nat} {C : Env → Rs Bool} {F : Env → Rs PyData} (hi : SemI c E true wi S) (hg : SemTG c g T L) (ht : SemG c E0 tt C RT) (he : SemG c E0 te F (RS c))
    (hL : ∀ i ∈ L, i ∈ vs) : ∀ (G H : Hp) (ρ : Env) (σ : L2.St), Rep c G H ρ σ → (∃ r, fLc S T C F vs ρ = .ok r) → ∀ Q : VK, (∀ a, fLc S T C F vs ρ = .ok a → ∀ G' H' v, Nx G H G' H' → RV c G H G' H' v a → Q v H') → tLc wi g tt te vs σ H Q := by
  intro G H ρ σ rep hr Q ok
  obtain ⟨r, hr⟩ := hr
  cases hS : S ρ with
  | stuck => unfold fLc at hr; rw [hS] at hr; cases hr
  | err x => unfold fLc at hr; rw [hS] at hr; cases hr
  | ok ds0 =>
  refine hi G H ρ σ rep (by rw [hS]; exact fun z => nomatch z) _ (fun ds ed G' H' J n wd => ?_) fun x e => by rw [hS] at e; cases e
  rw [hS] at ed
  cases ed
  cases hl : lcF T C F (wipeE ρ vs) ds0 [] with
  | stuck => unfold fLc at hr; rw [hS, ok_bind, hl] at hr; cases hr
  | err x => unfold fLc at hr; rw [hS, ok_bind, hl] at hr; cases hr
  | ok res =>
  have e0 : fLc S T C F vs ρ = .ok (.ol res) := by unfold fLc; rw [hS, ok_bind, hl]; rfl
  obtain ⟨Gd, hgd, goes, stops, ylds⟩ := wd.ex
  intro Dl hD
  have gD : G' Dl = none := n.gh.back hD
  refine ⟨fun i m H1 => m = ds0.length - i ∧ i ≤ ds0.length ∧ ∃ G1 acc xs, Nx G' (upd H' Dl (.lst [])) G1 (upd H1 Dl (.lst [])) ∧ Ex G1 H1 ∧ H1 Dl = some (.lst xs) ∧ DpAll c.K G1 xs acc ∧ lcF T C F (wipeE ρ vs) (ds0.drop i) acc = .ok res,
    ⟨ds0.length, rfl, Nat.zero_le _, G', [], [], ?_, ?_, upd_same, .nil, hl⟩, fun i m H1 h => ?_⟩
  · rw [upd_upd]
    exact Nx.refl (n.gh.trans (Ex.new hD))
  · exact n.gh.trans (Ex.new hD)
  obtain ⟨rfl, hil, G1, acc, xs, n1, x1, hx, ax, hf⟩ := h
  have g1D : G1 Dl = none := by
    rcases n1.fr Dl (by rw [upd_same]; exact fun z => nomatch z) gD with q | ⟨ys, q⟩
    · exact q
    · have := n1.gh Dl _ q
      rw [upd_same] at this
      cases this
  have old : ∀ a o, H' a = some o → H1 a = some o := fun a o h => by
    have hne : a ≠ Dl := ne_of_none h hD
    have := n1.h a o (by rw [upd_ne hne]; exact h)
    rwa [upd_ne hne] at this
  have nx1 : Nx G H G1 H1 := by
    refine ⟨n.g.trans n1.g, n.h.trans old, x1, fun a h g => ?_⟩
    rcases n.fr a h g with q | ⟨ys, q⟩
    · refine n1.fr a ?_ q
      have hne : a ≠ Dl := fun z => by
        subst z
        exact h (n.h.back hD)
      rw [upd_ne hne]
      cases hh : H a with
      | none => exact absurd hh h
      | some o => rw [n.h a o hh]; exact fun z => nomatch z
    · exact .inr ⟨ys, n1.g a _ q⟩
  have gd := hgd G1 H1 n1.g x1 fun _ => old
  by_cases hlt : i < ds0.length
  · refine .inr ⟨goes i H1 hlt gd, ?_⟩
    have hd : ds0[i]? = some ds0[i] := List.getElem?_eq_getElem hlt
    rw [List.drop_eq_getElem_cons hlt] at hf
    unfold lcF at hf
    cases htg : T ds0[i] (wipeE ρ vs) with
    | none => rw [htg] at hf; cases hf
    | some ρ2 =>
      rw [htg] at hf
      have hf : (C ρ2 >>= fun b => if b = true then F ρ2 >>= fun y => (if acc.length < lim then lcF T C F (wipeE ρ vs) (ds0.drop (i + 1)) (acc ++ [y]) else .stuck) else lcF T C F (wipeE ρ vs) (ds0.drop (i + 1)) acc) = .ok res := hf
      refine ⟨fun H2 => ∃ G1 acc xs, Nx G' (upd H' Dl (.lst [])) G1 (upd H2 Dl (.lst [])) ∧ Ex G1 H2 ∧ H2 Dl = some (.lst xs) ∧ DpAll c.K G1 xs acc ∧ lcF T C F (wipeE ρ vs) (ds0.drop (i + 1)) acc = .ok res,
        fun H2 ⟨G2, acc2, xs2, a1, a2, a3, a4, a5⟩ => ⟨ds0.length - (i + 1), by omega, rfl, hlt, G2, acc2, xs2, a1, a2, a3, a4, a5⟩, fun x H2 hy => ?_⟩
      obtain ⟨G2, n2, q2⟩ := ylds i G1 H1 x H2 _ hd gd n1.g x1 hy
      have r2 : Rep c G2 H2 (wipeE ρ vs) (wipe σ vs) := wipe_rep (rep.nx (nx1.trans n2)) vs
      refine hg G2 H2 _ _ x _ ρ2 r2 q2 htg _ fun σ2 r3 o w3 => ⟨?_, ?_⟩
      · rw [w3 vs hL, wipe_idem]
      -- behind a step that leaves what stands
      have step : ∀ G3 H3, Nx G1 H1 G3 H3 → ∀ H4, (∀ a, a ≠ Dl → H4 a = H3 a) → H4 Dl = H4 Dl → Ex G3 H4 → Nx G' (upd H' Dl (.lst [])) G3 (upd H4 Dl (.lst [])) := fun G3 H3 m H4 e4 _ x4 => by
        have g3D : G3 Dl = none := by
          rcases m.fr Dl (by rw [hx]; exact fun z => nomatch z) g1D with q | ⟨ys, q⟩
          · exact q
          · have h1 := m.gh Dl _ q
            rw [m.h Dl _ hx] at h1
            cases h1
        refine ⟨n1.g.trans m.g, fun a u h => ?_, fun a u h => ?_, fun a h g => ?_⟩
        · by_cases ha : a = Dl
          · subst ha
            rw [upd_same] at h ⊢
            exact h
          · rw [upd_ne ha] at h ⊢
            rw [e4 a ha]
            exact m.h a u (old a u h)
        · have ha : a ≠ Dl := ne_of_none h g3D
          rw [upd_ne ha]
          exact x4 a u h
        · rcases n1.fr a h g with q | ⟨ys, q⟩
          · by_cases ha : a = Dl
            · rw [ha]; exact .inl g3D
            · refine m.fr a ?_ q
              rw [upd_ne ha] at h
              cases hh : H' a with
              | none => exact absurd hh h
              | some o => rw [old a o hh]; exact fun z => nomatch z
          · exact .inr ⟨ys, m.g a _ q⟩
      have c0 : C ρ2 ≠ .stuck := fun z => by rw [z] at hf; cases hf
      refine ht G2 H2 ρ2 σ2 r3 c0 _ (fun b hb G3 H3 b' n3 eb => ?_) fun y e => by rw [e] at hf; cases hf
      cases eb
      rw [hb, ok_bind] at hf
      have m3 := n2.trans n3
      cases b with
      | false =>
        show ∃ G1 acc xs, _
        exact ⟨G3, acc, xs, step G3 H3 m3 H3 (fun _ _ => rfl) rfl n3.gh, n3.gh, m3.h Dl _ hx, DpAll.ex m3.g ax, hf⟩
      | true =>
        rw [if_pos rfl] at hf
        have f0 : F ρ2 ≠ .stuck := fun z => by rw [z] at hf; cases hf
        refine he G3 H3 ρ2 σ2 (r3.nx n3) f0 _ (fun y hy2 G4 H4 v n4 q4 => ?_) fun y e => by rw [e] at hf; cases hf
        rw [hy2, ok_bind] at hf
        have m4 := m3.trans n4
        have hx4 := m4.h Dl _ hx
        by_cases hlen : acc.length < lim
        · rw [if_pos hlen] at hf
          have g4D : G4 Dl = none := by
            rcases m4.fr Dl (by rw [hx]; exact fun z => nomatch z) g1D with q | ⟨ys, q⟩
            · exact q
            · have h1 := m4.gh Dl _ q
              rw [hx4] at h1
              cases h1
          have x4 : Ex G4 (upd H4 Dl (.lst (xs ++ [v]))) := fun a u h => by
            rw [upd_ne (ne_of_none h g4D)]
            exact n4.gh a u h
          refine ⟨xs, hx4, lim_lt (by rw [DpAll.length ax]; exact hlen), G4, acc ++ [y], xs ++ [v], ?_, x4, upd_same, DpAll.append (DpAll.ex m4.g ax) (.cons q4 .nil), hf⟩
          exact step G4 H4 m4 _ (fun a ha => upd_ne ha) rfl x4
        · rw [if_neg hlen] at hf
          cases hf
  · have hi2 : i = ds0.length := by omega
    subst hi2
    rw [List.drop_length] at hf
    cases hf
    refine .inl ⟨stops H1 gd, ok _ e0 G1 H1 _ nx1 ⟨Dl, xs, rfl, n.h.back hD, g1D, hx, ax⟩⟩
/-- errors don't leave a comprehension here -/
def fLcS (S : Env → Rs (List PyData)) (T : Tgt) (C : Env → Rs Bool) (F : Env → Rs PyData) (vs : List Nat) : Env → Rs Sl := fun ρ => match fLc S T C F vs ρ with
  | .ok r => .ok r
  | _ => .stuck
section
variable {ca : Nat → Addr} {X : Cx} {E : XK}
theorem sem_lc {c : Pc} {wi : TI} {g : TG} {tt : TT} {te : TE} {S : Env → Rs (List PyData)} {T : Tgt} {L vs : List Nat} {C : Env → Rs Bool} {F : Env → Rs PyData} (hi : SemI c E true wi S) (hg : SemTG c g T L) (ht : SemG c E0 tt C RT) (he : SemG c E0 te F (RS c))
    (hL : ∀ i ∈ L, i ∈ vs) : SemG c E (tLc wi g tt te vs) (fLcS S T C F vs) (RV c) := by
  intro G H ρ σ rep hns Q ok er
  unfold fLcS at hns ok
  cases hr : fLc S T C F vs ρ with
  | stuck => rw [hr] at hns; exact absurd rfl hns
  | err x => rw [hr] at hns; exact absurd rfl hns
  | ok r =>
    refine lc_sem hi hg ht he hL G H ρ σ rep ⟨r, hr⟩ Q fun a e => ok a (by rw [hr] at e ⊢; exact e)
theorem jv_lc {elt tg iter : Expr} {ifs : List Expr} {scope : Scope} {own : List (Str × Nat)} {pos : Pos} {wi : TI} {g : Shared → Hp → Addr → List (Str × Addr) → List Addr → TG} {tt : Shared → Hp → Addr → List (Str × Addr) → List Addr → TT} {te : Shared → Hp → Addr → List (Str × Addr) → List Addr → TE} {S : Env → Rs (List PyData)} {T : Tgt} {L : List Nat} {C : Env → Rs Bool} {F : Env → Rs PyData} (hc : X.calm = true) (hN : X.N.Nodup) (hi : JI ca X E true tg iter wi S) (ok : BlkOk X.N X.env.scope scope own)
    (hg : ∀ (s : Shared) (H : Hp) (D : Addr) (cl : List (Str × Addr)) (fp : List Addr), JG ca (X.blk s H scope (compEnvC scope cl D X.env) fp) tg (g s H D cl fp) T L) (ht : ∀ (s : Shared) (H : Hp) (D : Addr) (cl : List (Str × Addr)) (fp : List Addr), JC ca (X.blk s H scope (compEnvC scope cl D X.env) fp) E0 ifs (tt s H D cl fp) C)
    (he : ∀ (s : Shared) (H : Hp) (D : Addr) (cl : List (Str × Addr)) (fp : List Addr), JS ca (X.blk s H scope (compEnvC scope cl D X.env) fp) E0 elt (te s H D cl fp) F) (hL : ∀ i ∈ L, i ∈ own.map (·.2)) (s0 : Shared) (H0 : Hp) (hs : ∀ x, foldedSetIterable iter X.env x = pure x := by intro _; rfl)
    (qg : ∀ s H D cl fp, g s H D cl fp = g s0 H0 0 [] [] := by intro _ _ _ _ _; rfl) (qt : ∀ s H D cl fp, tt s H D cl fp = tt s0 H0 0 [] [] := by intro _ _ _ _ _; rfl) (qe : ∀ s H D cl fp, te s H D cl fp = te s0 H0 0 [] [] := by intro _ _ _ _ _; rfl) :
    JV ca X E (.ListComp elt [⟨tg, iter, ifs, 0⟩] scope pos) (tLc wi (g s0 H0 0 [] []) (tt s0 H0 0 [] []) (te s0 H0 0 [] []) (own.map (·.2))) (fLcS S T C F (own.map (·.2))) :=
  ⟨pe_lc hc hN hi.pi ok (fun s H C cl fp => by rw [← qg s H C cl fp]; exact (hg s H C cl fp).pg) (fun s H C cl fp => by rw [← qt s H C cl fp]; exact (ht s H C cl fp).pts) (fun s H C cl fp => by rw [← qe s H C cl fp]; exact (he s H C cl fp).pe) hs,
    sem_lc hi.sem (hg s0 H0 0 [] []).sem (ht s0 H0 0 [] []).sem (he s0 H0 0 [] []).sem hL⟩
theorem jp_setLc {i : Nat} {y : Str} {py : Pos} {elt tg iter : Expr} {ifs : List Expr} {scope : Scope} {own : List (Str × Nat)} {pos spos : Pos} {wi : TI} {g : Shared → Hp → Addr → List (Str × Addr) → List Addr → TG} {tt : Shared → Hp → Addr → List (Str × Addr) → List Addr → TT} {te : Shared → Hp → Addr → List (Str × Addr) → List Addr → TE} {S : Env → Rs (List PyData)} {T : Tgt} {L : List Nat} {C : Env → Rs Bool} {F : Env → Rs PyData} (hc : X.calm = true) (hN : X.N.Nodup) (hy : X.N[i]? = some y) (hyl : X.env.scope.names.lookup y = some .local)
    (hsw : swapsWith (.ListComp elt [⟨tg, iter, ifs, 0⟩] scope pos) (some (.Name y py)) spos.line X.env = pure true) (hi : JI ca X E true tg iter wi S) (ok : BlkOk X.N X.env.scope scope own)
    (hg : ∀ (s : Shared) (H : Hp) (D : Addr) (cl : List (Str × Addr)) (fp : List Addr), JG ca (X.blk s H scope (compEnvC scope cl D X.env) fp) tg (g s H D cl fp) T L) (ht : ∀ (s : Shared) (H : Hp) (D : Addr) (cl : List (Str × Addr)) (fp : List Addr), JC ca (X.blk s H scope (compEnvC scope cl D X.env) fp) E0 ifs (tt s H D cl fp) C)
    (he : ∀ (s : Shared) (H : Hp) (D : Addr) (cl : List (Str × Addr)) (fp : List Addr), JS ca (X.blk s H scope (compEnvC scope cl D X.env) fp) E0 elt (te s H D cl fp) F) (hL : ∀ i ∈ L, i ∈ own.map (·.2)) (s0 : Shared) (H0 : Hp) (hs : ∀ x, foldedSetIterable iter X.env x = pure x := by intro _; rfl)
    (qg : ∀ s H D cl fp, g s H D cl fp = g s0 H0 0 [] [] := by intro _ _ _ _ _; rfl) (qt : ∀ s H D cl fp, tt s H D cl fp = tt s0 H0 0 [] [] := by intro _ _ _ _ _; rfl) (qe : ∀ s H D cl fp, te s H D cl fp = te s0 H0 0 [] [] := by intro _ _ _ _ _; rfl) :
    JP ca X E (.Assign [.Name y py] (.ListComp elt [⟨tg, iter, ifs, 0⟩] scope pos) spos) (tAsg (tLc wi (g s0 H0 0 [] []) (tt s0 H0 0 [] []) (te s0 H0 0 [] []) (own.map (·.2))) (gName i)) (fSet i (fLcS S T C F (own.map (·.2)))) :=
  ⟨ps_setLc hc hN hy hyl hsw hi.pi ok (fun s H C cl fp => by rw [← qg s H C cl fp]; exact (hg s H C cl fp).pg) (fun s H C cl fp => by rw [← qt s H C cl fp]; exact (ht s H C cl fp).pts) (fun s H C cl fp => by rw [← qe s H C cl fp]; exact (he s H C cl fp).pe) hs,
    sem_set i (sem_lc hi.sem (hg s0 H0 0 [] []).sem (ht s0 H0 0 [] []).sem (he s0 H0 0 [] []).sem hL)⟩
end
end PF

namespace PF
open PySem L2

/-! ### calls -/
structure Callee (P : Program) (w : World) (K : PySem.W.Frag) (mg : Str → Option Value) (base : Heap) (ca : Nat → Addr) (x : Str) (k : Nat) (fF : List PyData → Rs Sl) (np : Nat) : Prop where
  ex : ∃ (f : Addr) (fd : FuncData) (ps : List Str), FnOk P w K mg base (L2.CX P w) k f fd ps (spF ⟨K, ca⟩ fF np) ∧ mg x = some (.ref f) ∧ PySem.W.keepIn K (.ref f) = true ∧ Binds K fd ps []
  len : ∀ ds, fF ds ≠ .stuck → ds.length = np
section
variable {ca : Nat → Addr} {X : Cx} {E : XK}
theorem jv_call {x : Str} {k np : Nat} {fF : List PyData → Rs Sl} {e : Expr} {es : List Expr} {t : TA} {Fa : Env → Rs (List PyData)} {p pos : Pos} (C : Callee X.prog X.w X.K X.mg X.base ca x k fF np) (hr : Room k X.A) (hx : Passes (L2.CX X.prog X.w) X E) (ha : JA ca X E (e :: es) t Fa)
    (hg : Gl X x := by rfl) (hdb : (x == ("__debug__" : Str)) = false := by decide) (he : starEach (e :: es) X.env = (false, eval e X.env) :: starEach es X.env := by rfl) (hpl : (backTo pos (starEach es X.env)).any (·.1) = false := by rfl) :
    JV ca X E (.Call (.Name x p) (e :: es) [] pos) (tCall (spF ⟨X.K, ca⟩ fF np) [] E t) (fCall fF Fa) := by
  obtain ⟨f, fd, ps, F, hm, hk, hb⟩ := C.ex
  exact ⟨pe_call F hr hg hm hk hb .nil hx ha.pa hdb he hpl, sem_callF ha.sem C.len⟩
variable {a b : Expr} {ta tb : TE} {Fa Fb : Env → Rs PyData} {p pos p2 : Pos}
theorem js_len (ha : JB ca X E a ta Fa) (hm : X.mg "len" = none) (hg : Gl X "len" := by rfl) (hst : starEach [a] X.env = (false, eval a X.env) :: starEach [] X.env := by rfl) : JS ca X E (.Call (.Name "len" p) [a] [] pos) (tCB (fun xs H Q => ∃ p ys, xs = [.ref p] ∧ (SqL X.K H p ys ∨ SqT X.K H p ys) ∧ Q (.int ys.length) H) (tCons ta tNil)) (fUn lenD Fa) :=
  ⟨pe_callB call_len_seq hg hm PySem.boot_len (pa_cons ha.pe pa_nil hst) (he := hst), sem_call1 callsem_len RS.mono ha.sem⟩
theorem js_abs (ha : JB ca X E a ta Fa) (hm : X.mg "abs" = none) (hg : Gl X "abs" := by rfl) (hst : starEach [a] X.env = (false, eval a X.env) :: starEach [] X.env := by rfl) : JS ca X E (.Call (.Name "abs" p) [a] [] pos) (tCB (fun xs H Q => ∃ i, xs = [.int i] ∧ Q (.int (if i < 0 then -i else i)) H) (tCons ta tNil)) (fUn absD Fa) :=
  ⟨pe_callB call_abs hg hm (by decide +kernel) (pa_cons ha.pe pa_nil hst) (he := hst), sem_call1 callsem_abs RS.mono ha.sem⟩
theorem js_intc (ha : JB ca X E a ta Fa) (hm : X.mg "int" = none) (hg : Gl X "int" := by rfl) (hst : starEach [a] X.env = (false, eval a X.env) :: starEach [] X.env := by rfl) : JS ca X E (.Call (.Name "int" p) [a] [] pos) (tCB (fun xs H Q => (∃ i, xs = [.int i] ∧ Q (.int i) H) ∨ ∃ k, xs = [.bl k] ∧ Q (.int (if k then 1 else 0)) H) (tCons ta tNil)) (fUn int1D Fa) :=
  ⟨pe_callTy call_int1 hg hm (by decide +kernel) (pa_cons ha.pe pa_nil hst) (he := hst), sem_call1 callsem_int RS.mono ha.sem⟩
theorem jv_list (ha : JB ca X E a ta Fa) (hm : X.mg "list" = none) (hg : Gl X "list" := by rfl) (hst : starEach [a] X.env = (false, eval a X.env) :: starEach [] X.env := by rfl) : JV ca X E (.Call (.Name "list" p) [a] [] pos) (tCB (fun xs H Q => ∃ p ys, xs = [.ref p] ∧ (SqL X.K H p ys ∨ SqT X.K H p ys) ∧ ∀ l, H l = none → Q (.ref l) (upd H l (.lst ys))) (tCons ta tNil)) (fUn listD Fa) :=
  ⟨pe_callTy call_list_of hg hm (by decide +kernel) (pa_cons ha.pe pa_nil hst) (he := hst), sem_call1 callsem_list RV.mono' ha.sem⟩
theorem js_tuplec (ha : JB ca X E a ta Fa) (hm : X.mg "tuple" = none) (hg : Gl X "tuple" := by rfl) (hst : starEach [a] X.env = (false, eval a X.env) :: starEach [] X.env := by rfl) : JS ca X E (.Call (.Name "tuple" p) [a] [] pos) (tCB (fun xs H Q => ∃ p ys, xs = [.ref p] ∧ ((SqL X.K H p ys ∧ ∀ l, H l = none → Q (.ref l) (upd H l (.tup ys))) ∨ (SqT X.K H p ys ∧ Q (.ref p) H))) (tCons ta tNil)) (fUn tupleD Fa) :=
  ⟨pe_callTy call_tuple_of hg hm (by decide +kernel) (pa_cons ha.pe pa_nil hst) (he := hst), sem_call1 callsem_tuple RS.mono ha.sem⟩
theorem js_sum (ha : JB ca X E a ta Fa) (hm : X.mg "sum" = none) (hc : X.calm = true) (hg : Gl X "sum" := by rfl) (hst : starEach [a] X.env = (false, eval a X.env) :: starEach [] X.env := by rfl) : JS ca X E (.Call (.Name "sum" p) [a] [] pos) (tCB (rSum X.K) (tCons ta tNil)) (fUn sumD Fa) :=
  ⟨pe_callB (cr_sum hc) hg hm (by decide +kernel) (pa_cons ha.pe pa_nil hst) (he := hst), sem_call1 callsem_sum RS.mono ha.sem⟩
theorem js_min (ha : JB ca X E a ta Fa) (hb : JB ca X E b tb Fb) (hm : X.mg "min" = none) (hc : X.calm = true) (hg : Gl X "min" := by rfl) (hst : starEach [a, b] X.env = (false, eval a X.env) :: starEach [b] X.env := by rfl) (hst2 : starEach [b] X.env = (false, eval b X.env) :: starEach [] X.env := by rfl) (hpl : (backTo pos (starEach [b] X.env)).any (·.1) = false := by rfl) :
    JS ca X E (.Call (.Name "min" p) [a, b] [] pos) (tCB (fun xs H Q => ∃ i j, xs = [.int i, .int j] ∧ Q (.int (if j < i then j else i)) H) (tCons ta (tCons tb tNil))) (fOp min2D Fa Fb) :=
  ⟨pe_callB (call_min2 hc) hg hm (by decide +kernel) (pa_cons ha.pe (pa_cons hb.pe pa_nil hst2) hst) (he := hst) (hpl := hpl), sem_call2 callsem_min RS.mono ha.sem hb.sem⟩
theorem js_max (ha : JB ca X E a ta Fa) (hb : JB ca X E b tb Fb) (hm : X.mg "max" = none) (hc : X.calm = true) (hg : Gl X "max" := by rfl) (hst : starEach [a, b] X.env = (false, eval a X.env) :: starEach [b] X.env := by rfl) (hst2 : starEach [b] X.env = (false, eval b X.env) :: starEach [] X.env := by rfl) (hpl : (backTo pos (starEach [b] X.env)).any (·.1) = false := by rfl) :
    JS ca X E (.Call (.Name "max" p) [a, b] [] pos) (tCB (fun xs H Q => ∃ i j, xs = [.int i, .int j] ∧ Q (.int (if j > i then j else i)) H) (tCons ta (tCons tb tNil))) (fOp max2D Fa Fb) :=
  ⟨pe_callB (call_max2 hc) hg hm (by decide +kernel) (pa_cons ha.pe (pa_cons hb.pe pa_nil hst2) hst) (he := hst) (hpl := hpl), sem_call2 callsem_max RS.mono ha.sem hb.sem⟩
/-- isinstance(x, T), T a built-in class -/
theorem isiD_ok {T : String} {d s : PyData} (h : isiD T d = .ok s) : ∃ b, kitB (tyN d) T = some b ∧ s = .bool b := by
  unfold isiD at h
  split at h
  · rename_i b hb
    cases h
    exact ⟨b, hb, rfl⟩
  · cases h
theorem js_isi (T : String) {x : Str} (ha : JB ca X E a ta Fa) (hm : X.mg "isinstance" = none) (hT : X.mg x = none) (hv : bootBuiltins x = some (.type T)) (hgT : Gl X x := by rfl) (hg : Gl X "isinstance" := by rfl) (hn : x ≠ "__name__" := by decide) (hd : (x == ("__debug__" : Str)) = false := by decide)
    (hst : starEach [a, .Name x p2] X.env = (false, eval a X.env) :: starEach [.Name x p2] X.env := by rfl) (hst2 : starEach [.Name x p2] X.env = (false, eval (.Name x p2) X.env) :: starEach [] X.env := by rfl) :
    JS ca X E (.Call (.Name "isinstance" p) [a, .Name x p2] [] pos) (tCB (rIsi X.K) (tCons ta (tCons (tC (.ty T)) tNil))) (fUn (isiD T) Fa) :=
  ⟨pe_callB call_isi hg hm (by decide +kernel) (pa_cons ha.pe (pa_cons (pe_bltn (v := .ty T) hgT hT hv rfl hn hd) pa_nil hst2) hst) (he := hst), fun G H ρ σ rep hns Q ok er => ha.sem.use rep hns er fun d ed e1 G' H' v n r q hk _ => by
    cases hi : isiD T d with
    | stuck => exact absurd hi hk
    | err z => unfold isiD at hi; split at hi <;> cases hi
    | ok s =>
      obtain ⟨b, hb, rfl⟩ := isiD_ok hi
      exact ⟨v, .ty T, _, .type T, b, rfl, .ty T, db_ty n.gh q, kit_ty hb, ok _ (e1.trans hi) G' H' _ n (.bl b)⟩⟩
end
/-! ### freezing, told -/
def fFz (i : Nat) (F : Env → Rs Out) : Env → Rs Out := fun ρ => F (fz1 i ρ)
theorem jp_fzF {ca : Nat → Addr} {X : Cx} {E : XK} {st : Stmt} {t : TS} {F : Env → Rs Out} (i : Nat) (h : JP ca X E st t F) : JP ca X E st t (fFz i F) := jp_fz i h
/-! ### the end -/
theorem callee_of {P : Program} {w : World} {K : PySem.W.Frag} {mg : Str → Option Value} {base : Heap} {ca : Nat → Addr} {x qual y : Str} {st : Stmt} {f : Addr} {fd : FuncData} {ps : List Str} {k np n : Nat} {F : Env → Rs Out} (Fu : Fun K y qual st f fd) (h : FnOk P w K mg base (L2.CX P w) k f fd ps (spF ⟨K, ca⟩ (fnOf np n F) np))
    (hm : mg x = some (.ref f)) (hb : Binds K fd ps []) : Callee P w K mg base ca x k (fnOf np n F) np := ⟨⟨f, fd, ps, h, hm, Fu.kp, hb⟩, fun ds => fnOf_len ds⟩
/-- what the law promises -/
def spTrue (K : PySem.W.Frag) : Sp := fun vs H Q _ => ∃ (a : Addr) (ns : List Int), vs = [.ref a] ∧ SqL K H a (ns.map V.int) ∧ ns.length ≤ 63 ∧ ∀ H', Q (.bl true) H'
theorem dpall_of_ints {K : PySem.W.Frag} {G : Hp} : ∀ ns : List Int, DpAll K G (ns.map V.int) (ns.map PyData.int)
  | [] => .nil
  | i :: ns => .cons (.int i) (dpall_of_ints ns)
theorem law_of {P : Program} {w : World} {K : PySem.W.Frag} {mg : Str → Option Value} {base : Heap} {ca : Nat → Addr} {k : Nat} {f : Addr} {fd : FuncData} {ps : List Str} {fF : List PyData → Rs Sl} (h : FnOk P w K mg base (L2.CX P w) k f fd ps (spF ⟨K, ca⟩ fF 1))
    (ht : ∀ ns : List Int, ns.length ≤ 63 → fF [.list (ns.map .int)] = .ok (.sh (.bool true))) : FnOk P w K mg base (L2.CX P w) k f fd ps (spTrue K) :=
  h.imp fun vs H Q E hq => by
    obtain ⟨a, ns, e, hs, hl, q⟩ := hq
    have e0 := ht ns hl
    show ∃ G ds, _
    refine ⟨H, [.list (ns.map .int)], Ex.refl H, by rw [e]; exact .cons (.lst hs (dpall_of_ints ns)) .nil, rfl, fun z => (by rw [e0] at z; cases z), fun s es G' H' v n r => ?_, fun x ex => (by rw [e0] at ex; cases ex)⟩
    rw [e0] at es
    cases es
    have r : Dp K G' v (.bool true) := r
    rw [Dp.bl_v r]
    exact q H'
end PF

namespace PF
open PySem L2

/-! ### any, all of ints and truths -/
def truD : PyData → Option Bool
  | .int i => some (i != 0)
  | .bool b => some b
  | _ => none
def tru (d : PyData) : Bool := (truD d).getD false
def anyD : PyData → Rs PyData
  | .list ds => if ds.all (fun d => (truD d).isSome) = true then .ok (.bool (ds.any tru)) else .stuck
  | .tuple ds => if ds.all (fun d => (truD d).isSome) = true then .ok (.bool (ds.any tru)) else .stuck
  | _ => .stuck
def allD : PyData → Rs PyData
  | .list ds => if ds.all (fun d => (truD d).isSome) = true then .ok (.bool (ds.all tru)) else .stuck
  | .tuple ds => if ds.all (fun d => (truD d).isSome) = true then .ok (.bool (ds.all tru)) else .stuck
  | _ => .stuck
def truN (ds : List PyData) (i : Nat) : Bool := ((ds[i]?).map tru).getD false
theorem any_truN : ∀ ds : List PyData, (List.range ds.length).any (truN ds) = ds.any tru
  | [] => rfl
  | d :: ds => by
    rw [List.length_cons, List.range_succ_eq_map, List.any_cons, List.any_map, List.any_cons, ← any_truN ds]
    rfl
theorem all_truN : ∀ ds : List PyData, (List.range ds.length).all (truN ds) = ds.all tru
  | [] => rfl
  | d :: ds => by
    rw [List.length_cons, List.range_succ_eq_map, List.all_cons, List.all_map, List.all_cons, ← all_truN ds]
    rfl
def rTru (K : PySem.W.Frag) (f : List PyData → Bool) : List V → Hp → VK → Prop := fun vs H Q => ∃ (a : Addr) (ys : List V) (ds : List PyData), vs = [V.ref a] ∧ (SqL K H a ys ∨ SqT K H a ys) ∧ DpAll K H ys ds ∧ ds.all (fun d => (truD d).isSome) = true ∧ Q (.bl (f ds)) H
theorem truth_ds {prog : Program} {w : World} {A : Around} {K : PySem.W.Frag} {H : Hp} {ys : List V} {ds : List PyData} {its : List Value} (r : Vals ys its) (q : DpAll K H ys ds) (h : ds.all (fun d => (truD d).isSome) = true) :
    TruthOf prog w A (fun i v => its.toArray[i]? = some v) (truN ds) := fun i v s Q E hv hq => by
  have hv' : its[i]? = some v := by simpa using hv
  have hl : i < ys.length := by
    rw [r.length]
    exact (List.getElem?_eq_some_iff.mp hv').1
  obtain ⟨u, e1, ru⟩ := r.get (List.getElem?_eq_getElem hl)
  rw [hv'] at e1
  cases e1
  obtain ⟨d, e2, hd⟩ := DpAll.get q (List.getElem?_eq_getElem hl)
  have ht : (truD d).isSome = true := List.all_eq_true.mp h d (List.mem_of_getElem? e2)
  have eq : truN ds i = tru d := by unfold truN; rw [e2]; rfl
  rw [eq] at hq
  cases d with
  | int k =>
    rw [Dp.int_v hd] at ru
    obtain ⟨t, rfl⟩ := ru
    exact PyProof.Rows.truthy_int hq
  | bool b =>
    rw [Dp.bl_v hd] at ru
    cases (show _ = Value.bool b from ru)
    exact wpAny_truthy_bool hq
  | none => cases ht
  | str k => cases ht
  | list k => cases ht
  | tuple k => cases ht
  | dict k => cases ht
theorem iter_anyT {prog : Program} {w : World} {A : Around} {E : Value → Shared → Prop} {s : Shared} {l : Addr} {items : Array Value} {Q : Value → Shared → Prop} (hl : s.heap.IsTuple l items)
    (h : ∀ s₂ : Shared, s₂ = { s with heap := s.heap.push { cls := .type "tuple_iterator", data := .fields #[.ref l, .int 0 0] } } →
      (s₂.heap.IsTupleIter s.heap.objs.size l 0 ∧ s₂.heap.IsTuple l items) → l ≠ s.heap.objs.size → Q (.ref s.heap.objs.size) s₂) : wpAny (model prog w) A (pyIter (.ref l)) Q E s := by
  have hlt : l < s.heap.objs.size := by obtain ⟨_, e, _⟩ := hl; exact Heap.lt_size e
  exact wpAny_pyIter_tuple hl (h _ rfl ⟨⟨_, Heap.get?_push_size _ rfl, rfl, rfl⟩, hl.extBut (b := s.heap.objs.size) (fun b o hb e => Heap.get?_push_of_some _ e) (Nat.ne_of_lt hlt)⟩ (Nat.ne_of_lt hlt))
section
variable {X : Cx}
theorem cr_anyD (hc : X.calm = true) : CallR X (.builtin "any") (rTru X.K fun ds => ds.any tru) := by
  intro pins s σ H vs us Q I r h
  obtain ⟨a, ys, ds, rfl, hs, hd, ht, q⟩ := h
  rw [Vals.ref1 r]
  rcases hs with hs | hs
  · obtain ⟨its, rv, hl, _⟩ := I.list hs
    refine call_any_walk (iter_any hl.isList fun s₂ e2 st hne => ?_)
    subst e2
    refine ⟨_, _, _, _, _, _, _, rfl, Walks.list (A := X.A.in1) (I.ok.hd hc) _ a hne its.toArray, st, truth_ds rv hd ht, fun h' tk hk => ?_⟩
    refine ⟨.bl _, H, I.kept fun b o eo => hk b o (fun hmem => ?_) (Heap.get?_push_of_some _ eo), ?_, q⟩
    · rcases List.mem_cons.mp hmem with e1 | hmem
      · exact absurd (e1 ▸ Heap.lt_size eo) (Nat.lt_irrefl _)
      · cases hmem
    · show Value.bool _ = Value.bool (ds.any tru)
      rw [← any_truN, List.size_toArray, ← rv.length, DpAll.length hd]
  · obtain ⟨its, rv, hl, _⟩ := I.tuple hs
    refine call_any_walk (iter_anyT hl fun s₂ e2 st hne => ?_)
    subst e2
    refine ⟨_, _, _, _, _, _, _, rfl, Walks.tuple (A := X.A.in1) (I.ok.hd hc) _ a hne its.toArray, st, truth_ds rv hd ht, fun h' tk hk => ?_⟩
    refine ⟨.bl _, H, I.kept fun b o eo => hk b o (fun hmem => ?_) (Heap.get?_push_of_some _ eo), ?_, q⟩
    · rcases List.mem_cons.mp hmem with e1 | hmem
      · exact absurd (e1 ▸ Heap.lt_size eo) (Nat.lt_irrefl _)
      · cases hmem
    · show Value.bool _ = Value.bool (ds.any tru)
      rw [← any_truN, List.size_toArray, ← rv.length, DpAll.length hd]
theorem cr_allD (hc : X.calm = true) : CallR X (.builtin "all") (rTru X.K fun ds => ds.all tru) := by
  intro pins s σ H vs us Q I r h
  obtain ⟨a, ys, ds, rfl, hs, hd, ht, q⟩ := h
  rw [Vals.ref1 r]
  rcases hs with hs | hs
  · obtain ⟨its, rv, hl, _⟩ := I.list hs
    refine call_all_walk (iter_any hl.isList fun s₂ e2 st hne => ?_)
    subst e2
    refine ⟨_, _, _, _, _, _, _, rfl, Walks.list (A := X.A.in1) (I.ok.hd hc) _ a hne its.toArray, st, truth_ds rv hd ht, fun h' tk hk => ?_⟩
    refine ⟨.bl _, H, I.kept fun b o eo => hk b o (fun hmem => ?_) (Heap.get?_push_of_some _ eo), ?_, q⟩
    · rcases List.mem_cons.mp hmem with e1 | hmem
      · exact absurd (e1 ▸ Heap.lt_size eo) (Nat.lt_irrefl _)
      · cases hmem
    · show Value.bool _ = Value.bool (ds.all tru)
      rw [← all_truN, List.size_toArray, ← rv.length, DpAll.length hd]
  · obtain ⟨its, rv, hl, _⟩ := I.tuple hs
    refine call_all_walk (iter_anyT hl fun s₂ e2 st hne => ?_)
    subst e2
    refine ⟨_, _, _, _, _, _, _, rfl, Walks.tuple (A := X.A.in1) (I.ok.hd hc) _ a hne its.toArray, st, truth_ds rv hd ht, fun h' tk hk => ?_⟩
    refine ⟨.bl _, H, I.kept fun b o eo => hk b o (fun hmem => ?_) (Heap.get?_push_of_some _ eo), ?_, q⟩
    · rcases List.mem_cons.mp hmem with e1 | hmem
      · exact absurd (e1 ▸ Heap.lt_size eo) (Nat.lt_irrefl _)
      · cases hmem
    · show Value.bool _ = Value.bool (ds.all tru)
      rw [← all_truN, List.size_toArray, ← rv.length, DpAll.length hd]
end
theorem db_seq {K : PySem.W.Frag} {G H : Hp} {x : V} {ds : List PyData} {b : Bool} (e : Ex G H) (h : Db K G H x (if b then .list ds else .tuple ds)) : ∃ a ys, x = .ref a ∧ (SqL K H a ys ∨ SqT K H a ys) ∧ DpAll K H ys ds := by
  cases b with
  | true =>
    obtain ⟨a, ys, rfl, h1, h2⟩ := db_list e h
    exact ⟨a, ys, rfl, .inl h1, DpAll.ex e h2⟩
  | false =>
    obtain ⟨a, ys, rfl, h1, h2⟩ := db_tup h
    exact ⟨a, ys, rfl, .inr (Ex.sqt e h1), DpAll.ex e h2⟩
theorem callsem_any {c : Pc} : CallSem c (rTru c.K fun ds => ds.any tru) anyD (RS c) where
  go := fun G H x a s e da hs Q q => by
    unfold anyD at hs
    split at hs
    · split at hs
      · rename_i ds h
        cases hs
        obtain ⟨p, ys, rfl, h1, h2⟩ := db_seq (b := true) e da
        exact ⟨p, ys, ds, rfl, h1, h2, h, q G H _ (Nx.refl e) (.bl _)⟩
      · cases hs
    · split at hs
      · rename_i ds h
        cases hs
        obtain ⟨p, ys, rfl, h1, h2⟩ := db_seq (b := false) e da
        exact ⟨p, ys, ds, rfl, h1, h2, h, q G H _ (Nx.refl e) (.bl _)⟩
      · cases hs
    · cases hs
  ne := fun a x h => by
    unfold anyD at h
    split at h
    · split at h <;> cases h
    · split at h <;> cases h
    · cases h
theorem callsem_all {c : Pc} : CallSem c (rTru c.K fun ds => ds.all tru) allD (RS c) where
  go := fun G H x a s e da hs Q q => by
    unfold allD at hs
    split at hs
    · split at hs
      · rename_i ds h
        cases hs
        obtain ⟨p, ys, rfl, h1, h2⟩ := db_seq (b := true) e da
        exact ⟨p, ys, ds, rfl, h1, h2, h, q G H _ (Nx.refl e) (.bl _)⟩
      · cases hs
    · split at hs
      · rename_i ds h
        cases hs
        obtain ⟨p, ys, rfl, h1, h2⟩ := db_seq (b := false) e da
        exact ⟨p, ys, ds, rfl, h1, h2, h, q G H _ (Nx.refl e) (.bl _)⟩
      · cases hs
    · cases hs
  ne := fun a x h => by
    unfold allD at h
    split at h
    · split at h <;> cases h
    · split at h <;> cases h
    · cases h
section
variable {ca : Nat → Addr} {X : Cx} {E : XK} {a : Expr} {ta : TE} {Fa : Env → Rs PyData} {p pos : Pos}
theorem js_any (ha : JB ca X E a ta Fa) (hm : X.mg "any" = none) (hc : X.calm = true) (hg : Gl X "any" := by rfl) (hst : starEach [a] X.env = (false, eval a X.env) :: starEach [] X.env := by rfl) : JS ca X E (.Call (.Name "any" p) [a] [] pos) (tCB (rTru X.K fun ds => ds.any tru) (tCons ta tNil)) (fUn anyD Fa) :=
  ⟨pe_callB (cr_anyD hc) hg hm (by decide +kernel) (pa_cons ha.pe pa_nil hst) (he := hst), sem_call1 callsem_any RS.mono ha.sem⟩
theorem js_all (ha : JB ca X E a ta Fa) (hm : X.mg "all" = none) (hc : X.calm = true) (hg : Gl X "all" := by rfl) (hst : starEach [a] X.env = (false, eval a X.env) :: starEach [] X.env := by rfl) : JS ca X E (.Call (.Name "all" p) [a] [] pos) (tCB (rTru X.K fun ds => ds.all tru) (tCons ta tNil)) (fUn allD Fa) :=
  ⟨pe_callB (cr_allD hc) hg hm (by decide +kernel) (pa_cons ha.pe pa_nil hst) (he := hst), sem_call1 callsem_all RS.mono ha.sem⟩
end

/-! ### what changes a list of our own -/
def ownL : Option Sl → Rs (List PyData)
  | some (.ol ds) => .ok ds
  | _ => .stuck
theorem ownL_ok {o : Option Sl} {β : Type} {k : List PyData → Rs β} (h : (ownL o >>= k) ≠ .stuck) : ∃ ds, o = some (.ol ds) := by
  unfold ownL at h
  split at h
  · exact ⟨_, rfl⟩
  · exact absurd rfl h
theorem mut_ol {c : Pc} {G0 H0 G H : Hp} {ρ : Env} {σ : L2.St} {i : Nat} {ds ds' : List PyData} {p : Addr} {xs xs' : List V} (rep : Rep c G H ρ σ) (en : Ent G0 H0 G H ρ σ) (hs : ρ[i]? = some (.ol ds)) (hp : σ[i]? = some (some (.ref p)))
    (gp : G p = none) (hH : H p = some (.lst xs)) (q : DpAll c.K G xs' ds') : Rep c G (upd H p (.lst xs')) (ρ.set i (.ol ds')) σ ∧ Ent G0 H0 G (upd H p (.lst xs')) (ρ.set i (.ol ds')) σ := by
  have h0 := en.own i _ p hs rfl hp
  refine ⟨rep.mut hs rfl hp gp ⟨p, xs', rfl, gp, upd_same, q⟩, ⟨⟨en.nx.g, fun a u e => ?_, fun a u e => ?_, en.nx.fr⟩, fun j s r e w f => ?_⟩⟩
  · rw [upd_ne (ne_of_none e h0)]
    exact en.nx.h a u e
  · rw [upd_ne (ne_of_none e gp)]
    exact rep.gh a u e
  · by_cases hij : i = j
    · subst hij
      rw [hp] at f
      cases f
      exact h0
    · rw [List.getElem?_set, if_neg hij] at e
      exact en.own j s r e w f
/-- a method that changes the list -/
def fMut (i : Nat) (f : List PyData → List PyData → Rs (List PyData)) (F : Env → Rs (List PyData)) : Env → Rs Out := fun ρ => ownL ρ[i]? >>= fun ds => F ρ >>= fun as => f ds as >>= fun ds' => .ok (.nx (ρ.set i (.ol ds')))
structure MutSem (K : PySem.W.Frag) (r : V → List V → Hp → VK → Prop) (f : List PyData → List PyData → Rs (List PyData)) : Prop where
  go : ∀ G H p xs ds as vs ds', Ex G H → H p = some (.lst xs) → DpAll K G xs ds → DpAll K G vs as → f ds as = .ok ds' → ∀ Q : VK, (∀ xs' w, DpAll K G xs' ds' → Q w (upd H p (.lst xs'))) → r (.ref p) vs H Q
  ne : ∀ ds as x, f ds as ≠ .err x
theorem sem_mut {c : Pc} {E : XK} {r : V → List V → Hp → VK → Prop} {f : List PyData → List PyData → Rs (List PyData)} {t : TA} {F : Env → Rs (List PyData)} (i : Nat) (m : MutSem c.K r f) (h : SemG c E t F (RA c)) : SemP c E (tDrop (tBM c.K "list" r (tVar i) t)) (fMut i f F) := by
  intro G0 H0 G H ρ σ rep en hns D nx rt er
  obtain ⟨ds, hs⟩ := ownL_ok hns
  have e0 : fMut i f F ρ = (F ρ >>= fun as => f ds as >>= fun ds' => .ok (.nx (ρ.set i (.ol ds')))) := by unfold fMut; rw [hs]; rfl
  rw [e0] at hns nx er
  obtain ⟨o, e1, p, xs, rfl, gp, hp, q⟩ := rep.sl i _ hs
  refine ⟨.ref p, e1, .inl ⟨rfl, xs, .inl (.inl hp)⟩, ?_⟩
  refine h.use rep hns (fun x e G' H' cl dd n => er x e G' H' cl dd (en.nx.trans n)) fun as es e2 G1 H1 vs n1 r1 q1 hk er1 => ?_
  obtain ⟨o', e3, p', xs', z, gp1, hp1, qq⟩ := r1.sl i _ hs
  rw [e1] at e3
  cases e3
  cases z
  cases hf : f ds as with
  | stuck => exact absurd (by rw [hf]; rfl) hk
  | err x => exact absurd hf (m.ne ds as x)
  | ok ds' =>
    refine m.go G1 H1 p xs' ds as vs ds' n1.gh hp1 qq q1 hf _ fun ys w hy => ?_
    obtain ⟨r2, n2⟩ := mut_ol r1 (en.go n1) hs e1 gp1 hp1 hy
    exact nx _ (by rw [e2, hf]; rfl) G1 _ σ r2 n2
def appD (ds as : List PyData) : Rs (List PyData) := match as with
  | [d] => if ds.length < lim then .ok (ds ++ [d]) else .stuck
  | _ => .stuck
def clrD (_ as : List PyData) : Rs (List PyData) := match as with
  | [] => .ok []
  | _ => .stuck
def revsD (ds as : List PyData) : Rs (List PyData) := match as with
  | [] => .ok ds.reverse
  | _ => .stuck
def insD (ds as : List PyData) : Rs (List PyData) := match as with
  | [.int i, d] => if ds.length < lim ∧ 0 ≤ i ∧ i < 2 ^ 63 then .ok (ds.take i.toNat ++ [d] ++ ds.drop i.toNat) else .stuck
  | _ => .stuck
def remD (ds as : List PyData) : Rs (List PyData) := match as with
  | [d] => if SeqAt.shaped d = true ∧ SeqAt.shaped (.list ds) = true then match ds.findIdx? (fun z => PyData.eqv z d) with
    | some j => .ok (ds.eraseIdx j)
    | none => .stuck
    else .stuck
  | _ => .stuck
def popAtD (ds as : List PyData) : Rs (List PyData) := match as with
  | [.int i] => if 0 ≤ i ∧ i < ds.length ∧ ds.length ≤ lim then .ok (ds.eraseIdx i.toNat) else .stuck
  | _ => .stuck
theorem mut_app {K : PySem.W.Frag} : MutSem K rAppend appD where
  go := fun G H p xs ds as vs ds' e hp q q1 hf Q k => by
    unfold appD at hf
    split at hf
    · split at hf
      · rename_i d hl
        cases hf
        cases q1 with
        | cons qd qn =>
          cases qn
          exact ⟨p, xs, _, rfl, rfl, hp, lim_lt (by rw [DpAll.length q]; exact hl), k _ _ (DpAll.append q (.cons qd .nil))⟩
      · cases hf
    · cases hf
  ne := fun ds as x h => by
    unfold appD at h
    split at h
    · split at h <;> cases h
    · cases h
theorem mut_clr {K : PySem.W.Frag} : MutSem K rClear clrD where
  go := fun G H p xs ds as vs ds' e hp q q1 hf Q k => by
    unfold clrD at hf
    split at hf
    · cases hf
      cases q1
      exact ⟨p, xs, rfl, rfl, hp, k _ _ .nil⟩
    · cases hf
  ne := fun ds as x h => by
    unfold clrD at h
    split at h <;> cases h
theorem mut_revs {K : PySem.W.Frag} : MutSem K rReverse revsD where
  go := fun G H p xs ds as vs ds' e hp q q1 hf Q k => by
    unfold revsD at hf
    split at hf
    · cases hf
      cases q1
      exact ⟨p, xs, rfl, rfl, hp, k _ _ (DpAll.reverse q)⟩
    · cases hf
  ne := fun ds as x h => by
    unfold revsD at h
    split at h <;> cases h
def rInsert : V → List V → Hp → VK → Prop := fun x vs H Q => ∃ (l : Addr) (xs : List V) (i : Int) (y : V), x = .ref l ∧ vs = [.int i, y] ∧ H l = some (.lst xs) ∧ xs.length < sizeLine ∧ 0 ≤ i ∧ i < 2 ^ 63 ∧
    Q .non (upd H l (.lst (xs.take i.toNat ++ [y] ++ xs.drop i.toNat)))
theorem mut_ins {K : PySem.W.Frag} : MutSem K rInsert insD where
  go := fun G H p xs ds as vs ds' e hp q q1 hf Q k => by
    unfold insD at hf
    split at hf
    · split at hf
      · rename_i i d hl
        cases hf
        cases q1 with
        | cons qi qn =>
          cases qn with
          | cons qd qn =>
            cases qn
            cases Dp.int_v qi
            exact ⟨p, xs, i, _, rfl, rfl, hp, lim_lt (by rw [DpAll.length q]; exact hl.1), hl.2.1, hl.2.2, k _ _ (DpAll.append (DpAll.append (DpAll.take _ q) (.cons qd .nil)) (DpAll.drop _ q))⟩
      · cases hf
    · cases hf
  ne := fun ds as x h => by
    unfold insD at h
    split at h
    · split at h <;> cases h
    · cases h
theorem mut_popAt {K : PySem.W.Frag} : MutSem K rPopAt popAtD where
  go := fun G H p xs ds as vs ds' e hp q q1 hf Q k => by
    unfold popAtD at hf
    split at hf
    · split at hf
      · rename_i i hl
        cases hf
        cases q1 with
        | cons qi qn =>
          cases qn
          cases Dp.int_v qi
          have e2 := DpAll.length q
          have hlt : i.toNat < xs.length := by omega
          have hz : (lim : Nat) < 2 ^ 63 := by decide
          exact ⟨p, xs, i, i.toNat, xs[i.toNat], rfl, rfl, hp, by omega, by have := hl.2.2; omega, seqIndex_of hl.1 (by omega), List.getElem?_eq_getElem hlt, k _ _ (DpAll.eraseIdx _ q)⟩
      · cases hf
    · cases hf
  ne := fun ds as x h => by
    unfold popAtD at h
    split at h
    · split at h <;> cases h
    · cases h
def rRemD (K : PySem.W.Frag) : V → List V → Hp → VK → Prop := fun x vs H Q => ∃ (l : Addr) (xs : List V) (y : V) (d : PyData) (ds : List PyData) (j : Nat) (z : PyData), x = .ref l ∧ vs = [y] ∧ H l = some (.lst xs) ∧ DpAll K H xs ds ∧ Dp K H y d ∧
  SeqAt.shaped (.list ds) = true ∧ SeqAt.shaped d = true ∧ ds[j]? = some z ∧ PyData.eqv z d = true ∧ (∀ (m : Nat) (z' : PyData), m < j → ds[m]? = some z' → PyData.eqv z' d = false) ∧ Q .non (upd H l (.lst (xs.eraseIdx j)))
theorem mt_removeD {X : Cx} (hu : X.A.units + 65 < cLine) : MtR X "list.remove" (rRemD X.K) := by
  intro pins s σ H x xs0 v us Q I rx rxs h
  obtain ⟨a, xs, y, d, ds, j, z, rfl, rfl, hH, ha, hy, sl, sd, hz, hzj, hno, q⟩ := h
  cases rx
  obtain ⟨uy, rfl, ry⟩ := rxs.one
  obtain ⟨bs, r1⟩ := Dp.reads I d y uy hy ry
  have hxs : PyData.canLayAll0 ds = true := SeqAt.canLay_of_shaped sl
  have hroom : X.A.units + 1 + min (PyData.depthAll ds) d.depth < cLine := PyProof.Rows.room_in_shaped sd hu
  obtain ⟨hlen, its, n, rv, hl, ho⟩ := I.lstM hH
  obtain ⟨as, h4⟩ := DpAll.reads I ds _ its ha rv
  have hn : its.length = ds.length := SeqAt.ReadsAll.length ds its as h4
  have hmap : its.map (SeqAt.readOf s.heap) = ds := SeqAt.readsAll_map ds its as hxs h4
  obtain ⟨hjd, _⟩ := List.getElem?_eq_some_iff.mp hz
  have hjl : j < its.length := by omega
  have hj : j < its.toArray.size := by simpa using hjl
  have at_ : ∀ (m : Nat) (hm : m < its.toArray.size) (z' : PyData), ds[m]? = some z' → SeqAt.readOf s.heap its.toArray[m] = z' := by
    intro m hm z' hz'
    have hml : m < its.length := by simpa using hm
    rw [← hmap, List.getElem?_map, List.getElem?_eq_getElem hml] at hz'
    have e1 : SeqAt.readOf s.heap its[m] = z' := Option.some.inj (show some (SeqAt.readOf s.heap its[m]) = some z' from hz')
    simpa using e1
  refine call_meets PySem.F.slot_list_remove ⟨_, ho, rfl⟩ PySem.F.entry_list_remove (PySem.F.args_list_remove_2 _ _)
    (SeqAt.list_removeAt a its.toArray n none #[] uy (fun u => PyData.eqv (SeqAt.readOf s.heap u) d) j hj ?_ ?_ (by rw [List.size_toArray]; omega)) ⟨ho, SeqAt.items_eqAt (vs := its.toArray) (show ReadsAll s.heap its.toArray.toList ds as from h4) r1 hxs (SeqAt.canLay_of_shaped sd) hroom, ?_⟩
  · show PyData.eqv (SeqAt.readOf s.heap its.toArray[j]) d = true
    rw [at_ j hj z hz]
    exact hzj
  · intro m hm hmj
    have hmd : m < ds.length := by omega
    have hz' : ds[m]? = some ds[m] := List.getElem?_eq_getElem hmd
    show PyData.eqv (SeqAt.readOf s.heap its.toArray[m]) d = false
    rw [at_ m hm _ hz']
    exact hno m _ hmj hz'
  · refine ⟨.non, _, I.lset (its' := its.eraseIdx j) hH ho ?_ (rv.eraseIdx j) ?_, rfl, q⟩
    · show its.toArray.eraseIdxIfInBounds j = (its.eraseIdx j).toArray
      rw [List.eraseIdxIfInBounds_toArray]
    · have := len_erase xs j
      omega
theorem mut_rem {K : PySem.W.Frag} : MutSem K (rRemD K) remD where
  go := fun G H p xs ds as vs ds' e hp q q1 hf Q k => by
    unfold remD at hf
    split at hf
    · split at hf
      · rename_i d hl
        split at hf
        · rename_i j hj
          cases hf
          cases q1 with
          | cons qd qn =>
            cases qn
            obtain ⟨h1, h2, h3⟩ := List.findIdx?_eq_some_iff_getElem.mp hj
            refine ⟨p, xs, _, d, ds, j, ds[j], rfl, rfl, hp, DpAll.ex e q, Dp.ex e qd, hl.2, hl.1, List.getElem?_eq_getElem h1, h2, fun m z' hm hz' => ?_, k _ _ (DpAll.eraseIdx _ q)⟩
            obtain ⟨hm1, rfl⟩ := List.getElem?_eq_some_iff.mp hz'
            have := h3 m hm
            simpa using this
        · cases hf
      · cases hf
    · cases hf
  ne := fun ds as x h => by
    unfold remD at h
    split at h
    · split at h
      · split at h <;> cases h
      · cases h
    · cases h
def fApp (i : Nat) (F : Env → Rs PyData) : Env → Rs Out := fMut i appD (fCons F fNil)
def fClr (i : Nat) : Env → Rs Out := fMut i clrD fNil
def fRevs (i : Nat) : Env → Rs Out := fMut i revsD fNil
def fIns (i : Nat) (F : Env → Rs (List PyData)) : Env → Rs Out := fMut i insD F
def fRem (i : Nat) (F : Env → Rs PyData) : Env → Rs Out := fMut i remD (fCons F fNil)
def fPopAt (i : Nat) (F : Env → Rs PyData) : Env → Rs Out := fMut i popAtD (fCons F fNil)
section
variable {ca : Nat → Addr} {X : Cx} {E : XK} {e : Expr} {es : List Expr} {te : TE} {ta : TA} {Fe : Env → Rs PyData} {Fa : Env → Rs (List PyData)} {x : Str} {p apos cpos pos : Pos}
theorem jp_mut {name : Str} {id : String} {r : V → List V → Hp → VK → Prop} {f : List PyData → List PyData → Rs (List PyData)} (i : Nat) (slot : Slot "list" name id) (hty : typeOf (.builtin id) = pure (.type "method_descriptor")) (hm : MtR X id r) (m : MutSem X.K r f) (hx : PE X (.Name x p) (tVar i)) (ha : JA ca X E (e :: es) ta Fa)
    (hbase : attributeBase (.Name x p) name X.env (eval (.Name x p) X.env) = eval (.Name x p) X.env)
    (hfew : ((backTo cpos (starEach (e :: es) X.env)).all (fun x => !x.1) && (backToKw cpos (keywordEach [] X.env)).all (fun x => x.1.isSome)
      && decide ((e :: es).length + ([] : List Keyword).length + (if ([] : List Keyword).isEmpty then 0 else 1) < 30)) = true)
    (hline : (apos.endLine == cpos.line) = true) (hs : starEach (e :: es) X.env = (false, eval e X.env) :: starEach es X.env) (hplain : (backTo cpos (starEach es X.env)).any (·.1) = false)
    (hsw : swapsWith (.Call (.Attribute (.Name x p) name apos) (e :: es) [] cpos) none pos.line X.env = pure false) :
    JP ca X E (.Expr (.Call (.Attribute (.Name x p) name apos) (e :: es) [] cpos) pos) (tDrop (tBM X.K "list" r (tVar i) ta)) (fMut i f Fa) :=
  ⟨ps_expr (pe_bm PySem.F.plainAttrs_list slot hty hm hx ha.pa hbase hfew hline hs hplain) hsw, sem_mut i m ha.sem⟩
theorem jp_mut0 {name : Str} {id : String} {r : V → List V → Hp → VK → Prop} {f : List PyData → List PyData → Rs (List PyData)} (i : Nat) (slot : Slot "list" name id) (hty : typeOf (.builtin id) = pure (.type "method_descriptor")) (hm : MtR X id r) (m : MutSem X.K r f) (hx : PE X (.Name x p) (tVar i))
    (hbase : attributeBase (.Name x p) name X.env (eval (.Name x p) X.env) = eval (.Name x p) X.env)
    (hline : (apos.endLine == cpos.line) = true)
    (hsw : swapsWith (.Call (.Attribute (.Name x p) name apos) [] [] cpos) none pos.line X.env = pure false) :
    JP ca X E (.Expr (.Call (.Attribute (.Name x p) name apos) [] [] cpos) pos) (tDrop (tBM0 X.K "list" r (tVar i))) (fMut i f fNil) :=
  ⟨ps_expr (pe_bm0 PySem.F.plainAttrs_list slot hty hm hx hbase hline) hsw, sem_mut i m (ja_nil (ca := ca) (X := X) (E := E)).sem⟩
theorem jp_append (i : Nat) (hx : PE X (.Name x p) (tVar i)) (ha : JS ca X E e te Fe)
    (hbase : attributeBase (.Name x p) "append" X.env (eval (.Name x p) X.env) = eval (.Name x p) X.env := by rfl)
    (hfew : ((backTo cpos (starEach [e] X.env)).all (fun x => !x.1) && (backToKw cpos (keywordEach [] X.env)).all (fun x => x.1.isSome)
      && decide (([e]).length + ([] : List Keyword).length + (if ([] : List Keyword).isEmpty then 0 else 1) < 30)) = true := by rfl)
    (hline : (apos.endLine == cpos.line) = true := by rfl) (hs : starEach [e] X.env = (false, eval e X.env) :: starEach [] X.env := by rfl) (hplain : (backTo cpos (starEach [] X.env)).any (·.1) = false := by rfl)
    (hsw : swapsWith (.Call (.Attribute (.Name x p) "append" apos) [e] [] cpos) none pos.line X.env = pure false := by rfl) :
    JP ca X E (.Expr (.Call (.Attribute (.Name x p) "append" apos) [e] [] cpos) pos) (tDrop (tBM X.K "list" rAppend (tVar i) (tCons te tNil))) (fApp i Fe) :=
  jp_mut i PySem.F.slot_list_append PySem.F.type_list_append mt_append mut_app hx (ja_cons ha ja_nil hs) hbase hfew hline hs hplain hsw
theorem jp_remove (i : Nat) (hx : PE X (.Name x p) (tVar i)) (ha : JS ca X E e te Fe) (hu : X.A.units + 65 < cLine)
    (hbase : attributeBase (.Name x p) "remove" X.env (eval (.Name x p) X.env) = eval (.Name x p) X.env := by rfl)
    (hfew : ((backTo cpos (starEach [e] X.env)).all (fun x => !x.1) && (backToKw cpos (keywordEach [] X.env)).all (fun x => x.1.isSome)
      && decide (([e]).length + ([] : List Keyword).length + (if ([] : List Keyword).isEmpty then 0 else 1) < 30)) = true := by rfl)
    (hline : (apos.endLine == cpos.line) = true := by rfl) (hs : starEach [e] X.env = (false, eval e X.env) :: starEach [] X.env := by rfl) (hplain : (backTo cpos (starEach [] X.env)).any (·.1) = false := by rfl)
    (hsw : swapsWith (.Call (.Attribute (.Name x p) "remove" apos) [e] [] cpos) none pos.line X.env = pure false := by rfl) :
    JP ca X E (.Expr (.Call (.Attribute (.Name x p) "remove" apos) [e] [] cpos) pos) (tDrop (tBM X.K "list" (rRemD X.K) (tVar i) (tCons te tNil))) (fRem i Fe) :=
  jp_mut i PySem.F.slot_list_remove PySem.F.type_list_remove (mt_removeD hu) mut_rem hx (ja_cons ha ja_nil hs) hbase hfew hline hs hplain hsw
theorem jp_popAt (i : Nat) (hx : PE X (.Name x p) (tVar i)) (ha : JS ca X E e te Fe)
    (hbase : attributeBase (.Name x p) "pop" X.env (eval (.Name x p) X.env) = eval (.Name x p) X.env := by rfl)
    (hfew : ((backTo cpos (starEach [e] X.env)).all (fun x => !x.1) && (backToKw cpos (keywordEach [] X.env)).all (fun x => x.1.isSome)
      && decide (([e]).length + ([] : List Keyword).length + (if ([] : List Keyword).isEmpty then 0 else 1) < 30)) = true := by rfl)
    (hline : (apos.endLine == cpos.line) = true := by rfl) (hs : starEach [e] X.env = (false, eval e X.env) :: starEach [] X.env := by rfl) (hplain : (backTo cpos (starEach [] X.env)).any (·.1) = false := by rfl)
    (hsw : swapsWith (.Call (.Attribute (.Name x p) "pop" apos) [e] [] cpos) none pos.line X.env = pure false := by rfl) :
    JP ca X E (.Expr (.Call (.Attribute (.Name x p) "pop" apos) [e] [] cpos) pos) (tDrop (tBM X.K "list" rPopAt (tVar i) (tCons te tNil))) (fPopAt i Fe) :=
  jp_mut i PySem.F.slot_list_pop PySem.F.type_list_pop mt_popAt mut_popAt hx (ja_cons ha ja_nil hs) hbase hfew hline hs hplain hsw
theorem jp_insert (i : Nat) {e2 : Expr} (hx : PE X (.Name x p) (tVar i)) (ha : JA ca X E [e, e2] ta Fa)
    (hbase : attributeBase (.Name x p) "insert" X.env (eval (.Name x p) X.env) = eval (.Name x p) X.env := by rfl)
    (hfew : ((backTo cpos (starEach [e, e2] X.env)).all (fun x => !x.1) && (backToKw cpos (keywordEach [] X.env)).all (fun x => x.1.isSome)
      && decide (([e, e2]).length + ([] : List Keyword).length + (if ([] : List Keyword).isEmpty then 0 else 1) < 30)) = true := by rfl)
    (hline : (apos.endLine == cpos.line) = true := by rfl) (hs : starEach [e, e2] X.env = (false, eval e X.env) :: starEach [e2] X.env := by rfl) (hplain : (backTo cpos (starEach [e2] X.env)).any (·.1) = false := by rfl)
    (hsw : swapsWith (.Call (.Attribute (.Name x p) "insert" apos) [e, e2] [] cpos) none pos.line X.env = pure false := by rfl) :
    JP ca X E (.Expr (.Call (.Attribute (.Name x p) "insert" apos) [e, e2] [] cpos) pos) (tDrop (tBM X.K "list" rInsert (tVar i) ta)) (fIns i Fa) :=
  jp_mut i PySem.F.slot_list_insert PySem.F.type_list_insert mt_insert mut_ins hx ha hbase hfew hline hs hplain hsw
theorem jp_clear (i : Nat) (hx : PE X (.Name x p) (tVar i))
    (hbase : attributeBase (.Name x p) "clear" X.env (eval (.Name x p) X.env) = eval (.Name x p) X.env := by rfl)
    (hline : (apos.endLine == cpos.line) = true := by rfl)
    (hsw : swapsWith (.Call (.Attribute (.Name x p) "clear" apos) [] [] cpos) none pos.line X.env = pure false := by rfl) :
    JP ca X E (.Expr (.Call (.Attribute (.Name x p) "clear" apos) [] [] cpos) pos) (tDrop (tBM0 X.K "list" rClear (tVar i))) (fClr i) :=
  jp_mut0 i PySem.F.slot_list_clear PySem.F.type_list_clear mt_clear mut_clr hx hbase hline hsw
theorem jp_reverse (i : Nat) (hx : PE X (.Name x p) (tVar i))
    (hbase : attributeBase (.Name x p) "reverse" X.env (eval (.Name x p) X.env) = eval (.Name x p) X.env := by rfl)
    (hline : (apos.endLine == cpos.line) = true := by rfl)
    (hsw : swapsWith (.Call (.Attribute (.Name x p) "reverse" apos) [] [] cpos) none pos.line X.env = pure false := by rfl) :
    JP ca X E (.Expr (.Call (.Attribute (.Name x p) "reverse" apos) [] [] cpos) pos) (tDrop (tBM0 X.K "list" rReverse (tVar i))) (fRevs i) :=
  jp_mut0 i PySem.F.slot_list_reverse PySem.F.type_list_reverse mt_reverse mut_revs hx hbase hline hsw
/-- xs[k] = v -/
def setP (ds : List PyData) (k d : PyData) : Rs (List PyData) := match k with
  | .int k => match ixN ds.length k with
    | some j => .ok (ds.set j d)
    | none => .stuck
  | _ => .stuck
def fSetIx (i : Nat) (Fv Fk : Env → Rs PyData) : Env → Rs Out := fun ρ => Fv ρ >>= fun d => ownL ρ[i]? >>= fun ds => Fk ρ >>= fun k => setP ds k d >>= fun ds' => .ok (.nx (ρ.set i (.ol ds')))
theorem jp_setIx (i : Nat) {v k : Expr} {tv tk : TE} {Fv Fk : Env → Rs PyData} (hv : JS ca X E v tv Fv) (hx : PE X (.Name x p) (tVar i)) (hk : JB ca X E k tk Fk)
    (ha : ∀ w, assign (.Subscript (.Name x p) k apos) X.env w = (do
      let ov ← holding [w] (eval (.Name x p) X.env)
      let iv ← holding [w, ov] (eval k X.env)
      standAt apos
      holding [w, ov, iv] (setItem ov iv w)
      release [w, ov, iv] []) := by intro _; rfl) (hs : swapsWithSole [.Subscript (.Name x p) k apos] v pos.line X.env = pure false := by rfl) (hw : swappedStores [.Subscript (.Name x p) k apos] v X.env = pure none := by rfl) :
    JP ca X E (.Assign [.Subscript (.Name x p) k apos] v pos) (tAsg tv (gSub (tVar i) tk rSetL)) (fSetIx i Fv Fk) := by
  refine ⟨ps_asg hv.pe (pg_sub hx hk.pe set_list ha) hs hw, fun G0 H0 G H ρ σ rep en hns D nx rt er => ?_⟩
  refine hv.sem.use rep hns (fun x e G' H' cl dd n => er x e G' H' cl dd (en.nx.trans n)) fun d ed e1 G1 H1 u n1 r1 q1 h1 er1 => ?_
  have nx0 : ∀ ρ', (ownL ρ[i]? >>= fun ds => Fk ρ >>= fun k => setP ds k d >>= fun ds' => (.ok (.nx (ρ.set i (.ol ds'))) : Rs Out)) = .ok (.nx ρ') → ∀ G' H' σ', Rep ⟨X.K, ca⟩ G' H' ρ' σ' → Ent G0 H0 G' H' ρ' σ' → D.nx σ' H' := fun ρ' e => nx ρ' (e1.trans e)
  replace nx := nx0
  obtain ⟨ds, hs⟩ := ownL_ok h1
  have e0 : (ownL ρ[i]? >>= fun ds => Fk ρ >>= fun k => setP ds k d >>= fun ds' => (.ok (.nx (ρ.set i (.ol ds'))) : Rs Out)) = (Fk ρ >>= fun k => setP ds k d >>= fun ds' => (.ok (.nx (ρ.set i (.ol ds'))) : Rs Out)) := by rw [hs]; rfl
  rw [e0] at h1 er1 nx
  obtain ⟨o, e2, pp, xs, rfl, gp, hp, qq⟩ := r1.sl i _ hs
  refine ⟨.ref pp, e2, ?_⟩
  refine hk.sem.use r1 h1 er1 fun kd ek e3 G2 H2 w n2 r2 q2 h2 er2 => ?_
  rw [e3] at nx
  obtain ⟨o', e4, p', xs', z, gp2, hp2, qq2⟩ := r2.sl i _ hs
  rw [e2] at e4
  cases e4
  cases z
  unfold setP at h2 nx
  split at h2
  · rename_i kk
    split at h2
    · rename_i j hj
      cases db_int q2
      have hl := DpAll.length qq2
      refine ⟨pp, xs', kk, j, rfl, rfl, hp2, by rw [hl]; exact hj, ?_⟩
      obtain ⟨r3, n3⟩ := mut_ol r2 ((en.go n1).go n2) hs e2 gp2 hp2 (DpAll.set (Dp.ex n2.g q1) j qq2)
      exact nx _ (by simp only [hj]; rfl) G2 _ σ r3 n3
    · exact absurd rfl h2
  · exact absurd rfl h2
/-- [..] * k -/
def repD (s : Sl) (k : PyData) : Rs Sl := match s, k with
  | .ol ds, .int k => if -(2 ^ 63) ≤ k ∧ k < 2 ^ 63 ∧ ds.length * k.toNat ≤ lim then .ok (.ol (List.replicate k.toNat ds).flatten) else .stuck
  | _, _ => .stuck
def fRep (Fa : Env → Rs Sl) (Fb : Env → Rs PyData) : Env → Rs Sl := fun ρ => Fa ρ >>= fun s => Fb ρ >>= fun k => repD s k
theorem DpAll.rep {K : PySem.W.Frag} {H : Hp} {vs : List V} {ds : List PyData} (h : DpAll K H vs ds) : ∀ n : Nat, DpAll K H (List.replicate n vs).flatten (List.replicate n ds).flatten
  | 0 => .nil
  | n + 1 => by
    rw [List.replicate_succ, List.replicate_succ, List.flatten_cons, List.flatten_cons]
    exact DpAll.append h (DpAll.rep h n)
theorem jv_rep {a b : Expr} {ta tb : TE} {Fa : Env → Rs Sl} {Fb : Env → Rs PyData} (ha : JV ca X E a ta Fa) (hb : JB ca X E b tb Fb) : JV ca X E (.BinOp a .Mult b pos) (tOp rRep ta tb) (fRep Fa Fb) := by
  refine ⟨pe_op op_rep ha.pe hb.pe, fun G H ρ σ rep hns Q ok er => ?_⟩
  refine ha.sem.use rep hns er fun s es e1 G1 H1 v n1 r1 q1 h1 er1 => ?_
  refine hb.sem.use r1 h1 er1 fun k ek e2 G2 H2 w n2 r2 q2 h2 er2 => ?_
  unfold repD at h2
  split at h2
  · rename_i ds kk
    split at h2
    · rename_i hc
      obtain ⟨p, xs, rfl, h0, g1, hp, q⟩ := q1
      cases db_int q2
      have hp2 : H2 p = some (.lst xs) := n2.h _ _ hp
      have q' := DpAll.ex n2.g q
      refine ⟨p, kk, xs, rfl, rfl, hp2, hc.1, hc.2.1, lim_le (by rw [DpAll.length q]; exact hc.2.2), fun l hl => ?_⟩
      refine ok (.ol (List.replicate kk.toNat ds).flatten) ?_ G2 _ _ ((n1.trans n2).trans (Nx.hid n2.gh hl)) ⟨l, _, rfl, (n1.trans n2).h.back hl, n2.gh.back hl, upd_same, DpAll.rep q' _⟩
      show (Fa ρ >>= fun s => Fb ρ >>= fun k => repD s k) = _
      rw [e1]
      refine e2.trans (if_pos hc)
    · exact absurd rfl h2
  · exact absurd rfl h2
end
/-! reckoning -/
theorem appD_ok {ds : List PyData} {d : PyData} (h : ds.length < lim) : appD ds [d] = .ok (ds ++ [d]) := if_pos h
@[simp] theorem z_clr (ds : List PyData) : clrD ds [] = .ok [] := rfl
@[simp] theorem z_revs (ds : List PyData) : revsD ds [] = .ok ds.reverse := rfl
@[simp] theorem z_ownL (ds : List PyData) : ownL (some (.ol ds)) = .ok ds := rfl
end PF

namespace PF
open PySem L2

/-! ### zip of a list or a tuple with a list or a tuple -/
def ItrK : Bool → Heap → Addr → Addr → Nat → Prop
  | true, h, it, l, i => h.IsListIter it l i
  | false, h, it, l, i => h.IsTupleIter it l i
def SeqK : Bool → Heap → Addr → Array Value → Prop
  | true, h, l, xs => h.IsList l xs
  | false, h, l, xs => h.IsTuple l xs
def SqK (b : Bool) (K : PySem.W.Frag) (H : Hp) (a : Addr) (xs : List V) : Prop := match b with
  | true => SqL K H a xs
  | false => SqT K H a xs
def itO (b : Bool) (l : Addr) : Obj := { cls := .type (if b then "list_iterator" else "tuple_iterator"), data := .fields #[.ref l, .int 0 0] }
def seqD (b : Bool) (ds : List PyData) : PyData := if b then .list ds else .tuple ds
theorem ItrK.obj {b : Bool} {h : Heap} {it l : Addr} {i : Nat} (x : ItrK b h it l i) : ∃ o, h.get? it = some o ∧ ∀ v, o.data ≠ .cell v := by
  cases b with
  | true => obtain ⟨o, e, _, d⟩ := x; exact ⟨o, e, fun v q => by rw [d] at q; cases q⟩
  | false => obtain ⟨o, e, _, d⟩ := x; exact ⟨o, e, fun v q => by rw [d] at q; cases q⟩
theorem ItrK.mv {b : Bool} {h h' : Heap} {it l : Addr} {i : Nat} (x : ItrK b h it l i) (k : ∀ o, h.get? it = some o → h'.get? it = some o) : ItrK b h' it l i := by
  cases b with
  | true => obtain ⟨o, e, r⟩ := x; exact ⟨o, k o e, r⟩
  | false => obtain ⟨o, e, r⟩ := x; exact ⟨o, k o e, r⟩
theorem SeqK.mv {b : Bool} {h h' : Heap} {l : Addr} {xs : Array Value} (x : SeqK b h l xs) (k : ∀ o, h.get? l = some o → h'.get? l = some o) : SeqK b h' l xs := by
  cases b with
  | true => obtain ⟨o, e, r⟩ := x; exact ⟨o, k o e, r⟩
  | false => obtain ⟨o, e, r⟩ := x; exact ⟨o, k o e, r⟩
theorem SeqK.lt {b : Bool} {h : Heap} {l : Addr} {xs : Array Value} (x : SeqK b h l xs) : l < h.objs.size := by
  cases b with
  | true => obtain ⟨o, e, r⟩ := x; exact Heap.lt_size e
  | false => obtain ⟨o, e, r⟩ := x; exact Heap.lt_size e
theorem drawsK {prog : Program} {w : World} {A : Around} (hh : A.handled = none) (b : Bool) (it l : Addr) (hne : l ≠ it) (items : Array Value) :
    Draws prog w A it [it, l] items.size (fun i v => items[i]? = some v) (fun i h => ItrK b h it l i ∧ SeqK b h l items) := by
  cases b with
  | true => exact Draws.list hh it l hne items
  | false => exact Draws.tuple hh it l hne items
theorem beginsK (b : Bool) (l : Addr) (items : Array Value) : Begins (.ref l) (itO b l) fun h => SeqK b h l items := by
  cases b with
  | true => exact begins_list l items
  | false => exact begins_tuple l items
theorem itrK_new {b : Bool} {h : Heap} {it l : Addr} (e : h.get? it = some (itO b l)) : ItrK b h it l 0 := by
  cases b with
  | true => exact ⟨_, e, rfl, rfl⟩
  | false => exact ⟨_, e, rfl, rfl⟩
section
variable {X : Cx} {pins : List (Addr × Obj)} {σ : L2.St} {H : Hp} {s : Shared} {a : Addr} {xs ys : List V}
theorem inv_seqK {b : Bool} (I : Inv X pins σ H s) (h : SqK b X.K H a xs) : ∃ its : List Value, Vals xs its ∧ SeqK b s.heap a its.toArray := by
  cases b with
  | true =>
    obtain ⟨its, r, p, _⟩ := I.list h
    exact ⟨its, r, p.isList⟩
  | false =>
    obtain ⟨its, r, p, _⟩ := I.tuple h
    exact ⟨its, r, p⟩
theorem inv_injK {b : Bool} (I : Inv X pins σ H s) (h : SqK b X.K H a xs) (h' : SqK b X.K H a ys) : xs = ys := by
  cases b with
  | true => exact I.list_inj h h'
  | false => exact I.tuple_inj h h'
end
theorem SqK.ex {b : Bool} {K : PySem.W.Frag} {H H' : Hp} {a : Addr} {xs : List V} (e : Ex H H') (h : SqK b K H a xs) : SqK b K H' a xs := by
  cases b with
  | true => exact Ex.sql e h
  | false => exact Ex.sqt e h
/-- the walk -/
def ItzK (K : PySem.W.Frag) (b1 b2 : Bool) (a b : Addr) : It :=
  ⟨fun i H => ∃ (xs ys : List V) (x y : V), SqK b1 K H a xs ∧ SqK b2 K H b ys ∧ xs[i]? = some x ∧ ys[i]? = some y,
    fun i H v H' => ∃ T x y, v = .ref T ∧ H T = none ∧ H' = upd H T (.tup [x, y]) ∧ (∀ xs, SqK b1 K H a xs → xs[i]? = some x) ∧ ∀ ys, SqK b2 K H b ys → ys[i]? = some y,
    fun i H => ∃ xs ys : List V, SqK b1 K H a xs ∧ SqK b2 K H b ys ∧ i ≤ xs.length ∧ i ≤ ys.length ∧ (i = xs.length ∨ i = ys.length)⟩
/-- the state of the heap between two turns -/
def zipSt (b1 b2 : Bool) (z TI TO i1 i2 a b : Addr) (i : Nat) (h : Heap) : Prop := IsZip h z TI TO .none ∧ IsTupOf2 h TI (.ref i1) (.ref i2) ∧ (∃ x y, IsTupOf2 h TO x y) ∧ ItrK b1 h i1 a i ∧ ItrK b2 h i2 b i
theorem mem5 {z TI TO i1 i2 c : Addr} (h : c ∈ [z, TI, TO, i1, i2]) : c = z ∨ c = TI ∨ c = TO ∨ c = i1 ∨ c = i2 := by simpa using h
theorem zipSt_obj {b1 b2 : Bool} {z TI TO i1 i2 a b : Addr} {i : Nat} {h : Heap} (st : zipSt b1 b2 z TI TO i1 i2 a b i h) : ∀ c ∈ [z, TI, TO, i1, i2], ∃ o, h.get? c = some o ∧ ∀ v, o.data ≠ .cell v := fun c hc => by
  obtain ⟨q1, q2, ⟨x, y, q3⟩, q4, q5⟩ := st
  rcases mem5 hc with rfl | rfl | rfl | rfl | rfl
  · exact ⟨_, q1, fun v q => nomatch q⟩
  · exact ⟨_, q2, fun v q => nomatch q⟩
  · exact ⟨_, q3, fun v q => nomatch q⟩
  · exact q4.obj
  · exact q5.obj
theorem turnK {P : Program} {w : World} {K : PySem.W.Frag} {elts : List Expr} {kk : Nat} {tpos : Pos} {b1 b2 : Bool} {a b z TI TO i1 i2 : Addr} (S : ZipSep2 z TI TO i1 i2 [i1, a] [i2, b]) (ha : a ≠ i1) (hb : b ≠ i2) :
    Turn P w K (.Tuple elts kk tpos) (ItzK K b1 b2 a b) [z, TI, TO, i1, i2] z (zipSt b1 b2 z TI TO i1 i2 a b) where
  mem := List.mem_cons_self
  obj := fun i h st => zipSt_obj st
  keep := fun i h h' st k => by
    obtain ⟨q1, q2, ⟨x, y, q3⟩, q4, q5⟩ := st
    exact ⟨k z (by simp) _ q1, k TI (by simp) _ q2, ⟨x, y, k TO (by simp) _ q3⟩, q4.mv fun o => k i1 (by simp) o, q5.mv fun o => k i2 (by simp) o⟩
  item := by
    intro X hP hw hK hc i pins s σ H E I hf st hg
    subst hP hw hK
    have there := zipSt_obj st
    obtain ⟨q1, q2, ⟨x0, y0, q3⟩, q4, q5⟩ := st
    obtain ⟨xs, ys, x, y, hqx, hqy, hx, hy⟩ := hg
    obtain ⟨its, rv, p⟩ := inv_seqK I hqx
    obtain ⟨its2, rv2, p2⟩ := inv_seqK I hqy
    obtain ⟨u, hu, ru⟩ := rv.get hx
    obtain ⟨u2, hu2, ru2⟩ := rv2.get hy
    have hh : X.A.in1.handled = none := I.ok.hd hc
    have D1 := drawsK (prog := X.prog) (w := X.w) (A := X.A.in1) hh b1 i1 a ha its.toArray
    have D2 := drawsK (prog := X.prog) (w := X.w) (A := X.A.in1) hh b2 i2 b hb its2.toArray
    refine wpAny_pyNext_zipD2_item S D1 D2 q1 q2 q3 ⟨q4, p⟩ ⟨q5, p2⟩ ?_ ?_ fun v v2 h' tk e1 e2 z1 z3 z4 z5 hT hsz hk => ?_
    · rw [List.size_toArray]; exact (List.getElem?_eq_some_iff.mp hu).1
    · rw [List.size_toArray]; exact (List.getElem?_eq_some_iff.mp hu2).1
    · have ev : v = u := by
        have e1' : its[i]? = some v := by simpa using e1
        rw [hu] at e1'
        exact (Option.some.inj e1').symm
      have ev2 : v2 = u2 := by
        have e2' : its2[i]? = some v2 := by simpa using e2
        rw [hu2] at e2'
        exact (Option.some.inj e2').symm
      subst ev ev2
      have hzl : z < s.heap.objs.size := Heap.lt_size q1
      refine ⟨_, rfl, wpAny_letOwnedTupleGo_zip (s := { s with heap := h', toks := tk }) z1 fun h'' zz sb => ?_⟩
      have mv : ∀ c o, c ≠ z → h'.get? c = some o → h''.get? c = some o := fun c o hc e => (sb.2 c hc).trans e
      have kk2 : ∀ c o, c ∉ [z, TI, TO, i1, i2] → s.heap.get? c = some o → h''.get? c = some o := fun c o hn e => by
        have n1 : c ≠ z := fun q => hn (by simp [q])
        have n2 : c ≠ TO := fun q => hn (by simp [q])
        have n3 : c ≠ i1 := fun q => hn (by simp [q])
        have n4 : c ≠ i2 := fun q => hn (by simp [q])
        exact mv c o n1 (hk c o n1 n2 n3 n4 e)
      have new : ObjOk X.prog X.w (upd H s.heap.objs.size (.tup [x, y])) h'' s.heap.objs.size (.tup [x, y]) :=
        ⟨by show 2 ≤ sizeLine; decide, [v, v2], .cons ru (.cons ru2 .nil), ⟨_, mv _ _ (Nat.ne_of_gt hzl) hT, rfl, _, rfl⟩⟩
      have J : Inv X pins σ (upd H s.heap.objs.size (.tup [x, y])) { s with heap := h'', toks := tk } := I.turnedNew (t' := tk) (ch := [z, TI, TO, i1, i2]) kk2 hf (Nat.le_refl _) new
      have TIi : TI ≠ z ∧ TI ≠ TO ∧ TI ≠ i1 ∧ TI ≠ i2 := ⟨S.TIz, S.TITO, S.TIi1, S.TIi2⟩
      refine ⟨.ref s.heap.objs.size, _, J, rfl, ⟨_, x, y, rfl, I.hok.fresh (Nat.le_refl _), rfl, fun l hl => by rw [inv_injK I hl hqx]; exact hx, fun l hl => by rw [inv_injK I hl hqy]; exact hy⟩,
        ⟨zz, mv TI _ TIi.1 (hk TI _ TIi.1 TIi.2.1 TIi.2.2.1 TIi.2.2.2 q2), ⟨v, v2, mv TO _ S.TOz z3⟩, z4.1.mv fun o => mv i1 o (Ne.symm S.zi1), z5.1.mv fun o => mv i2 o (Ne.symm S.zi2)⟩, fun c hcm => ?_⟩
      obtain ⟨o, eo, _⟩ := there c hcm
      rw [upd_ne (Nat.ne_of_lt (Heap.lt_size eo))]
      exact (hf c hcm).1
  done := by
    intro X hP hw hK hc i pins s σ H E I hf st hg
    subst hP hw hK
    obtain ⟨q1, q2, ⟨x0, y0, q3⟩, q4, q5⟩ := st
    obtain ⟨xs, ys, hqx, hqy, l1, l2, hend⟩ := hg
    obtain ⟨its, rv, p⟩ := inv_seqK I hqx
    obtain ⟨its2, rv2, p2⟩ := inv_seqK I hqy
    have e1 : its.toArray.size = xs.length := by rw [List.size_toArray]; exact rv.length.symm
    have e2 : its2.toArray.size = ys.length := by rw [List.size_toArray]; exact rv2.length.symm
    have hh : X.A.in1.handled = none := I.ok.hd hc
    have D1 := drawsK (prog := X.prog) (w := X.w) (A := X.A.in1) hh b1 i1 a ha its.toArray
    have D2 := drawsK (prog := X.prog) (w := X.w) (A := X.A.in1) hh b2 i2 b hb its2.toArray
    refine wpAny_pyNext_zipD2_end S D1 D2 q1 q2 q3 ⟨q4, p⟩ ⟨q5, p2⟩ (by rw [e1]; exact l1) (by rw [e2]; exact l2) (by rw [e1, e2]; exact hend) fun h' tk hk => ⟨rfl, ?_⟩
    exact I.turnedL (t' := tk) (ch := [z, TI, TO, i1, i2]) (fun c o hn e => hk c o (fun q => hn (by simp [q])) (fun q => hn (by simp [q])) (fun q => hn (by simp [q])) (fun q => hn (by simp [q])) e) hf
  self := fun A i s Q E st h => wpAny_pyIter_zip st.1 h
def iZipK (K : PySem.W.Frag) (ta : TA) : TI := fun σ H R => ta σ H fun vs H1 => ∃ a b xs ys b1 b2, vs = [.ref a, .ref b] ∧ SqK b1 K H1 a xs ∧ SqK b2 K H1 b ys ∧ R (ItzK K b1 b2 a b) H1
theorem pi_zipK {X : Cx} {e e2 : Expr} {ta : TA} {p pos tpos : Pos} {elts : List Expr} {kk : Nat} (hg : Gl X "zip") (hm : X.mg "zip" = none) (ha : PA X [e, e2] ta)
    (hs : starEach [e, e2] X.env = (false, eval e X.env) :: starEach [e2] X.env) (hpl : (backTo pos (starEach [e2] X.env)).any (·.1) = false) :
    PI X (.Tuple elts kk tpos) (.Call (.Name "zip" p) [e, e2] [] pos) (iZipK X.K ta) := by
  refine ⟨fun pins s σ H R I h => ?_⟩
  refine PyProof.Rows.Call_ (ld_blt I hg hm PyProof.Rows.boot_zip (PyProof.Rows.callWith_type1 (thn (ha.run pos pins s σ H _ I h) fun us s1 ⟨vs, H1, I1, r1, q1⟩ => ?_) hs hpl))
  obtain ⟨a, b, xs, ys, b1, b2, rfl, hqx, hqy, q⟩ := q1
  obtain ⟨u1, u2, rfl, ra, rb⟩ := vals2 r1
  cases (show u1 = Value.ref a from ra)
  cases (show u2 = Value.ref b from rb)
  obtain ⟨its, rv, p1⟩ := inv_seqK I1 hqx
  obtain ⟨its2, rv2, p2⟩ := inv_seqK I1 hqy
  have la := p1.lt
  have lb := p2.lt
  refine zip_begins2 (beginsK b1 a its.toArray) (beginsK b2 b its2.toArray) p1 p2 fun h' g1 g2 g3 g4 g5 hsz hk => wpAny_pyIter_zip g1 ?_
  have J : Inv X pins σ H1 { s1 with heap := h' } := I1.kept (t' := s1.toks) hk
  refine ⟨s1.heap.objs.size + 4, [s1.heap.objs.size + 4, s1.heap.objs.size + 2, s1.heap.objs.size + 3, s1.heap.objs.size, s1.heap.objs.size + 1], _, _, H1, rfl, J,
    turnK (zip_sep2 (N := s1.heap.objs.size) (fp1 := [a]) (fp2 := [b]) (fun c hc => by rw [List.mem_singleton.mp hc]; exact la) fun c hc => by rw [List.mem_singleton.mp hc]; exact lb) (Nat.ne_of_lt la) (Nat.ne_of_lt (Nat.lt_succ_of_lt lb)),
    ⟨g1, g2, ⟨_, _, g3⟩, itrK_new g4, itrK_new g5⟩, fun c hc => ?_, q⟩
  have hle : s1.heap.objs.size ≤ c := by
    rcases mem5 hc with rfl | rfl | rfl | rfl | rfl
    · exact Nat.le_add_right _ _
    · exact Nat.le_add_right _ _
    · exact Nat.le_add_right _ _
    · exact Nat.le_refl _
    · exact Nat.le_add_right _ _
  exact I1.fpOk hle (I1.hok.fresh hle)
def seqOf : PyData → Rs (Bool × List PyData)
  | .list ds => .ok (true, ds)
  | .tuple ds => .ok (false, ds)
  | _ => .stuck
/-- zip: lists or tuples -/
def zipM : List PyData → Rs (List PyData)
  | [.list xs, .list ys] => .ok (zipL xs ys)
  | [.tuple xs, .tuple ys] => .ok (zipL xs ys)
  | [.list xs, .tuple ys] => .ok (zipL xs ys)
  | [.tuple xs, .list ys] => .ok (zipL xs ys)
  | _ => .stuck
theorem zipM_ok {ds rs : List PyData} (h : zipM ds = .ok rs) : ∃ b1 b2 xs ys, ds = [seqD b1 xs, seqD b2 ys] ∧ rs = zipL xs ys := by
  unfold zipM at h
  split at h
  · cases h; exact ⟨true, true, _, _, rfl, rfl⟩
  · cases h; exact ⟨false, false, _, _, rfl, rfl⟩
  · cases h; exact ⟨true, false, _, _, rfl, rfl⟩
  · cases h; exact ⟨false, true, _, _, rfl, rfl⟩
  · cases h
theorem seqD_v {b : Bool} {K : PySem.W.Frag} {G : Hp} {v : V} {ds : List PyData} (h : Dp K G v (seqD b ds)) : ∃ a xs, v = .ref a ∧ SqK b K G a xs ∧ DpAll K G xs ds := by
  cases b with
  | true => exact Dp.list_v h
  | false => exact Dp.tuple_v h
section
variable {ca : Nat → Addr} {X : Cx} {E : XK} {e e2 : Expr} {ta : TA} {Fs : Env → Rs (List PyData)} {p pos tpos : Pos} {elts : List Expr} {kk : Nat}
theorem ji_zipM {b : Bool} (ha : JA ca X E [e, e2] ta Fs) (hm : X.mg "zip" = none) (hg : Gl X "zip" := by rfl) (hs : starEach [e, e2] X.env = (false, eval e X.env) :: starEach [e2] X.env := by rfl) (hpl : (backTo pos (starEach [e2] X.env)).any (·.1) = false := by rfl) :
    JI ca X E b (.Tuple elts kk tpos) (.Call (.Name "zip" p) [e, e2] [] pos) (iZipK X.K ta) (fIt zipM Fs) :=
  ⟨pi_zipK hg hm ha.pa hs hpl, fun G H ρ σ rep hns R ok er => ha.sem.use rep hns er fun d ed e1 G' H' v n r q hk _ => by
    have q : DpAll X.K G' v d := q
    cases h2 : zipM d with
    | stuck => exact absurd h2 hk
    | err x => unfold zipM at h2; split at h2 <;> cases h2
    | ok rs =>
      obtain ⟨b1, b2, xs, ys, rfl, rfl⟩ := zipM_ok h2
      have hlen : (zipL xs ys).length = min xs.length ys.length := by unfold zipL; exact List.length_zipWith
      match v, q with
      | _, .cons w1 (.cons w2 .nil) =>
        obtain ⟨a, vs, rfl, ha1, aa⟩ := seqD_v w1
        obtain ⟨c, ws, rfl, hb1, ab⟩ := seqD_v w2
        have la := DpAll.length aa
        have lb := DpAll.length ab
        refine ⟨a, c, vs, ws, b1, b2, rfl, ha1.ex n.gh, hb1.ex n.gh, ok _ (e1.trans h2) G' H' _ n ⟨fun H => SqK b1 X.K H a vs ∧ SqK b2 X.K H c ws, fun G2 H2 z1 z2 _ => ⟨(ha1.ex z1).ex z2, (hb1.ex z1).ex z2⟩, fun i H hi g => ?_, fun H g => ?_, fun i G2 H2 x H3 d hd g z1 z2 hy => ?_⟩⟩
        · rw [hlen] at hi
          have l1 : i < vs.length := by omega
          have l2 : i < ws.length := by omega
          exact ⟨vs, ws, vs[i], ws[i], g.1, g.2, List.getElem?_eq_getElem l1, List.getElem?_eq_getElem l2⟩
        · exact ⟨vs, ws, g.1, g.2, by rw [hlen]; omega, by rw [hlen]; omega, by rw [hlen]; omega⟩
        · obtain ⟨c1, c2, f1, f2, rfl⟩ := zipL_get hd
          obtain ⟨T, x1, y1, rfl, hT, e3, e4, e5⟩ := hy
          obtain ⟨d1, k1, k2⟩ := DpAll.get aa (e4 vs g.1)
          obtain ⟨d2, k3, k4⟩ := DpAll.get ab (e5 ws g.2)
          rw [f1] at k1
          rw [f2] at k3
          cases k1
          cases k3
          exact pair_new z2 hT e3 (Dp.ex z1 k2) (Dp.ex z1 k4)⟩
end
@[simp] theorem z_zipLL (xs ys : List PyData) : zipM [.list xs, .list ys] = .ok (zipL xs ys) := rfl
@[simp] theorem z_zipTT (xs ys : List PyData) : zipM [.tuple xs, .tuple ys] = .ok (zipL xs ys) := rfl
@[simp] theorem z_zipLT (xs ys : List PyData) : zipM [.list xs, .tuple ys] = .ok (zipL xs ys) := rfl
@[simp] theorem z_zipTL (xs ys : List PyData) : zipM [.tuple xs, .list ys] = .ok (zipL xs ys) := rfl
end PF
namespace PF
open PySem L2
/-! ### a list of our own is lent: what comes back holds no list -/
mutual
def lfree : PyData → Bool
  | .list _ => false
  | .dict _ => false
  | .tuple ds => lfreeAll ds
  | _ => true
def lfreeAll : List PyData → Bool
  | [] => true
  | d :: ds => lfree d && lfreeAll ds
end
def rmH (G : Hp) (p : Addr) : Hp := fun b => if b = p then none else G b
theorem rmH_ne {G : Hp} {p b : Addr} (h : b ≠ p) : rmH G p b = G b := if_neg h
theorem rmH_some {G : Hp} {p b : Addr} {o : HO} (h : rmH G p b = some o) : G b = some o ∧ b ≠ p := by
  unfold rmH at h
  split at h
  · cases h
  · exact ⟨h, by assumption⟩
theorem sqt_rm {K : PySem.W.Frag} {G : Hp} {p a : Addr} {xs zs : List V} (hp : G p = some (.lst zs)) (h : SqT K G a xs) : SqT K (rmH G p) a xs := by
  rcases h with h | h
  · have hne : a ≠ p := fun z => by
      subst z
      rcases h with h | ⟨o, h⟩
      · rw [hp] at h; cases h
      · rw [hp] at h; cases h
    rcases h with h | ⟨o, h⟩
    · exact .inl (.inl (by rw [rmH_ne hne]; exact h))
    · exact .inl (.inr ⟨o, by rw [rmH_ne hne]; exact h⟩)
  · exact .inr h
theorem tup_rm {G : Hp} {p a : Addr} {xs zs : List V} (hp : G p = some (.lst zs)) (h : G a = some (.tup xs)) : rmH G p a = some (.tup xs) := by
  rw [rmH_ne (fun z => by subst z; rw [hp] at h; cases h)]
  exact h
mutual
theorem dp_rm {K : PySem.W.Frag} {G : Hp} {p : Addr} {zs : List V} (hp : G p = some (.lst zs)) : ∀ {v : V} {d : PyData}, lfree d = true → Dp K G v d → Dp K (rmH G p) v d
  | _, _, _, .non => .non
  | _, _, _, .bl b => .bl b
  | _, _, _, .int i => .int i
  | _, _, _, .str x => .str x
  | _, _, hl, .lst h a => by simp [lfree] at hl
  | _, _, hl, .tup h a => .tup (tup_rm hp h) (dps_rm hp (by simpa [lfree] using hl) a)
theorem dps_rm {K : PySem.W.Frag} {G : Hp} {p : Addr} {zs : List V} (hp : G p = some (.lst zs)) : ∀ {vs : List V} {ds : List PyData}, lfreeAll ds = true → DpAll K G vs ds → DpAll K (rmH G p) vs ds
  | _, _, _, .nil => .nil
  | _, _, hl, .cons h a => by
    simp only [lfreeAll, Bool.and_eq_true] at hl
    exact .cons (dp_rm hp hl.1 h) (dps_rm hp hl.2 a)
end
def slFree : Sl → Bool
  | .sh d => lfree d
  | .ol ds => lfreeAll ds
  | _ => false
def lendCk (s : Sl) : Rs Sl := if slFree s = true then .ok s else .stuck
def fLend (i : Nat) (F : Env → Rs Sl) : Env → Rs Sl := fun ρ => match ρ[i]? with
  | some (.ol _) => F (fz1 i ρ) >>= lendCk
  | _ => F ρ
theorem fz_rep0 {c : Pc} {G H : Hp} {ρ : Env} {σ : L2.St} {i : Nat} {ds : List PyData} {p : Addr} {xs : List V} (rep : Rep c G H ρ σ) (hs : ρ[i]? = some (.ol ds)) (e1 : σ[i]? = some (some (.ref p))) (gp : G p = none) (hp : H p = some (.lst xs)) (q : DpAll c.K G xs ds) : Rep c (upd G p (.lst xs)) H (fz1 i ρ) σ := by
  have ef : fz1 i ρ = ρ.set i (.sh (.list ds)) := by unfold fz1; rw [hs]; rfl
  rw [ef]
  have x : Ex G (upd G p (.lst xs)) := Ex.new gp
  have gh : Ex (upd G p (.lst xs)) H := fun a u e => by
    by_cases ha : a = p
    · rw [ha, upd_same] at e
      cases e
      rw [ha]
      exact hp
    · rw [upd_ne ha] at e
      exact rep.gh a u e
  refine ⟨gh, by rw [List.length_set, rep.len], fun j u e => ?_, fun j k u u' r a1 a2 w1 w2 f1 f2 => ?_⟩
  · rw [List.getElem?_set] at e
    by_cases hij : i = j
    · rw [if_pos hij] at e
      split at e
      · cases e
        rw [← hij]
        exact ⟨_, e1, _, rfl, .lst (.inl (.inl upd_same)) (DpAll.ex x q)⟩
      · cases e
    · rw [if_neg hij] at e
      obtain ⟨o, e2, q2⟩ := rep.sl j u e
      refine ⟨o, e2, ?_⟩
      have ne : ∀ b, o = some (.ref b) → u.own = true → b ≠ p := fun b eb hu z => by
        subst z
        rw [eb] at e2
        exact hij (rep.inj i j _ u b hs e rfl hu e1 e2)
      cases u with
      | no => trivial
      | sh d => obtain ⟨v, z1, z2⟩ := q2; exact ⟨v, z1, Dp.ex x z2⟩
      | ol es => obtain ⟨b, ys, z1, g1, z2, z3⟩ := q2; exact ⟨b, ys, z1, by rw [upd_ne (ne b z1 rfl)]; exact g1, z2, DpAll.ex x z3⟩
      | od es => obtain ⟨b, ys, z1, g1, z2, z3⟩ := q2; exact ⟨b, ys, z1, by rw [upd_ne (ne b z1 rfl)]; exact g1, z2, KvOk.ex x z3⟩
      | exn y => obtain ⟨v, z1, z2⟩ := q2; exact ⟨v, z1, z2.ex x⟩
  · have old : ∀ (m : Nat) t, (ρ.set i (.sh (.list ds)))[m]? = some t → t.own = true → ρ[m]? = some t := fun m t e ht => by
      rw [List.getElem?_set] at e
      by_cases him : i = m
      · rw [if_pos him] at e
        split at e <;> cases e
        cases ht
      · rw [if_neg him] at e
        exact e
    exact rep.inj j k u u' r (old j u a1 w1) (old k u' a2 w2) w1 w2 f1 f2
theorem sem_lend {c : Pc} {E : XK} {t : TE} {F : Env → Rs Sl} (i : Nat) (h : SemG c E t F (RV c)) : SemG c E t (fLend i F) (RV c) := by
  intro G H ρ σ rep hns Q ok er
  cases hs : ρ[i]? with
  | none =>
    have e : fLend i F ρ = F ρ := by unfold fLend; rw [hs]
    rw [e] at hns er
    exact h G H ρ σ rep hns Q (fun a ea => ok a (e.trans ea)) er
  | some s =>
    cases s with
    | ol ds =>
      have e : fLend i F ρ = (F (fz1 i ρ) >>= lendCk) := by unfold fLend; rw [hs]
      rw [e] at hns er
      obtain ⟨o, e1, p, xs, rfl, gp, hp, q⟩ := rep.sl i _ hs
      have rep1 := fz_rep0 rep hs e1 gp hp q
      have back : ∀ G' H', Nx (upd G p (.lst xs)) H G' H' → G' p = some (.lst xs) ∧ Nx G H (rmH G' p) H' := fun G' H' n => by
        have gp' : G' p = some (.lst xs) := n.g p _ upd_same
        refine ⟨gp', fun a u ea => ?_, n.h, fun a u ea => n.gh a u (rmH_some ea).1, fun a ha ga => ?_⟩
        · have hne : a ≠ p := ne_of_none ea gp
          rw [rmH_ne hne]
          exact n.g a u (by rw [upd_ne hne]; exact ea)
        · by_cases hap : a = p
          · exact .inl (by unfold rmH; rw [if_pos hap])
          · rw [rmH_ne hap]
            exact n.fr a ha (by rw [upd_ne hap]; exact ga)
      refine h (upd G p (.lst xs)) H _ σ rep1 (fun z => hns (by rw [z]; rfl)) Q (fun s es G' H' v n r => ?_) fun x ex G' H' cl dd n xr => ?_
      · obtain ⟨gp', n'⟩ := back G' H' n
        have hf : slFree s = true := by
          by_cases hf : slFree s = true
          · exact hf
          · exfalso
            apply hns
            rw [es]
            exact if_neg hf
        refine ok s (e.trans (by rw [es]; exact if_pos hf)) (rmH G' p) H' v n' ?_
        cases s with
        | sh d => exact dp_rm gp' hf r
        | ol es' =>
          obtain ⟨p2, ys, rfl, h0, g1, h1, r⟩ := r
          have hne : p2 ≠ p := fun z => by rw [z, hp] at h0; cases h0
          exact ⟨p2, ys, rfl, h0, by rw [rmH_ne hne]; exact g1, h1, dps_rm gp' hf r⟩
        | no => cases hf
        | od kvs => cases hf
        | exn x => cases hf
      · obtain ⟨gp', n'⟩ := back G' H' n
        refine er x (by rw [ex]; rfl) (rmH G' p) H' cl dd n' ?_
        obtain ⟨x1, x2⟩ := xr
        refine ⟨x1, ?_⟩
        cases hpl : x.place with
        | none => rw [hpl] at x2; exact x2
        | some pl =>
          rw [hpl] at x2
          obtain ⟨d, y1, y2⟩ := x2
          have hne : d ≠ p := fun z => by rw [z, gp'] at y2; cases y2
          exact ⟨d, y1, by rw [rmH_ne hne]; exact y2⟩
    | no =>
      have e : fLend i F ρ = F ρ := by unfold fLend; rw [hs]
      rw [e] at hns er
      exact h G H ρ σ rep hns Q (fun a ea => ok a (e.trans ea)) er
    | sh d =>
      have e : fLend i F ρ = F ρ := by unfold fLend; rw [hs]
      rw [e] at hns er
      exact h G H ρ σ rep hns Q (fun a ea => ok a (e.trans ea)) er
    | od d =>
      have e : fLend i F ρ = F ρ := by unfold fLend; rw [hs]
      rw [e] at hns er
      exact h G H ρ σ rep hns Q (fun a ea => ok a (e.trans ea)) er
    | exn d =>
      have e : fLend i F ρ = F ρ := by unfold fLend; rw [hs]
      rw [e] at hns er
      exact h G H ρ σ rep hns Q (fun a ea => ok a (e.trans ea)) er
theorem jv_lend {ca : Nat → Addr} {X : Cx} {E : XK} {e : Expr} {t : TE} {F : Env → Rs Sl} (i : Nat) (h : JV ca X E e t F) : JV ca X E e t (fLend i F) := ⟨h.pe, sem_lend i h.sem⟩
end PF

namespace PF
/-! the error classes that the linked program has -/
abbrev eOk (i : Nat) : Prop := i < 6
end PF

namespace PF
open PySem L2

/-! ### own errors -/
/-- what the written part tells of one error class -/
structure Ecl (K : PySem.W.Frag) (mg : Str → Option Value) (x : Str) (C : Addr) : Prop where
  g : mg x = some (.ref C)
  k : PySem.W.keepIn K (.ref C) = true
  b : PySem.W.subIn K (.ref C) (.type "BaseException") = some true
  t : PySem.W.typeIn K (.ref C) = some (.type "type")
  i : PySem.W.isClsIn K C = true
  ga : PySem.W.findIn K (.ref C) "__getattribute__" = some (some (.builtin "BaseException.__getattribute__"))
  gg : PySem.W.findIn K (.ref C) "__getattr__" = some none
  ha : PySem.W.findIn K (.ref C) "__class__" = some (some (.builtin "object.__class__"))
  hd : PySem.W.hasDictIn K C = true
  hm : PySem.W.mroIn K C (.type "object") = some true
  sv : PySem.W.subIn K (.ref C) (.type "ValueError") = some true
  sn : PySem.W.subIn K (.type "NoneType") (.ref C) = some false
def eNm : Nat → Str
  | 0 => "WallError"
  | 1 => "NoNumber"
  | 2 => "NoLand"
  | 3 => "NoPlace"
  | 4 => "NoFace"
  | _ => "NoWall"
/-- is an error of class i one of class j -/
def eSub (i j : Nat) : Bool := i == j || j == 0
/-- all of them -/
structure EX (K : PySem.W.Frag) (mg : Str → Option Value) (ca : Nat → Addr) : Prop where
  cl : ∀ i, eOk i → Ecl K mg (eNm i) (ca i)
  sb : ∀ i j, eOk i → eOk j → PySem.W.subIn K (.ref (ca i)) (.ref (ca j)) = some (eSub i j)
  hn : PySem.W.specialIn K (.builtin "object.__class__") "__get__" = some (some (.builtin "getset_descriptor.__get__"))
  ht : PySem.W.takesIn K (.builtin "object.__class__") = some true
  x : ∀ i, eOk i → i < 5 → PySem.W.excIn K (ca i) [.type "ValueError", .type "Exception", .type "BaseException", .type "object"] "ValueError.__new__" = true
section
variable {K : PySem.W.Frag} {mg : Str → Option Value} {ca : Nat → Addr}
theorem EX.exm (T : EX K mg ca) {i : Nat} (hi : eOk i) : PySem.W.exmOne K (.ref (ca i)) (.ref (ca 0)) = some true := by
  have c := T.cl 0 (by decide)
  have e1 : (PySem.W.subIn K (.ref (ca 0)) (.type "BaseException") == some true) = true := by rw [c.b] <;> rfl
  have e2 : ((PySem.W.clsIn K (ca 0)).isSome && PySem.W.typeIn K (.ref (ca 0)) == some (.type "type")) = true := by
    have h2 : (PySem.W.clsIn K (ca 0)).isSome = true := c.i
    rw [h2, c.t] <;> rfl
  have e3 := T.sb i 0 hi (by decide)
  show (if (PySem.W.subIn K (.ref (ca 0)) (.type "BaseException") == some true) = true then (if ((PySem.W.clsIn K (ca 0)).isSome && PySem.W.typeIn K (.ref (ca 0)) == some (.type "type")) = true then PySem.W.subIn K (.ref (ca i)) (.ref (ca 0)) else none) else none) = some true
  rw [if_pos e1, if_pos e2, e3]
  unfold eSub
  simp
theorem kitOne_of {t c : Value} {b : Bool} (h : PySem.W.kitCls K t c = some b) (hb : t = c → b = true) : PySem.W.kitOne K t c = some b := by
  unfold PySem.W.kitOne
  by_cases e : (t == c) = true
  · rw [if_pos e, hb (eq_of_beq e)]
  · rw [if_neg e, h]
theorem kitCls_ref {t : Value} {C : Addr} {b : Bool} (h1 : PySem.W.isClsIn K C = true) (h2 : PySem.W.typeIn K (.ref C) = some (.type "type")) (h : PySem.W.subIn K t (.ref C) = some b) : PySem.W.kitCls K t (.ref C) = some b := by
  have e2 : ((PySem.W.clsIn K C).isSome && PySem.W.typeIn K (.ref C) == some (.type "type")) = true := by
    have h1' : (PySem.W.clsIn K C).isSome = true := h1
    rw [h1', h2] <;> rfl
  show (if ((PySem.W.clsIn K C).isSome && PySem.W.typeIn K (.ref C) == some (.type "type")) = true then PySem.W.subIn K t (.ref C) else none) = some b
  rw [if_pos e2, h]
theorem EX.kit (T : EX K mg ca) {i j : Nat} (hi : eOk i) (hj : eOk j) : PySem.W.kitOne K (.ref (ca i)) (.ref (ca j)) = some (eSub i j) := by
  have c := T.cl j hj
  refine kitOne_of (kitCls_ref c.i c.t (T.sb i j hi hj)) fun e => ?_
  have e' : ca i = ca j := Value.ref.inj e
  have z1 := T.sb i j hi hj
  have z2 := T.sb j j hj hj
  rw [e', z2] at z1
  have z3 := Option.some.inj z1
  rw [← z3]
  unfold eSub
  simp
theorem EX.kitN (T : EX K mg ca) {j : Nat} (hj : eOk j) : PySem.W.kitOne K (.type "NoneType") (.ref (ca j)) = some false :=
  have c := T.cl j hj
  kitOne_of (kitCls_ref c.i c.t c.sn) fun e => nomatch e
theorem EX.kitV (T : EX K mg ca) {i : Nat} (hi : eOk i) : PySem.W.kitOne K (.ref (ca i)) (.type "ValueError") = some true := by
  have c := T.cl i hi
  refine kitOne_of ?_ fun e => nomatch e
  show (if PySem.W.kitMeta "ValueError" = true then PySem.W.subIn K (.ref (ca i)) (.type "ValueError") else none) = some true
  rw [if_pos (by decide +kernel), c.sv]
theorem kitNV : PySem.W.kitOne K (.type "NoneType") (.type "ValueError") = some false := kit_ty (by decide +kernel)
end

/-! ### a held error is laid -/
theorem excO_ok {P : Program} {w : World} {H : Hp} {h : Heap} {C a : Addr} {d : Option Addr} {oe : Obj} {vs : Array Value} (e : h.get? a = some oe) (z : Zc (.ref C) d oe) (hd : oe.data = .fields vs) : ObjOk P w H h a (excO C d a) :=
  ⟨⟨oe, vs, e, z.1, z.2, hd⟩, ⟨oe, e⟩, fun _ _ ⟨o, v, q, r⟩ k => ⟨o, v, k o q, r⟩⟩
section
variable {X : Cx} {pins : List (Addr × Obj)} {σ : St} {H : Hp} {s : Shared}
theorem inv_lay {a : Addr} {oe : Obj} {o : HO} (I : Inv X pins σ H s) (n0 : X.s_0.heap.get? a = none) (hn : H a = none) (e : s.heap.get? a = some oe) (nL : a ≠ X.env.locals) (nC : ∀ v, oe.data ≠ .cell v) (np : ∀ p ∈ X.pn ++ pins, p.1 ≠ a)
    (new : ObjOk X.prog X.w (upd H a o) s.heap a o) : Inv X pins σ (upd H a o) s := by
  refine ⟨I.ok, I.os, I.bare, ⟨I.base.keep, I.base.slot, fun b u e1 n hx => ?_, I.base.there, fun b xs q => ?_, fun b u xs q => ?_, fun b ps q => ?_⟩, I.loc, I.cell, ?_, fun x c ec => ?_, fun p hp => ?_, I.hok.laidN (fun _ _ z => z) hn new, I.len⟩
  · rw [upd_ne (fun z => by rw [z, n0] at e1; cases e1)]
    exact I.base.free b u e1 n hx
  · have z := I.base.tups b xs q
    rw [upd_ne (ne_of_none z hn)]
    exact z
  · have z := I.base.frzs b u xs q
    rw [upd_ne (ne_of_none z hn)]
    exact z
  · obtain ⟨m, z⟩ := I.base.tbls b ps q
    exact ⟨m, by rw [upd_ne (ne_of_none z hn)]; exact z⟩
  · rw [upd_ne (Ne.symm nL)]
    exact I.free
  · obtain ⟨v, o', ho, hd⟩ := I.cell x c ec
    rw [upd_ne (fun z => by rw [z, e] at ho; cases ho; exact nC v hd)]
    exact I.freeC x c ec
  · obtain ⟨q1, q2, q3⟩ := I.pin p hp
    exact ⟨q1, by rw [upd_ne (np p hp)]; exact q2, q3⟩
theorem inv_suite0 {a : Addr} (I : Inv X pins σ H s) : Inv (X.suite a (X.pn ++ pins)) [] σ H s :=
  ⟨I.ok.suite _ _, I.os, I.bare, I.base, I.loc, I.cell, I.free, I.freeC, fun p hp => I.pin p (by rw [List.append_nil] at hp; exact hp), I.hok, I.len⟩
theorem inv_unsuite0 {a : Addr} {pn' : List (Addr × Obj)} (I : Inv (X.suite a (X.pn ++ pins)) pn' σ H s) (ok : X.Ok) : Inv X pins σ H s :=
  ⟨ok, I.os, I.bare, I.base, I.loc, I.cell, I.free, I.freeC, fun p hp => I.pin p (List.mem_append_left _ hp), I.hok, I.len⟩
end
/-- what the clause 'except x as n' wishes, where the error is kept: slot i is n's -/
def wKeep (K : PySem.W.Frag) (c : Value) (i : Nat) (ts : TS) (D : Ends) : WX := fun cls d σ H =>
  PySem.W.exmOne K cls c = some true ∧ ∃ C, cls = .ref C ∧ ∀ a, H a = none → ts { nx := fun σ' H' => D.nx (σ'.set i none) H', rt := D.rt, bk := fun σ' H' => D.bk (σ'.set i none) H', ct := fun σ' H' => D.ct (σ'.set i none) H' } (σ.set i (some (.ref a))) (upd H a (excO C d a))
section
variable {X : Cx} {x n : Str} {c : Value} {i : Nat} {body suite : List Stmt} {b₀ : Stmt} {np pos pos' : Pos} {tb : WX → TS} {ts : TS}
theorem ps_try_keep (hex : X.ex = []) (hs : X.stack = X.env :: X.outer) (hf : X.env.frame = some X.env.locals) (hN : X.N.Nodup) (hi : X.N[i]? = some n) (hln : X.env.kindOf n = some .local) (hc : Names X x c)
    (hb : ∀ (W : WX) (pn : List (Addr × Obj)) (xe : Value → Shared → Prop), Takes (X.tr pn xe) W → PassesOwn (model X.prog X.w) X.A X.env xe → PSs (X.tr pn xe) body (tb W))
    (hsu : ∀ (a : Addr) (pn : List (Addr × Obj)), PSs (X.suite a pn) (b₀ :: suite) ts) :
    PS X (.Try body [.ExceptHandler (some (.Name x np)) (some n) (b₀ :: suite) pos'] [] [] pos) (fun D σ H => tb (wKeep X.K c i ts D) D σ H) := by
  refine ⟨fun pins s σ H D I h => ?_⟩
  have ok := I.ok
  have hfr : X.A.frames = some (X.env :: X.outer) := by rw [ok.frames, hs]
  have hloc : Loc X.env.scope n := .inl hln
  refine wpAny_Try_except ?_
  refine wpAny_mono ((hb (wKeep X.K c i ts D) (X.pn ++ pins) (fun e s₁ => wpAny (model X.prog X.w) X.A (noteFrame e X.env) (fun _ s₂ => wpAny (model X.prog X.w) X.A (setFlight e none) (fun _ s₃ =>
    wpAny (model X.prog X.w) X.A (handleBy e X.env [.ExceptHandler (some (.Name x np)) (some n) (b₀ :: suite) pos']) (SP X pins D) X.xe s₃) X.xe s₂) X.xe s₁) (fun u s' xx => ?_) PassesOwn.looking).run [] s σ H D (I.toTry _) h) (fun f s1 hsp => ?_) (fun e s1 he => he)
  · obtain ⟨a, B, sI, pins', σ', H', cls, d, rfl, J', nb, up, sky, na, os, ag, hb1, C, rfl, hyes⟩ := xx
    have J : Inv X pins σ' H' sI := J'.ofTry ok
    have sky' : Sky B (X.env :: X.outer) a (Zc (.ref C) d) X.env.locals s'.heap := by rw [← hs]; exact sky
    show wpAny (model X.prog X.w) X.A (noteFrame (.ref a) X.env) _ _ _
    refine Sky.land Zc.steady hfr hf sky' fun h3 fl3 up3 => ?_
    have J3 : Inv X pins σ' H' { s' with heap := h3 } := J.landed nb fl3.1 (up.trans up3) os ag
    obtain ⟨oe3, vs3, he3, hz3, hd3⟩ := fl3.there
    have notFr : ∀ {h : Heap} {o : Obj} {vs : Array Value}, h.FunFrames B (X.env :: X.outer) → h.get? a = some o → o.data = .fields vs → a ∉ frs (X.env :: X.outer) := fun {h o vs} ff e dd hm => by
      obtain ⟨_, o', e', hnf⟩ := ff.mem hm
      rw [e] at e'; cases e'
      exact hnf _ dd
    have nfr := notFr fl3.2.2.1 he3 hd3
    have nL : a ≠ X.env.locals := fun z => nfr (List.mem_filterMap.mpr ⟨X.env, List.mem_cons_self, by rw [hf, z]⟩)
    have nI : sI.heap.get? a = none := by
      cases e : sI.heap.get? a with
      | none => rfl
      | some o =>
        have z := nb a o e (by rw [hs]; exact nfr)
        have z2 : B.get? a = none := fl3.2.1
        rw [z] at z2
        cases z2
    have n0 : X.s_0.heap.get? a = none := by
      cases e : X.s_0.heap.get? a with
      | none => rfl
      | some o =>
        obtain ⟨o', z⟩ := J.base.there a o e (by rw [hex]; exact fun z => nomatch z)
        rw [nI] at z
        cases z
    have npin : ∀ p ∈ X.pn ++ pins, p.1 ≠ a := fun p hp z => by
      have q := (J.pin p hp).1
      rw [z, nI] at q
      cases q
    have S3 : Inv (X.suite a (X.pn ++ pins)) [] σ' H' { s' with heap := h3 } := inv_suite0 J3
    refine wpAny_handleBy_cons (codeAny_handlers_test ?_) (by intro q; cases q)
    have LT : PySem.W.Looks (model X.prog X.w) h3 (typeOf (.ref a)) (.ref C) := fun A Q E s k q => wpAny_typeOf_ref (k _ _ he3) (by rw [hz3.1]; exact q)
    have LM := PySem.W.exm_one (M := model X.prog X.w) (J3.kIn) LT hb1
    have test : ∀ {Q : Value → Shared → Prop} {E : Value → Shared → Prop}, Q c { s' with heap := h3 } → wpAny (model X.prog X.w) (X.A.mark (some (.ref a))) (eval (.Name x np) X.env) Q E { s' with heap := h3 } := fun {Q E} q => by
      obtain ⟨hg, hdbg, hm | ⟨hm, hv, hnn⟩⟩ := hc
      · exact ld_glob (X := X.suite a (X.pn ++ pins)) S3 hg hm q hdbg
      · exact ld_blt (X := X.suite a (X.pn ++ pins)) S3 hg hm hv q hnn hdbg
    refine test (LM.here ?_)
    refine codeAny_handlers_suite_as ?_
    refine HandSPX.lands_againZ fl3 fun h4 fl4 up4 => ?_
    have J4 : Inv X pins σ' H' { s' with heap := h4 } := J.landed nb fl4.1 ((up.trans up3).trans up4) os ag
    obtain ⟨oe4, vs4, he4, hz4, hd4⟩ := fl4.there
    have J5 : Inv X pins σ' (upd H' a (excO C d a)) { s' with heap := h4 } := inv_lay J4 n0 na he4 nL (fun v z => by rw [hd4] at z; cases z) npin (excO_ok he4 hz4 hd4)
    have S4 : Inv (X.suite a (X.pn ++ pins)) [] σ' (upd H' a (excO C d a)) { s' with heap := h4 } := inv_suite0 J5
    refine store_ok (X := X.suite a (X.pn ++ pins)) (v := .ref a) S4 hN hi hloc rfl (fun s5 S5 => ?_) (.inr hln)
    refine wpAny_mono ((hsu a (X.pn ++ pins)).run [] s5 _ _ _ S5 (hyes a na)) (fun f s6 hsp => ?_) (fun _ _ z => False.elim z)
    have end_ : ∀ {σ6 : St} {H6 : Hp} {Q : Shared → Prop}, Inv (X.suite a (X.pn ++ pins)) [] σ6 H6 s6 → (∀ s7, Inv X pins (σ6.set i none) H6 s7 → Q s7) →
        wpAny (model X.prog X.w) X.A (do bindName X.env n .none; unbindBehindTheSuite X.env n pos') (fun _ s7 => Q s7) X.xe s6 := fun {σ6 H6 Q} S6 hq => gone_ok (inv_unsuite0 S6 ok) hN hi hln hq
    cases f with
    | next =>
      obtain ⟨σ6, H6, S6, q6⟩ := hsp
      exact end_ S6 fun s7 J7 => ⟨_, _, J7, q6⟩
    | brk =>
      obtain ⟨σ6, H6, S6, q6⟩ := hsp
      exact end_ S6 fun s7 J7 => ⟨_, _, J7, q6⟩
    | cont =>
      obtain ⟨σ6, H6, S6, q6⟩ := hsp
      exact end_ S6 fun s7 J7 => ⟨_, _, J7, q6⟩
    | ret u =>
      obtain ⟨v6, σ6, H6, S6, r6, q6⟩ := hsp
      exact end_ S6 fun s7 J7 => ⟨_, _, _, J7, r6, q6⟩
  · cases f with
    | next =>
      obtain ⟨σ', H', J', q⟩ := hsp
      exact wpAny_execs_nil ⟨σ', H', J'.ofTry ok, q⟩
    | brk =>
      obtain ⟨σ', H', J', q⟩ := hsp
      exact ⟨σ', H', J'.ofTry ok, q⟩
    | cont =>
      obtain ⟨σ', H', J', q⟩ := hsp
      exact ⟨σ', H', J'.ofTry ok, q⟩
    | ret u =>
      obtain ⟨v, σ', H', J', r, q⟩ := hsp
      exact ⟨v, σ', H', J'.ofTry ok, r, q⟩
end
end PF

namespace PF
open PySem L2

/-! ### raise -/
section
variable {ca : Nat → Addr} {X : Cx} {E : XK}
theorem jp_raiseT (i : Nat) {x m : Str} {j : Nat} {p p2 pos pos2 : Pos} (T : EX X.K X.mg ca) (hc : X.calm = true) (tk : Takes X (fun cls d _ H => E cls d H)) (hg : Gl X x := by rfl) (hi : i < 5 := by decide) (hok : eOk i := by decide) (hx : eNm i = x := by rfl) (hdb : (x == ("__debug__" : Str)) = false := by decide) :
    JP ca X E (.Raise (some (.Call (.Name x p) [.Constant (.str m) j p2] [] pos)) none pos2) (fun _ σ H => E (.ref (ca i)) none H) (fun _ => .err ⟨i, none⟩) := by
  have c := T.cl i hok
  rw [hx] at c
  refine ⟨ps_raise hc tk (pmk_own PySem.F.excBase_ValueError (T.x i hok hi) c.g c.k (raises_own c.b c.t) hg hdb), fun G0 H0 G H ρ σ rep en hns D nx rt er => ?_⟩
  exact er ⟨i, none⟩ rfl G H _ _ en.nx ⟨rfl, rfl⟩
/-- NoWall's own __init__ -/
def spIni (C : Addr) : Sp := fun vs H Q _ => ∃ (a : Addr) (i : Int), vs = [.ref a, .int i] ∧ H a = some (exo a C none) ∧ ∀ dx, H dx = none → dx ≠ a → Q .non (upd (upd H dx (exd dx [(("place" : Str), .int i)])) a (exo a C (some dx)))
structure NW (P : Program) (w : World) (K : PySem.W.Frag) (mg : Str → Option Value) (base : Heap) (ca : Nat → Addr) : Prop where
  T : OexC K (ca 5)
  fn : ∃ (fI : Addr) (fd : FuncData), PySem.W.findIn K (.ref (ca 5)) "__init__" = some (some (.ref fI)) ∧ PySem.W.typeIn K (.ref fI) = some (.type "function") ∧ FnOk P w K mg base (L2.CX P w) 1 fI fd ["self", "place"] (spIni (ca 5)) ∧ Binds K fd ["self", "place"] []
theorem ok_ini {P : Program} {w : World} {K : PySem.W.Frag} {mg : Str → Option Value} {base : Heap} {C : Addr} {st : Stmt} {f : Addr} {fd : FuncData} {p1 p2 p3 p4 : Pos} (F : Fun K "__init__" "NoWall.__init__" st f fd) (S : FnScope ["self", "place"] ["self", "place"] (defScope st))
    (hb : defBody st = [.Assign [.Attribute (.Name "self" p1) "place" p2] (.Name "place" p3) p4]) (T : OexC K C) (no : PySem.W.findIn K (.ref C) "place" = some none)
    (ho : ∀ (cdv : Value) (A : Around) (outer : List PySem.Env) (s : Shared) (H : Hp) (E : XK), PSs (cxOf (L2.CX P w) P w K mg base ["self", "place"] "NoWall.__init__" (defScope st) f cdv A outer s H E) (defBody st) (tOst K "place" (tVar 0) (tVar 1))) : FnOk P w K mg base (L2.CX P w) 1 f fd ["self", "place"] (spIni C) := by
  refine F.okX S (fun vs H Q E h => ?_) (fun cdv A outer s H vs Q E hr h => ⟨tOst K "place" (tVar 0) (tVar 1), ho cdv A outer s H E, ?_⟩)
  · obtain ⟨a, i, rfl, _⟩ := h
    rfl
  · obtain ⟨a, i, rfl, ha, k⟩ := h
    exact ⟨_, rfl, _, rfl, a, C, rfl, T, no, .inl ⟨ha, fun dx h1 h2 => k dx h1 h2⟩⟩
theorem jp_raiseP {x : Str} {e : Expr} {te : TE} {Fe : Env → Rs PyData} {p pos pos2 : Pos} (T : EX X.K X.mg ca) (N : NW X.prog X.w X.K X.mg X.base ca) (hr : Room 2 X.A) (hc : X.calm = true) (tk : Takes X (fun cls d _ H => E cls d H)) (he : JS ca X E e te Fe) (hg : Gl X x := by rfl) (hx : eNm 5 = x := by rfl)
    (hdb : (x == ("__debug__" : Str)) = false := by decide) (hst : starEach [e] X.env = (false, eval e X.env) :: starEach [] X.env := by rfl) (hpl : (backTo pos (starEach [] X.env)).any (·.1) = false := by rfl) :
    JP ca X E (.Raise (some (.Call (.Name x p) [e] [] pos)) none pos2) (fun _ σ H => tMkO (ca 5) (spIni (ca 5)) [] (tCons te tNil) σ H fun cls d H' => E cls d H') (fun ρ => Fe ρ >>= fun d => intOf d >>= fun i => .err ⟨5, some i⟩) := by
  have c := T.cl 5 (by omega)
  rw [hx] at c
  obtain ⟨fI, fd, iC, tI, F1, hb⟩ := N.fn
  refine ⟨ps_raise hc tk (pmk_oex N.T iC tI F1 hr hb .nil passL hg c.g (pa_cons he.pe pa_nil hst) hdb hst hpl), fun G0 H0 G H ρ σ rep en hns D nx rt er => ?_⟩
  refine he.sem.use rep hns (fun x e G' H' cl dd n => er x e G' H' cl dd (en.nx.trans n)) fun d ed e1 G1 H1 v n1 r1 q1 hk er1 => ?_
  cases d with
  | int i =>
    cases Dp.int_v q1
    refine ⟨(by show 1 ≤ 1000; decide), fun a ha => ⟨a, i, rfl, upd_same, fun dx h1 h2 => ⟨rfl, dx, [(("place" : Str), .int i)], upd_same, ?_, ?_, ?_⟩⟩⟩
    · rw [upd_ne h2, upd_same]
    · rw [upd_ne h2] at h1
      exact h1
    · have hdx : H1 dx = none := by
        rw [upd_ne h2] at h1
        exact h1
      have fe : upd (L2.del (upd (upd (upd H1 a (exo a (ca 5) none)) dx (exd dx [(("place" : Str), .int i)])) a (exo a (ca 5) (some dx))) a) dx (.xd [(("place" : Str), .int i)]) = upd H1 dx (.xd [(("place" : Str), .int i)]) := by
        funext b
        by_cases hb : b = dx
        · rw [hb, upd_same, upd_same]
        · rw [upd_ne hb, upd_ne hb]
          by_cases hba : b = a
          · rw [hba, L2.del_same, ha]
          · rw [L2.del_ne hba, upd_ne hba, upd_ne hb, upd_ne hba]
      rw [fe]
      refine er ⟨5, some i⟩ e1 (upd G1 dx (.xd [(("place" : Str), .int i)])) _ _ _ (en.nx.trans (n1.trans (Nx.new n1.gh hdx))) ⟨rfl, dx, rfl, upd_same⟩
  | none => exact absurd rfl hk
  | bool i => exact absurd rfl hk
  | str i => exact absurd rfl hk
  | list i => exact absurd rfl hk
  | tuple i => exact absurd rfl hk
  | dict i => exact absurd rfl hk
end

/-! ### try -/
/-- the body of a try: calls whose value is dropped -/
structure JTB (ca : Nat → Addr) (X : Cx) (body : List Stmt) (tb : WX → TS) (F : Env → Rs Unit) : Prop where
  ps : ∀ (W : WX) (pn : List (Addr × Obj)) (xe : Value → Shared → Prop), Takes (X.tr pn xe) W → PassesOwn (model X.prog X.w) X.A X.env xe → PSs (X.tr pn xe) body (tb W)
  sem : ∀ (W : WX) (G H : Hp) (ρ : Env) (σ : L2.St), Rep ⟨X.K, ca⟩ G H ρ σ → F ρ ≠ .stuck → ∀ D : Ends, (F ρ = .ok () → ∀ G' H', Nx G H G' H' → D.nx σ H') → (∀ x, F ρ = .err x → ∀ G' H' cl dd, Nx G H G' H' → XR ⟨X.K, ca⟩ x cl dd G' → W cl dd σ H') → tb W D σ H
def fDrop (F : Env → Rs Sl) : Env → Rs Unit := fun ρ => F ρ >>= fun _ => .ok ()
theorem sem_callS {c : Pc} {E : XK} {f : List PyData → Rs Sl} {np : Nat} {t : TA} {F : Env → Rs (List PyData)} (h : SemG c E t F (RA c)) (hl : ∀ ds, f ds ≠ .stuck → ds.length = np) : SemG c E (fun σ H Q => t σ H fun vs H1 => spF c f np vs H1 Q E) (fCall f F) (RV c) := by
  intro G H ρ σ rep hns Q ok er
  refine h.use rep hns er fun ds ed e1 G1 H1 vs n1 r1 q1 h1 er1 => ?_
  exact ⟨G1, ds, n1.gh, q1, hl ds h1, h1, fun s es G' H' v n q => ok s (e1.trans es) G' H' v (n1.trans n) (RV.mono n1 q), er1⟩
section
variable {ca : Nat → Addr} {X : Cx} {E : XK}
theorem jtb_nil : JTB ca X [] (fun _ => tNext) (fun _ => .ok ()) := ⟨fun W pn xe tk po => pss_nil, fun W G H ρ σ rep hns D nx er => nx rfl G H (Nx.refl rep.gh)⟩
theorem jtb_call {x : Str} {k np : Nat} {fF : List PyData → Rs Sl} {e : Expr} {es : List Expr} {t : TA} {Fa : Env → Rs (List PyData)} {p pos pos2 : Pos} {rest : List Stmt} {tr : WX → TS} {Fr : Env → Rs Unit} (C : Callee X.prog X.w X.K X.mg X.base ca x k fF np) (hr : Room k X.A)
    (ha : ∀ (pn : List (Addr × Obj)) (xe : Value → Shared → Prop) (E : XK), JA ca (X.tr pn xe) E (e :: es) t Fa) (R : JTB ca X rest tr Fr)
    (hg : ∀ pn xe, Gl (X.tr pn xe) x := by intro _ _; rfl) (hdb : (x == ("__debug__" : Str)) = false := by decide) (he : starEach (e :: es) X.env = (false, eval e X.env) :: starEach es X.env := by rfl) (hpl : (backTo pos (starEach es X.env)).any (·.1) = false := by rfl)
    (hs : swapsWith (.Call (.Name x p) (e :: es) [] pos) none pos2.line X.env = pure false := by rfl) :
    JTB ca X (.Expr (.Call (.Name x p) (e :: es) [] pos) pos2 :: rest) (fun W => tSeq (tDrop (tCallS (spF ⟨X.K, ca⟩ fF np) (WE W) t)) (tr W)) (fun ρ => fDrop (fCall fF Fa) ρ >>= fun _ => Fr ρ) := by
  obtain ⟨f, fd, ps, F, hm, hk, hb⟩ := C.ex
  refine ⟨fun W pn xe tk po => pss_cons (ps_expr (pe_callS (X := X.tr pn xe) F hr (hg pn xe) hm hk hb (fun σ => passAt tk σ) (ha pn xe E0).pa hdb he hpl) hs) (R.ps W pn xe tk po), fun W G H ρ σ rep hns D nx er => ?_⟩
  have sm := (ha [] (fun _ _ => False) (fun cls d H => W cls d σ H)).sem
  refine sem_callS (f := fF) (np := np) sm C.len G H ρ σ rep (fun z => hns (by show (fDrop (fCall fF Fa) ρ >>= fun _ => Fr ρ) = _; unfold fDrop; rw [z]; rfl)) (fun v H1 => tr W D σ H1) (fun s es' G' H' v n q => ?_) fun y ey G' H' cl dd n xr => ?_
  · have e1 : (fDrop (fCall fF Fa) ρ >>= fun _ => Fr ρ) = Fr ρ := by unfold fDrop; rw [es']; rfl
    rw [e1] at hns nx er
    exact R.sem W G' H' ρ σ (rep.nx n) hns D (fun z G2 H2 n2 => nx z G2 H2 (n.trans n2)) fun y ey G2 H2 cl dd n2 xr => er y ey G2 H2 cl dd (n.trans n2) xr
  · refine er y ?_ G' H' cl dd n xr
    unfold fDrop
    rw [ey]
    rfl
theorem jtb_if {c : Expr} {b : List Stmt} {tc : TT} {tb : WX → TS} {Fc : Env → Rs Bool} {Fb : Env → Rs Unit} {pos : Pos} {rest : List Stmt} {tr : WX → TS} {Fr : Env → Rs Unit} (hc : ∀ (pn : List (Addr × Obj)) (xe : Value → Shared → Prop) (E : XK), JT ca (X.tr pn xe) E c tc Fc) (hb : JTB ca X b tb Fb) (R : JTB ca X rest tr Fr) :
    JTB ca X (.If c b [] pos :: rest) (fun W => tSeq (tIfS tc (tb W) tNext) (tr W)) (fun ρ => Fc ρ >>= fun k => (if k = true then Fb ρ else .ok ()) >>= fun _ => Fr ρ) := by
  refine ⟨fun W pn xe tk po => pss_cons (ps_if (hc pn xe E0).pt (hb.ps W pn xe tk po) pss_nil) (R.ps W pn xe tk po), fun W G H ρ σ rep hns D nx er => ?_⟩
  refine (hc [] (fun _ _ => False) (fun cls d H => W cls d σ H)).sem.use rep hns (fun y ey G' H' cl dd n xr => er y ey G' H' cl dd n xr) fun k ek e1 G1 H1 v n1 r1 q1 hk _ => ?_
  cases q1
  rw [e1] at nx er
  cases k with
  | true =>
    show tb W _ σ H1
    have hns1 : (Fb ρ >>= fun _ => Fr ρ) ≠ .stuck := hk
    have nx1 : (Fb ρ >>= fun _ => Fr ρ) = .ok () → _ := nx
    have er1 : ∀ x, (Fb ρ >>= fun _ => Fr ρ) = .err x → _ := er
    refine hb.sem W G1 H1 ρ σ r1 (fun z => hns1 (by rw [z]; rfl)) _ (fun z G2 H2 n2 => ?_) fun y ey G2 H2 cl dd n2 xr => er1 y (by rw [ey]; rfl) G2 H2 cl dd (n1.trans n2) xr
    have e2 : (Fb ρ >>= fun _ => Fr ρ) = Fr ρ := by rw [z]; rfl
    rw [e2] at hns1 nx1 er1
    exact R.sem W G2 H2 ρ σ (r1.nx n2) hns1 D (fun z G3 H3 n3 => nx1 z G3 H3 ((n1.trans n2).trans n3)) fun y ey G3 H3 cl dd n3 xr => er1 y ey G3 H3 cl dd ((n1.trans n2).trans n3) xr
  | false =>
    show tr W D σ H1
    have hns1 : Fr ρ ≠ .stuck := hk
    exact R.sem W G1 H1 ρ σ r1 hns1 D (fun z G3 H3 n3 => nx z G3 H3 (n1.trans n3)) fun y ey G3 H3 cl dd n3 xr => er y ey G3 H3 cl dd (n1.trans n3) xr
/-- try: body except WallError as n: y = n (n in slot i, y in slot j) -/
def fTry (i j : Nat) (B : Env → Rs Unit) : Env → Rs Out := fun ρ => match B ρ with
  | .ok _ => .ok (.nx ρ)
  | .err x => if eOk x.cls ∧ i < ρ.length then .ok (.nx (((ρ.set i .no).set j (.exn x)).set i .no)) else .stuck
  | .stuck => .stuck
theorem ent_no {G0 H0 G H : Hp} {ρ : Env} {σ : L2.St} (i : Nat) (o : Option V) (en : Ent G0 H0 G H ρ σ) : Ent G0 H0 G H (ρ.set i .no) (σ.set i o) := by
  refine ⟨en.nx, fun k s p e hs f => ?_⟩
  by_cases hk : i = k
  · rw [List.getElem?_set, if_pos hk] at e
    split at e
    · cases e; cases hs
    · cases e
  · rw [List.getElem?_set, if_neg hk] at e f
    exact en.own k s p e hs f
theorem jp_try (i j : Nat) {n y : Str} {body : List Stmt} {tb : WX → TS} {B : Env → Rs Unit} {np py pn pa pos pos' : Pos} (T : EX X.K X.mg ca) (hB : JTB ca X body tb B) (hN : X.N.Nodup) (hi : X.N[i]? = some n) (hj : X.N[j]? = some y) (hln : X.env.kindOf n = some .local) (hly : X.env.kindOf y = some .local)
    (h1 : (n == ("__debug__" : Str)) = false := by decide) (h2 : (n == ("__classdict__" : Str)) = false := by decide) (hg : Gl X "WallError" := by rfl) (hex : X.ex = [] := by rfl) (hs : X.stack = X.env :: X.outer := by rfl) (hf : X.env.frame = some X.env.locals := by rfl) (hsw : swapsWith (.Name n pn) (some (.Name y py)) pa.line X.env = pure false := by rfl) :
    JP ca X E (.Try body [.ExceptHandler (some (.Name "WallError" np)) (some n) [.Assign [.Name y py] (.Name n pn) pa] pos'] [] [] pos) (fun D σ H => tb (wKeep X.K (.ref (ca 0)) i (tAsg (tVar i) (gName j)) D) D σ H) (fTry i j B) := by
  have c := T.cl 0 (by decide)
  have vis : ∀ (a : Addr) (pn' : List (Addr × Obj)), PE (X.suite a pn') (.Name n pn) (tVar i) := fun a pn' => pe_var (X := X.suite a pn') hi (.inl hln) h1 h2
  refine ⟨ps_try_keep hex hs hf hN hi hln ⟨hg, by decide, .inl c.g⟩ hB.ps (fun a pn' => pss_one (ps_set (X := X.suite a pn') (i := j) hN hj (.inl hly) (vis a pn') hsw (.inr hly))), fun G0 H0 G H ρ σ rep en hns D nx rt er => ?_⟩
  have nx0 := nx
  unfold fTry at hns nx
  refine hB.sem _ G H ρ σ rep (fun z => by rw [z] at hns; exact hns rfl) D (fun z G' H' n' => ?_) fun x ex G' H' cl dd n' xr => ?_
  · rw [z] at nx
    exact nx ρ rfl G' H' σ (rep.nx n') (en.go n')
  · rw [ex] at hns nx
    by_cases hx : eOk x.cls ∧ i < ρ.length
    · have eF : fTry i j B ρ = .ok (.nx (((ρ.set i .no).set j (.exn x)).set i .no)) := by unfold fTry; rw [ex]; exact if_pos hx
      replace nx := nx0 _ eF
      obtain ⟨rfl, hp⟩ := xr
      refine ⟨T.exm hx.1, _, rfl, fun a ha => ?_⟩
      have ga : G' a = none := n'.gh.back ha
      have m : Nx G' H' (upd G' a (excO (ca x.cls) dd a)) (upd H' a (excO (ca x.cls) dd a)) := Nx.new n'.gh ha
      have rep1 : Rep ⟨X.K, ca⟩ G' H' (ρ.set i .no) (σ.set i (some (.ref a))) := (rep.nx n').set rfl trivial
      have en1 : Ent G0 H0 G' H' (ρ.set i .no) (σ.set i (some (.ref a))) := ent_no i _ (en.go n')
      have hil : i < σ.length := by
        rw [← rep.len]
        exact hx.2
      refine ⟨.ref a, by rw [List.getElem?_set_self hil], ?_⟩
      have q : RV ⟨X.K, ca⟩ G' H' (upd G' a (excO (ca x.cls) dd a)) (upd H' a (excO (ca x.cls) dd a)) (.ref a) (.exn x) := by
        refine ⟨a, dd, rfl, upd_same, ?_⟩
        cases hpl : x.place with
        | none => rw [hpl] at hp; exact hp
        | some pl =>
          rw [hpl] at hp
          obtain ⟨d, q1, q2⟩ := hp
          exact ⟨d, q1, m.g _ _ q2⟩
      obtain ⟨rep2, en2⟩ := rep_take j rep1 en1 m q
      exact nx _ _ _ (rep2.set rfl trivial) (ent_no i _ en2)
    · exact absurd (if_neg hx) hns
end

/-! ### what is asked of a held error -/
section
variable {ca : Nat → Addr} {X : Cx} {E : XK}
/-- a held error of class i, or a value of a known type -/
def TyE (K : PySem.W.Frag) (ca : Nat → Addr) (H : Hp) (x : V) (t : Value) : Prop := TyX K H x t ∨ ∃ (a : Addr) (i : Nat) (d : Option Addr), x = .ref a ∧ t = .ref (ca i) ∧ eOk i ∧ H a = some (excO (ca i) d a) ∧ (d = none ∨ ∃ dd fs, d = some dd ∧ H dd = some (.xd fs))
theorem kit_ofE {pins : List (Addr × Obj)} {σ : L2.St} {H : Hp} {s : Shared} (T : EX X.K X.mg ca) {x : V} {u t : Value} (I : Inv X pins σ H s) (rx : RelV x u) (ty : TyE X.K ca H x t) : ∃ P : Heap → Prop, PySem.W.KitX X.K u t P ∧ P s.heap ∧ u ≠ .builtin "__main__.__loader__#opaque" := by
  rcases ty with h | ⟨a, i, d, rfl, rfl, hi, ha, hd⟩
  · exact kit_of I rx h
  · cases (show u = Value.ref a from rx)
    have c := T.cl i hi
    obtain ⟨⟨oe, vs, e1, e2, e3, e4⟩, _, _⟩ := (show ObjOk X.prog X.w H s.heap a (excO (ca i) d a) from I.hok a _ ha)
    have hcl : (PySem.W.clsIn X.K (ca i)).isSome = true := c.i
    rcases hd with rfl | ⟨dd, fs, rfl, hdd⟩
    · exact ⟨_, PySem.W.kitx_exc (ox := oe) (od := none) hcl c.ga c.gg c.b c.ha T.hn T.ht c.hm, ⟨e1, e2, by unfold PySem.W.notCls; rw [e4] <;> rfl, by rw [e3] <;> trivial⟩, fun z => nomatch z⟩
    · obtain ⟨o, ho⟩ := objOk_get (I.hok dd _ hdd)
      exact ⟨_, PySem.W.kitx_exc (ox := oe) (od := some o) hcl c.ga c.gg c.b c.ha T.hn T.ht c.hm, ⟨e1, e2, by unfold PySem.W.notCls; rw [e4] <;> rfl, by rw [e3]; exact ho⟩, fun z => nomatch z⟩
def rIsE1 (K : PySem.W.Frag) (ca : Nat → Addr) : List V → Hp → VK → Prop := fun xs H Q => ∃ (x c : V) (t u : Value) (b : Bool), xs = [x, c] ∧ ClsV c u ∧ TyE K ca H x t ∧ PySem.W.kitOne K t u = some b ∧ Q (.bl b) H
def rIsET (K : PySem.W.Frag) (ca : Nat → Addr) : List V → Hp → VK → Prop := fun xs H Q => ∃ (x : V) (tp : Addr) (cs : List V) (t : Value) (us : List Value) (b : Bool), xs = [x, .ref tp] ∧ H tp = some (.tup cs) ∧ Paired ClsV cs us ∧ TyE K ca H x t ∧ PySem.W.kitAny K t us = some b ∧ Q (.bl b) H
theorem call_isE1 (T : EX X.K X.mg ca) : CallR X (.builtin "isinstance") (rIsE1 X.K ca) := by
  intro pins s σ H xs us Q I r h
  obtain ⟨x, c, t, u, b, rfl, k, ty, e, q⟩ := h
  obtain ⟨u1, u2, rfl, r1, r2⟩ := vals2 r
  have e2 := k.eq r2
  subst e2
  obtain ⟨P, Z, p, hx⟩ := kit_ofE T I r1 ty
  exact PySem.W.kia_one Z I.kIn p e hx fun tk => ⟨.bl b, H, I.tok tk, rfl, q⟩
theorem call_isET (T : EX X.K X.mg ca) : CallR X (.builtin "isinstance") (rIsET X.K ca) := by
  intro pins s σ H xs us Q I r h
  obtain ⟨x, tp, cs, t, ws, b, rfl, hT, k, ty, e, q⟩ := h
  obtain ⟨u1, u2, rfl, r1, r2⟩ := vals2 r
  cases (show u2 = Value.ref tp from r2)
  obtain ⟨P, Z, p, hx⟩ := kit_ofE T I r1 ty
  obtain ⟨_, its, rv, o, h1, h2, n, h3⟩ := (show ObjOk X.prog X.w H s.heap tp (.tup cs) from I.hok tp _ hT)
  have e3 := ClsV.all k rv
  subst e3
  obtain ⟨oc, od, dt, sl⟩ := o
  simp only at h2 h3
  subst h2 h3
  exact PySem.W.kia_tup Z I.kIn p h1 e hx fun tk => ⟨.bl b, H, I.tok tk, rfl, q⟩
/-- the answer for a slot: f for an error's class, false for None -/
def isES (f : Nat → Bool) : Option Sl → Rs PyData
  | some (.exn x) => if eOk x.cls then .ok (.bool (f x.cls)) else .stuck
  | some (.sh .none) => .ok (.bool false)
  | _ => .stuck
def fIsE (i : Nat) (f : Nat → Bool) : Env → Rs PyData := fun ρ => isES f ρ[i]?
/-- the slot's value is a held error of class k -/
def IsExn (ca : Nat → Addr) (G : Hp) (v : V) (k : Nat) : Prop := ∃ (a : Addr) (d : Option Addr), v = .ref a ∧ eOk k ∧ G a = some (excO (ca k) d a) ∧ (d = none ∨ ∃ dd fs, d = some dd ∧ G dd = some (.xd fs))
theorem IsExn.ty {K : PySem.W.Frag} {G H : Hp} {v : V} {k : Nat} (h : IsExn ca G v k) (e : Ex G H) : TyE K ca H v (.ref (ca k)) := by
  obtain ⟨a, d, rfl, hk, ha, hd⟩ := h
  refine .inr ⟨a, k, d, rfl, rfl, hk, e _ _ ha, ?_⟩
  rcases hd with rfl | ⟨dd, fs, rfl, hdd⟩
  · exact .inl rfl
  · exact .inr ⟨dd, fs, rfl, e _ _ hdd⟩
theorem IsExn.lt {G : Hp} {v : V} {k : Nat} (h : IsExn ca G v k) : eOk k := by
  obtain ⟨a, d, rfl, hk, _⟩ := h
  exact hk
theorem ty_non {K : PySem.W.Frag} {H : Hp} : TyE K ca H .non (.type "NoneType") := .inl (.base .non)
theorem rep_ty {c : Pc} {G H : Hp} {ρ : Env} {σ : L2.St} {i : Nat} {f : Nat → Bool} (rep : Rep c G H ρ σ) (hns : isES f ρ[i]? ≠ .stuck) : ∃ v, σ[i]? = some (some v) ∧
    ((∃ k, IsExn c.ca G v k ∧ isES f ρ[i]? = .ok (.bool (f k))) ∨ (v = .non ∧ isES f ρ[i]? = .ok (.bool false))) := by
  cases hs : ρ[i]? with
  | none => rw [hs] at hns; exact absurd rfl hns
  | some s =>
    rw [hs] at hns
    obtain ⟨o, e1, q⟩ := rep.sl i s hs
    cases s with
    | no => exact absurd rfl hns
    | ol ds => exact absurd rfl hns
    | od ds => exact absurd rfl hns
    | sh d =>
      obtain ⟨v, rfl, q⟩ := q
      cases d with
      | none =>
        cases q
        exact ⟨_, e1, .inr ⟨rfl, rfl⟩⟩
      | bool i => exact absurd rfl hns
      | int i => exact absurd rfl hns
      | str i => exact absurd rfl hns
      | list i => exact absurd rfl hns
      | tuple i => exact absurd rfl hns
      | dict i => exact absurd rfl hns
    | exn x =>
      obtain ⟨v, rfl, a, dd, rfl, ha, hp⟩ := q
      unfold isES at hns
      by_cases hx : eOk x.cls
      · refine ⟨_, e1, .inl ⟨x.cls, ⟨a, dd, rfl, hx, ha, ?_⟩, if_pos hx⟩⟩
        cases hpl : x.place with
        | none => rw [hpl] at hp; exact .inl hp
        | some pl =>
          rw [hpl] at hp
          obtain ⟨d, q1, q2⟩ := hp
          exact .inr ⟨d, _, q1, q2⟩
      · exact absurd (if_neg hx) hns
/-- isinstance(x, C), C an own error class -/
theorem js_isE (i j : Nat) {x y : Str} {p p1 p2 pos : Pos} (T : EX X.K X.mg ca) (ha : PE X (.Name x p1) (tVar i)) (hm : X.mg "isinstance" = none) (hj : eOk j := by decide) (hy : eNm j = y := by rfl) (hgT : Gl X y := by rfl) (hg : Gl X "isinstance" := by rfl) (hd : (y == ("__debug__" : Str)) = false := by decide)
    (hst : starEach [.Name x p1, .Name y p2] X.env = (false, eval (.Name x p1) X.env) :: starEach [.Name y p2] X.env := by rfl) (hst2 : starEach [.Name y p2] X.env = (false, eval (.Name y p2) X.env) :: starEach [] X.env := by rfl) :
    JS ca X E (.Call (.Name "isinstance" p) [.Name x p1, .Name y p2] [] pos) (tCB (rIsE1 X.K ca) (tCons (tVar i) (tCons (tC (.ref (ca j))) tNil))) (fIsE i (fun k => eSub k j)) := by
  have c := T.cl j hj
  rw [hy] at c
  refine ⟨pe_callB (call_isE1 T) hg hm (by decide +kernel) (pa_cons ha (pa_cons (pe_glob (v := .ref (ca j)) hgT c.g rfl hd) pa_nil hst2) hst) (he := hst), fun G H ρ σ rep hns Q ok er => ?_⟩
  obtain ⟨v, e1, h⟩ := rep_ty rep hns
  refine ⟨v, e1, ?_⟩
  rcases h with ⟨k, ty, ek⟩ | ⟨rfl, ek⟩
  · exact ⟨v, .ref (ca j), _, _, _, rfl, .own _, ty.ty rep.gh, T.kit ty.lt hj, ok _ ek G H _ (Nx.refl rep.gh) (.bl _)⟩
  · exact ⟨.non, .ref (ca j), _, _, _, rfl, .own _, ty_non, T.kitN hj, ok _ ek G H _ (Nx.refl rep.gh) (.bl _)⟩
/-- isinstance(x, ValueError) -/
theorem js_isVE (i : Nat) {x : Str} {p p1 p2 pos : Pos} (T : EX X.K X.mg ca) (ha : PE X (.Name x p1) (tVar i)) (hm : X.mg "isinstance" = none) (hmV : X.mg "ValueError" = none) (hgT : Gl X "ValueError" := by rfl) (hg : Gl X "isinstance" := by rfl)
    (hst : starEach [.Name x p1, .Name "ValueError" p2] X.env = (false, eval (.Name x p1) X.env) :: starEach [.Name "ValueError" p2] X.env := by rfl) (hst2 : starEach [.Name "ValueError" p2] X.env = (false, eval (.Name "ValueError" p2) X.env) :: starEach [] X.env := by rfl) :
    JS ca X E (.Call (.Name "isinstance" p) [.Name x p1, .Name "ValueError" p2] [] pos) (tCB (rIsE1 X.K ca) (tCons (tVar i) (tCons (tC (.ty "ValueError")) tNil))) (fIsE i (fun _ => true)) := by
  refine ⟨pe_callB (call_isE1 T) hg hm (by decide +kernel) (pa_cons ha (pa_cons (pe_bltn (v := .ty "ValueError") hgT hmV (by decide +kernel) rfl (by decide) (by decide)) pa_nil hst2) hst) (he := hst), fun G H ρ σ rep hns Q ok er => ?_⟩
  obtain ⟨v, e1, h⟩ := rep_ty rep hns
  refine ⟨v, e1, ?_⟩
  rcases h with ⟨k, ty, ek⟩ | ⟨rfl, ek⟩
  · exact ⟨v, .ty "ValueError", _, _, _, rfl, .ty _, ty.ty rep.gh, T.kitV ty.lt, ok _ ek G H _ (Nx.refl rep.gh) (.bl _)⟩
  · exact ⟨.non, .ty "ValueError", _, _, _, rfl, .ty _, ty_non, kitNV, ok _ ek G H _ (Nx.refl rep.gh) (.bl _)⟩
/-- the names of own error classes, one after the other -/
def clsT (ca : Nat → Addr) : List Nat → TA
  | [] => tNil
  | j :: r => tCons (tC (.ref (ca j))) (clsT ca r)
structure JN (ca : Nat → Addr) (X : Cx) (es : List Expr) (js : List Nat) : Prop where
  pa : PA X es (clsT ca js)
  lt : ∀ j ∈ js, eOk j
theorem jn_nil : JN ca X [] [] := ⟨pa_nil, fun _ h => nomatch h⟩
theorem jn_cons (j : Nat) {y : Str} {p : Pos} {es : List Expr} {js : List Nat} (T : EX X.K X.mg ca) (h : JN ca X es js) (hj : eOk j := by decide) (hy : eNm j = y := by rfl) (hgT : Gl X y := by rfl) (hd : (y == ("__debug__" : Str)) = false := by decide)
    (hst : starEach (.Name y p :: es) X.env = (false, eval (.Name y p) X.env) :: starEach es X.env := by rfl) : JN ca X (.Name y p :: es) (j :: js) := by
  have c := T.cl j hj
  rw [hy] at c
  exact ⟨pa_cons (pe_glob (v := .ref (ca j)) hgT c.g rfl hd) h.pa hst, fun k hk => by
    rcases List.mem_cons.mp hk with rfl | h2
    · exact hj
    · exact h.lt k h2⟩
theorem clsT_go {ca : Nat → Addr} {σ : L2.St} {H : Hp} : ∀ (js : List Nat) (Q : List V → Hp → Prop), Q (js.map fun j => .ref (ca j)) H → clsT ca js σ H Q
  | [], _, q => q
  | j :: r, Q, q => clsT_go r (fun vs H' => Q (.ref (ca j) :: vs) H') q
theorem clsV_all {ca : Nat → Addr} : ∀ js : List Nat, Paired ClsV (js.map fun j => V.ref (ca j)) (js.map fun j => Value.ref (ca j))
  | [] => .nil
  | j :: r => .cons (.own _) (clsV_all r)
theorem kit_anyE (T : EX X.K X.mg ca) {k : Nat} (hk : eOk k) : ∀ js : List Nat, (∀ j ∈ js, eOk j) → PySem.W.kitAny X.K (.ref (ca k)) (js.map fun j => Value.ref (ca j)) = some (js.any fun j => eSub k j)
  | [], _ => rfl
  | j :: r, h => by
    refine kitAny_cons (T.kit hk (h j List.mem_cons_self)) (fun e => ?_) fun e => ?_
    · rw [List.any_cons, e, Bool.false_or]
      exact kit_anyE T hk r fun j hj => h j (List.mem_cons_of_mem _ hj)
    · rw [List.any_cons, e, Bool.true_or]
theorem kit_anyN (T : EX X.K X.mg ca) : ∀ js : List Nat, (∀ j ∈ js, eOk j) → PySem.W.kitAny X.K (.type "NoneType") (js.map fun j => Value.ref (ca j)) = some false
  | [], _ => rfl
  | j :: r, h => kitAny_cons (T.kitN (h j List.mem_cons_self)) (fun _ => kit_anyN T r fun j hj => h j (List.mem_cons_of_mem _ hj)) fun e => nomatch e
theorem js_isET (i : Nat) {js : List Nat} {x : Str} {es : List Expr} {kt : Nat} {p p1 p2 pos : Pos} (T : EX X.K X.mg ca) (ha : PE X (.Name x p1) (tVar i)) (hes : JN ca X es js) (hm : X.mg "isinstance" = none) (hz : js.length ≤ 10 := by decide) (hg : Gl X "isinstance" := by rfl)
    (hst : starEach [.Name x p1, .Tuple es kt p2] X.env = (false, eval (.Name x p1) X.env) :: starEach [.Tuple es kt p2] X.env := by rfl) (hst2 : starEach [.Tuple es kt p2] X.env = (false, eval (.Tuple es kt p2) X.env) :: starEach [] X.env := by rfl) :
    JS ca X E (.Call (.Name "isinstance" p) [.Name x p1, .Tuple es kt p2] [] pos) (tCB (rIsET X.K ca) (tCons (tVar i) (tCons (tTup (clsT ca js)) tNil))) (fIsE i (fun k => js.any fun j => eSub k j)) := by
  refine ⟨pe_callB (call_isET T) hg hm (by decide +kernel) (pa_cons ha (pa_cons (pe_tup hes.pa) pa_nil hst2) hst) (he := hst), fun G H ρ σ rep hns Q ok er => ?_⟩
  obtain ⟨v, e1, h⟩ := rep_ty rep hns
  refine ⟨v, e1, clsT_go js _ ⟨by rw [List.length_map]; exact lim_le (Nat.le_trans hz (by decide)), fun q hq => ?_⟩⟩
  have m : Nx G H G (upd H q (.tup (js.map fun j => .ref (ca j)))) := Nx.hid rep.gh hq
  rcases h with ⟨k, ty, ek⟩ | ⟨rfl, ek⟩
  · exact ⟨v, q, _, _, _, _, rfl, upd_same, clsV_all js, ty.ty m.gh, kit_anyE T ty.lt js hes.lt, ok _ ek G _ _ m (.bl _)⟩
  · exact ⟨.non, q, _, _, _, _, rfl, upd_same, clsV_all js, ty_non, kit_anyN T js hes.lt, ok _ ek G _ _ m (.bl _)⟩
/-- x.place of a held error -/
def placeS : Option Sl → Rs PyData
  | some (.exn ⟨5, some p⟩) => .ok (.int p)
  | _ => .stuck
def fPlace (i : Nat) : Env → Rs PyData := fun ρ => placeS ρ[i]?
def tPlace (C : Addr) (te : TE) : TE := fun σ H Q => te σ H fun x H1 => ∃ (a dd : Addr) (i : Int), x = .ref a ∧ H1 a = some (excO C (some dd) a) ∧ H1 dd = some (.xd [(("place" : Str), .int i)]) ∧ Q (.int i) H1
theorem pe_place (T : EX X.K X.mg ca) (no : PySem.W.findIn X.K (.ref (ca 5)) "place" = some none) {e : Expr} {te : TE} {pos : Pos} (he : PE X e te) (hb : attributeBase e "place" X.env (eval e X.env) = eval e X.env := by rfl) : PE X (.Attribute e "place" pos) (tPlace (ca 5) te) := by
  have c := T.cl 5 (by decide)
  refine ⟨fun pins s σ H Q I h => ?_⟩
  refine attr_of hb (thn (he.run pins s σ H _ I h) fun u s1 hh => ?_)
  obtain ⟨x, H1, I1, rx, a, dd, i, rfl, ha, hdd, q⟩ := hh
  obtain rfl : u = Value.ref a := rx
  obtain ⟨⟨oe, vs, e1, e2, e3, e4⟩, _, _⟩ := (show ObjOk X.prog X.w H1 s1.heap a (excO (ca 5) (some dd) a) from I1.hok a _ ha)
  obtain ⟨mA, hns, hr⟩ := (show ObjOk X.prog X.w H1 s1.heap dd (.xd [(("place" : Str), .int i)]) from I1.hok dd _ hdd)
  obtain ⟨od, ho, hl⟩ := lookIn_ns hns
  have l : List.lookup ("place" : Str) [(("place" : Str), V.int i)] = some (V.int i) := by simp [List.lookup]
  obtain ⟨u, hu, ru⟩ := RelO.some_of (v := .int i) (o := mA "place") (by rw [← l]; exact hr "place")
  have J : PySem.W.InstAt s1.heap a oe (ca 5) (some od) := ⟨e1, e2, by unfold PySem.W.notCls; rw [e4] <;> rfl, by rw [e3]; exact ho⟩
  exact HandSPX.exc_get I1.kIn J c.ga c.gg c.b (PySem.W.findObj_own c.hd no rfl (by rw [hl, hu])) (handed_of ru) ⟨.int i, H1, I1.tok _, ru, q⟩
theorem js_place (i : Nat) {x : Str} {p pos : Pos} (T : EX X.K X.mg ca) (no : PySem.W.findIn X.K (.ref (ca 5)) "place" = some none) (ha : PE X (.Name x p) (tVar i)) (hb : attributeBase (.Name x p) "place" X.env (eval (.Name x p) X.env) = eval (.Name x p) X.env := by rfl) :
    JS ca X E (.Attribute (.Name x p) "place" pos) (tPlace (ca 5) (tVar i)) (fPlace i) := by
  refine ⟨pe_place T no ha hb, fun G H ρ σ rep hns Q ok er => ?_⟩
  unfold fPlace at hns ok
  cases hs : ρ[i]? with
  | none => rw [hs] at hns; exact absurd rfl hns
  | some s =>
    rw [hs] at hns ok
    obtain ⟨o, e1, q⟩ := rep.sl i s hs
    unfold placeS at hns ok
    split at hns
    · rename_i pl hpl
      cases hpl
      obtain ⟨v, rfl, a, dd, rfl, hga, d, rfl, hgd⟩ := q
      exact ⟨_, e1, a, d, pl, rfl, rep.gh _ _ hga, rep.gh _ _ hgd, ok _ rfl G H _ (Nx.refl rep.gh) (.int _)⟩
    · exact absurd rfl hns
/-- x is None, of a slot that may hold an error -/
def noneS : Option Sl → Rs PyData
  | some (.exn _) => .ok (.bool false)
  | some (.sh d) => .ok (.bool (isNo d))
  | _ => .stuck
def fNoneV (i : Nat) : Env → Rs PyData := fun ρ => noneS ρ[i]?
theorem sem_noneV {c : Pc} (i : Nat) : SemG c E (tOp (fun x y H Q => y = .non ∧ Q (.bl (decide (x = .non))) H) (tVar i) (tC .non)) (fNoneV i) (RS c) := by
  intro G H ρ σ rep hns Q ok er
  unfold fNoneV at hns ok
  cases hs : ρ[i]? with
  | none => rw [hs] at hns; exact absurd rfl hns
  | some s =>
    rw [hs] at hns ok
    obtain ⟨o, e1, q⟩ := rep.sl i s hs
    cases s with
    | no => exact absurd rfl hns
    | ol ds => exact absurd rfl hns
    | od ds => exact absurd rfl hns
    | sh d =>
      obtain ⟨v, rfl, q⟩ := q
      refine ⟨v, e1, rfl, ?_⟩
      rw [db_isNo (H := H) (.inl q)]
      exact ok _ rfl G H _ (Nx.refl rep.gh) (.bl _)
    | exn x =>
      obtain ⟨v, rfl, a, dd, rfl, ha, hp⟩ := q
      exact ⟨_, e1, rfl, ok _ rfl G H _ (Nx.refl rep.gh) (.bl _)⟩
end
end PF
namespace PF
open PySem L2
def caL (l : List Addr) : Nat → Addr := fun i => l.getD i 0
section
variable {ca : Nat → Addr} {X : Cx} {E : XK} {x : Str} {p pos p2 : Pos} {j : Nat}
theorem js_noneV (i : Nat) (h : PE X (.Name x p) (tVar i)) : JS ca X E (.Compare (.Name x p) [.Is] [.Constant .none j p2] pos) (tOp (fun x y H Q => y = .non ∧ Q (.bl (decide (x = .non))) H) (tVar i) (tC .non)) (fNoneV i) :=
  ⟨pe_cmpR op_isN h pe_non (nomark _), sem_noneV i⟩
theorem jt_noneV (i : Nat) (h : PE X (.Name x p) (tVar i)) : JT ca X E (.Compare (.Name x p) [.Is] [.Constant .none j p2] pos) (tTest (tOp (fun x y H Q => y = .non ∧ Q (.bl (decide (x = .non))) H) (tVar i) (tC .non))) (fB (fNoneV i)) :=
  ⟨pt_cmpR op_isN h pe_non (nomark _), sem_test (sem_noneV i)⟩
end
end PF

namespace PF
open PySem L2

/-! ### the rules of reckoning -/
section
variable {α β : Type} {ρ : Env} {F G : Env → Rs PyData} {Fv : Env → Rs Sl} {Fs : Env → Rs (List PyData)} {Fb Gb : Env → Rs Bool} {A B : Env → Rs Out}
@[simp] theorem z_ok (a : α) (f : α → Rs β) : (Rs.ok a >>= f) = f a := (rfl)
@[simp] theorem z_err (x : Exn) (f : α → Rs β) : ((Rs.err x : Rs α) >>= f) = .err x := (rfl)
@[simp] theorem z_stuck (f : α → Rs β) : ((Rs.stuck : Rs α) >>= f) = .stuck := (rfl)
@[simp] theorem z_varB (i : Nat) : fVarB i ρ = slB ρ[i]? := (rfl)
@[simp] theorem z_varS (i : Nat) : fVarS i ρ = slS ρ[i]? := (rfl)
@[simp] theorem z_slB (d : PyData) : slB (some (.sh d)) = .ok d := (rfl)
@[simp] theorem z_slBo (d : List PyData) : slB (some (.ol d)) = .ok (.list d) := (rfl)
@[simp] theorem z_slS (d : PyData) : slS (some (.sh d)) = .ok d := (rfl)
@[simp] theorem z_c (d : PyData) : fC d ρ = .ok d := (rfl)
@[simp] theorem z_op (f : PyData → PyData → Rs α) : fOp f F G ρ = (F ρ >>= fun a => G ρ >>= fun b => f a b) := (rfl)
@[simp] theorem z_un (f : α → Rs β) (F : Env → Rs α) : fUn f F ρ = (F ρ >>= f) := (rfl)
@[simp] theorem z_sh : fSh Fv ρ = (Fv ρ >>= slShare) := (rfl)
@[simp] theorem z_v : fV F ρ = (F ρ >>= fun d => .ok (.sh d)) := (rfl)
@[simp] theorem z_slsh (d : PyData) : slShare (.sh d) = .ok d := (rfl)
@[simp] theorem z_slol (d : List PyData) : slShare (.ol d) = .ok (.list d) := (rfl)
@[simp] theorem z_nil : fNil ρ = .ok [] := (rfl)
@[simp] theorem z_cons : fCons F Fs ρ = (F ρ >>= fun d => Fs ρ >>= fun ds => .ok (d :: ds)) := (rfl)
@[simp] theorem z_call (f : List PyData → Rs Sl) : fCall f Fs ρ = (Fs ρ >>= f) := (rfl)
@[simp] theorem z_not : fNot Fb ρ = (Fb ρ >>= fun b => .ok (!b)) := (rfl)
@[simp] theorem z_and : fAnd Fb Gb ρ = (Fb ρ >>= fun b => if b = true then Gb ρ else .ok false) := (rfl)
@[simp] theorem z_or : fOr Fb Gb ρ = (Fb ρ >>= fun b => if b = true then .ok true else Gb ρ) := (rfl)
@[simp] theorem z_andV : fAndV F G ρ = (F ρ >>= fun a => boolOf a >>= fun b => if b = true then G ρ else .ok (.bool false)) := (rfl)
@[simp] theorem z_orV : fOrV F G ρ = (F ρ >>= fun a => boolOf a >>= fun b => if b = true then .ok (.bool true) else G ρ) := (rfl)
@[simp] theorem z_notV : fNotV F ρ = (F ρ >>= fun a => boolOf a >>= fun b => .ok (.bool (!b))) := (rfl)
@[simp] theorem z_b : fB F ρ = (F ρ >>= boolOf) := (rfl)
@[simp] theorem z_boolOf (b : Bool) : boolOf (.bool b) = .ok b := (rfl)
@[simp] theorem z_intOf (b : Int) : intOf (.int b) = .ok b := (rfl)
@[simp] theorem z_some : fSome F ρ = (F ρ >>= fun d => intOf d >>= fun i => .ok (some i)) := (rfl)
@[simp] theorem z_none : fNone ρ = .ok none := (rfl)
@[simp] theorem z_sl {Fl Fh : Env → Rs (Option Int)} : fSl F Fl Fh ρ = (F ρ >>= fun a => Fl ρ >>= fun l => Fh ρ >>= fun h => slD a l h) := (rfl)
@[simp] theorem z_slL (ds : List PyData) (lo hi : Option Int) : slD (.list ds) lo hi = .ok (.ol (cutP ds lo hi)) := (rfl)
@[simp] theorem z_slT (ds : List PyData) (lo hi : Option Int) : slD (.tuple ds) lo hi = .ok (.sh (.tuple (cutP ds lo hi))) := (rfl)
@[simp] theorem z_seq : fSeq A B ρ = after (A ρ) B := (rfl)
@[simp] theorem z_skip : fSkip ρ = .ok (.nx ρ) := (rfl)
@[simp] theorem z_anx (k : Env → Rs Out) : after (.ok (.nx ρ)) k = k ρ := (rfl)
@[simp] theorem z_art (s : Sl) (k : Env → Rs Out) : after (.ok (.rt s)) k = .ok (.rt s) := (rfl)
@[simp] theorem z_aerr (x : Exn) (k : Env → Rs Out) : after (.err x) k = .err x := (rfl)
@[simp] theorem z_set (i : Nat) : fSet i Fv ρ = (Fv ρ >>= fun s => .ok (.nx (ρ.set i s))) := (rfl)
@[simp] theorem z_ret : fRet Fv ρ = (Fv ρ >>= fun s => .ok (.rt s)) := (rfl)
@[simp] theorem z_retVar (i : Nat) : fRetVar i ρ = (slRet ρ[i]? >>= fun s => .ok (.rt s)) := (rfl)
@[simp] theorem z_slRet (d : PyData) : slRet (some (.sh d)) = .ok (.sh d) := (rfl)
@[simp] theorem z_slReto (d : List PyData) : slRet (some (.ol d)) = .ok (.ol d) := (rfl)
@[simp] theorem z_slRetd (d : List (List Int × PyData)) : slRet (some (.od d)) = .ok (.od d) := (rfl)
@[simp] theorem z_if : fIf Fb A B ρ = (Fb ρ >>= fun b => if b = true then A ρ else B ρ) := (rfl)
@[simp] theorem z_fz (i : Nat) : fFz i A ρ = A (fz1 i ρ) := (rfl)
theorem fz1_eq (i : Nat) (ρ : Env) : fz1 i ρ = match ρ[i]? with
  | some (.ol ds) => ρ.set i (.sh (.list ds))
  | _ => ρ := by
  unfold fz1
  cases ρ[i]? with
  | none => rfl
  | some s => cases s <;> rfl
theorem fz1_sh {i : Nat} {ρ : Env} {d : PyData} (h : ρ[i]? = some (.sh d)) : fz1 i ρ = ρ := by rw [fz1_eq, h]
theorem fz1_ol {i : Nat} {ρ : Env} {ds : List PyData} (h : ρ[i]? = some (.ol ds)) : fz1 i ρ = ρ.set i (.sh (.list ds)) := by rw [fz1_eq, h]
@[simp] theorem z_for {T : Tgt} : fFor Fs T A ρ = (Fs ρ >>= fun ds => forF T A ds ρ) := (rfl)
@[simp] theorem z_it (f : α → Rs (List PyData)) (F : Env → Rs α) : fIt f F ρ = (F ρ >>= f) := (rfl)
@[simp] theorem z_itemsL (ds : List PyData) : itemsL (.list ds) = .ok ds := (rfl)
@[simp] theorem z_itemsT (ds : List PyData) : itemsT (.tuple ds) = .ok ds := (rfl)
@[simp] theorem z_par (i j : Nat) : fPar i j Fs ρ = (Fs ρ >>= fun ds => match ds with
  | [a, b] => .ok (.nx ((ρ.set i (.sh a)).set j (.sh b)))
  | _ => .stuck) := (rfl)
@[simp] theorem z_asg {T : Tgt} : fAsg T F ρ = (F ρ >>= fun d => match T d ρ with
  | some ρ' => .ok (.nx ρ')
  | none => .stuck) := (rfl)
@[simp] theorem z_tgN (i : Nat) (d : PyData) : tgN i d ρ = some (ρ.set i (.sh d)) := (rfl)
@[simp] theorem z_tgNil : tgNil [] ρ = some ρ := (rfl)
@[simp] theorem z_tgCons (T : Tgt) (Ts : Tgts) (d : PyData) (ds : List PyData) : tgCons T Ts (d :: ds) ρ = (T d ρ).bind (Ts ds) := (rfl)
@[simp] theorem z_tgT (n : Nat) (Ts : Tgts) (ds : List PyData) : tgT n Ts (.tuple ds) ρ = if ds.length = n then Ts ds ρ else none := (rfl)
@[simp] theorem z_outN : outV (.ok (.nx ρ)) = .ok (.sh .none) := (rfl)
@[simp] theorem z_outR (s : Sl) : outV (.ok (.rt s)) = .ok s := (rfl)
@[simp] theorem z_outE (x : Exn) : outV (.err x) = .err x := (rfl)
end
/-! the operations -/
@[simp] theorem z_add (a b : Int) : addD (.int a) (.int b) = .ok (.sh (.int (a + b))) := (rfl)
theorem addD_list {xs ys : List PyData} (h : xs.length + ys.length ≤ lim) : addD (.list xs) (.list ys) = .ok (.ol (xs ++ ys)) := if_pos h
theorem addD_tuple {xs ys : List PyData} (h : xs.length + ys.length ≤ lim) : addD (.tuple xs) (.tuple ys) = .ok (.sh (.tuple (xs ++ ys))) := if_pos h
@[simp] theorem z_sub (a b : Int) : subD (.int a) (.int b) = .ok (.int (a - b)) := (rfl)
theorem mulD_ok {a b : Int} (h : mulOk a b) : mulD (.int a) (.int b) = .ok (.int (a * b)) := if_pos h
theorem divD_ok {a b : Int} (h : divOk a b) : divD (.int a) (.int b) = .ok (.int (a.fdiv b)) := if_pos h
theorem modD_ok {a b : Int} (h : b ≠ 0) : modD (.int a) (.int b) = .ok (.int (a.fmod b)) := if_pos h
theorem powD_ok {a b : Int} (h : powOk a b) : powD (.int a) (.int b) = .ok (.int (a ^ b.toNat)) := if_pos h
@[simp] theorem z_lt (a b : Int) : ltD (.int a) (.int b) = .ok (.bool (decide (a < b))) := (rfl)
@[simp] theorem z_le (a b : Int) : leD (.int a) (.int b) = .ok (.bool (decide (a ≤ b))) := (rfl)
@[simp] theorem z_gt (a b : Int) : gtD (.int a) (.int b) = .ok (.bool (decide (b < a))) := (rfl)
@[simp] theorem z_ge (a b : Int) : geD (.int a) (.int b) = .ok (.bool (decide (b ≤ a))) := (rfl)
@[simp] theorem z_neg (a : Int) : negD (.int a) = .ok (.int (-a)) := (rfl)
@[simp] theorem z_abs (a : Int) : absD (.int a) = .ok (.int (if a < 0 then -a else a)) := (rfl)
@[simp] theorem z_lenL (ds : List PyData) : lenD (.list ds) = .ok (.int ds.length) := (rfl)
@[simp] theorem z_lenT (ds : List PyData) : lenD (.tuple ds) = .ok (.int ds.length) := (rfl)
@[simp] theorem z_int1b (b : Bool) : int1D (.bool b) = .ok (.int (if b then 1 else 0)) := (rfl)
@[simp] theorem z_int1 (b : Int) : int1D (.int b) = .ok (.int b) := (rfl)
@[simp] theorem z_listL (ds : List PyData) : listD (.list ds) = .ok (.ol ds) := (rfl)
@[simp] theorem z_listT (ds : List PyData) : listD (.tuple ds) = .ok (.ol ds) := (rfl)
@[simp] theorem z_tupL (ds : List PyData) : tupleD (.list ds) = .ok (.tuple ds) := (rfl)
@[simp] theorem z_tupT (ds : List PyData) : tupleD (.tuple ds) = .ok (.tuple ds) := (rfl)
@[simp] theorem z_min (a b : Int) : min2D (.int a) (.int b) = .ok (.int (if b < a then b else a)) := (rfl)
@[simp] theorem z_max (a b : Int) : max2D (.int a) (.int b) = .ok (.int (if b > a then b else a)) := (rfl)
@[simp] theorem z_isN (a : PyData) : isND a .none = .ok (.bool (isNo a)) := (rfl)
@[simp] theorem z_notN (a : PyData) : notND a .none = .ok (.bool (!isNo a)) := (rfl)
theorem lstD_ok {ds : List PyData} (h : ds.length ≤ lim) : lstD ds = .ok (.ol ds) := if_pos h
theorem tupD_ok {ds : List PyData} (h : ds.length ≤ lim) : tupD ds = .ok (.tuple ds) := if_pos h
@[simp] theorem z_tup1 (a : PyData) : tupD [a] = .ok (.tuple [a]) := tupD_ok (by show 1 ≤ 1000000; decide)
@[simp] theorem z_tup2 (a b : PyData) : tupD [a, b] = .ok (.tuple [a, b]) := tupD_ok (by show 2 ≤ 1000000; decide)
@[simp] theorem z_tup3 (a b c : PyData) : tupD [a, b, c] = .ok (.tuple [a, b, c]) := tupD_ok (by show 3 ≤ 1000000; decide)
@[simp] theorem z_tup0 : tupD [] = .ok (.tuple []) := tupD_ok (by show 0 ≤ 1000000; decide)
@[simp] theorem z_lst0 : lstD [] = .ok (.ol []) := lstD_ok (by show 0 ≤ 1000000; decide)
@[simp] theorem z_lst1 (a : PyData) : lstD [a] = .ok (.ol [a]) := lstD_ok (by show 1 ≤ 1000000; decide)
@[simp] theorem z_lst2 (a b : PyData) : lstD [a, b] = .ok (.ol [a, b]) := lstD_ok (by show 2 ≤ 1000000; decide)
@[simp] theorem z_lst3 (a b c : PyData) : lstD [a, b, c] = .ok (.ol [a, b, c]) := lstD_ok (by show 3 ≤ 1000000; decide)
@[simp] theorem z_lst4 (a b c d : PyData) : lstD [a, b, c, d] = .ok (.ol [a, b, c, d]) := lstD_ok (by show 4 ≤ 1000000; decide)
@[simp] theorem z_eqI (a b : Int) : eqD (.int a) (.int b) = .ok (.bool (a == b)) := (rfl)
@[simp] theorem z_neI (a b : Int) : neD (.int a) (.int b) = .ok (.bool (!(a == b))) := (rfl)
@[simp] theorem z_isiI (a : Int) : isiD "int" (.int a) = .ok (.bool true) := kit_int (.int a)
@[simp] theorem z_isiB (a : Int) : isiD "bool" (.int a) = .ok (.bool false) := kit_bool (.int a)
@[simp] theorem z_isiT (ds : List PyData) : isiD "tuple" (.tuple ds) = .ok (.bool true) := kit_tuple (.tuple ds)
@[simp] theorem z_isiL (ds : List PyData) : isiD "list" (.list ds) = .ok (.bool true) := kit_list (.list ds)
@[simp] theorem z_ixT (ds : List PyData) (i : Int) : ixD (.tuple ds) (.int i) = getP ds i := (rfl)
@[simp] theorem z_ixL (ds : List PyData) (i : Int) : ixD (.list ds) (.int i) = getP ds i := (rfl)
@[simp] theorem z_get0 (a : PyData) (l : List PyData) : getP (a :: l) 0 = .ok a := by
  have h : atI (a :: l) ((0 : Nat) : Int) = some a := atI_nat rfl
  unfold getP
  rw [show (0 : Int) = ((0 : Nat) : Int) from rfl, h]
@[simp] theorem z_get1 (a b : PyData) (l : List PyData) : getP (a :: b :: l) 1 = .ok b := by
  have h : atI (a :: b :: l) ((1 : Nat) : Int) = some b := atI_nat rfl
  unfold getP
  rw [show (1 : Int) = ((1 : Nat) : Int) from rfl, h]
@[simp] theorem z_get2 (a b c : PyData) (l : List PyData) : getP (a :: b :: c :: l) 2 = .ok c := by
  have h : atI (a :: b :: c :: l) ((2 : Nat) : Int) = some c := atI_nat rfl
  unfold getP
  rw [show (2 : Int) = ((2 : Nat) : Int) from rfl, h]
theorem getP_nat {ds : List PyData} {i : Nat} {d : PyData} (h : ds[i]? = some d) : getP ds (i : Int) = .ok d := by
  unfold getP
  rw [atI_nat h]
theorem getP_int {ds : List PyData} {i : Int} {d : PyData} (h0 : 0 ≤ i) (h : ds[i.toNat]? = some d) : getP ds i = .ok d := by
  have e : i = ((i.toNat : Nat) : Int) := by omega
  rw [e]
  exact getP_nat h
@[simp] theorem outV_ret (r : Rs Sl) : outV (r >>= fun s => .ok (.rt s)) = r := by cases r <;> rfl
@[simp] theorem z_p10_5 : powD (.int 10) (.int 5) = .ok (.int 100000) := powD_ok (by decide)
@[simp] theorem z_p10_6 : powD (.int 10) (.int 6) = .ok (.int 1000000) := powD_ok (by decide)
@[simp] theorem z_p10_9 : powD (.int 10) (.int 9) = .ok (.int 1000000000) := powD_ok (by decide)
@[simp] theorem z_p10_10 : powD (.int 10) (.int 10) = .ok (.int 10000000000) := powD_ok (by decide)
@[simp] theorem z_p10_18 : powD (.int 10) (.int 18) = .ok (.int 1000000000000000000) := powD_ok (by decide)
@[simp] theorem z_p10_20 : powD (.int 10) (.int 20) = .ok (.int 100000000000000000000) := powD_ok (by decide)
@[simp] theorem z_p10_30 : powD (.int 10) (.int 30) = .ok (.int 1000000000000000000000000000000) := powD_ok (by decide)
@[simp] theorem z_p10_60 : powD (.int 10) (.int 60) = .ok (.int 1000000000000000000000000000000000000000000000000000000000000) := powD_ok (by decide)
@[simp] theorem z_p10_64 : powD (.int 10) (.int 64) = .ok (.int 10000000000000000000000000000000000000000000000000000000000000000) := powD_ok (by decide)
/-! sizes -/
theorem log2_lt' {a : Int} {n : Nat} (h : a.natAbs < 2 ^ n) (h0 : 0 < n) : a.natAbs.log2 < n := PySem.Flt.log2_lt_of h0 h
theorem mulOk_of {a b : Int} {m n : Nat} (ha : a.natAbs < 2 ^ m) (hb : b.natAbs < 2 ^ n) (h : m + n ≤ 134217000) (h0 : 0 < m) (h1 : 0 < n) : mulOk a b := .inr (.inr (by have := log2_lt' ha h0; have := log2_lt' hb h1; omega))
theorem mulOk_left {a b : Int} (h : a.natAbs < 2 ^ 64) : mulOk a b := .inl (log2_lt' h (by decide))
theorem mulOk_right {a b : Int} (h : b.natAbs < 2 ^ 64) : mulOk a b := .inr (.inl (log2_lt' h (by decide)))
theorem divOk_of {a b : Int} {n : Nat} (h0 : b ≠ 0) (h : b.natAbs < 2 ^ n) (hn : n ≤ 9000) : divOk a b := ⟨h0, PyProof.noPylong_of_log2 (by
  have : b.natAbs.log2 < 9000 := log2_lt' (Nat.lt_of_lt_of_le h (Nat.pow_le_pow_right (by decide) hn)) (by decide)
  exact this)⟩
theorem divOk_lit {a b : Int} (h0 : b ≠ 0) (h : b.natAbs < 2 ^ 64) : divOk a b := divOk_of h0 h (by decide)
theorem fnOf_of {np n : Nat} {F : Env → Rs Out} {ds : List PyData} (h : ds.length = np) : fnOf np n F ds = outV (F (ds.map Sl.sh ++ List.replicate (n - np) Sl.no)) := by
  unfold fnOf
  rw [if_pos h, h]
theorem fnOf1 (n : Nat) (F : Env → Rs Out) (a : PyData) : fnOf 1 n F [a] = outV (F (.sh a :: List.replicate (n - 1) .no)) := if_pos rfl
theorem fnOf2 (n : Nat) (F : Env → Rs Out) (a b : PyData) : fnOf 2 n F [a, b] = outV (F (.sh a :: .sh b :: List.replicate (n - 2) .no)) := if_pos rfl
theorem fnOf3 (n : Nat) (F : Env → Rs Out) (a b c : PyData) : fnOf 3 n F [a, b, c] = outV (F (.sh a :: .sh b :: .sh c :: List.replicate (n - 3) .no)) := if_pos rfl
theorem fnOf4 (n : Nat) (F : Env → Rs Out) (a b c d : PyData) : fnOf 4 n F [a, b, c, d] = outV (F (.sh a :: .sh b :: .sh c :: .sh d :: List.replicate (n - 4) .no)) := if_pos rfl
theorem fnOf5 (n : Nat) (F : Env → Rs Out) (a b c d e : PyData) : fnOf 5 n F [a, b, c, d, e] = outV (F (.sh a :: .sh b :: .sh c :: .sh d :: .sh e :: List.replicate (n - 5) .no)) := if_pos rfl
@[simp] theorem z_rep0 : List.replicate 0 Sl.no = [] := (rfl)
end PF

namespace PF
open PySem L2

/-! ### the greatest divisor, fractions in lowest terms: plain mathematics -/
/-- what divides both, signed as the bottom is -/
def byOf (t b : Int) : Int := if b < 0 then 0 - (Int.gcd t b : Int) else Int.gcd t b
def frT (t b : Int) : Int := t.fdiv (byOf t b)
def frB (t b : Int) : Int := b.fdiv (byOf t b)
def fracD (p q : Int) : PyData := .tuple [.int p, .int q]
def frD (t b : Int) : PyData := fracD (frT t b) (frB t b)
theorem byOf_ne {t b : Int} (h : b ≠ 0) : byOf t b ≠ 0 := by
  have h1 : Int.gcd t b ≠ 0 := fun z => h (Int.gcd_eq_zero_iff.mp z).2
  unfold byOf
  split <;> omega
theorem byOf_dvd_l (t b : Int) : byOf t b ∣ t := by
  unfold byOf
  split
  · rw [Int.zero_sub, Int.neg_dvd]; exact Int.gcd_dvd_left t b
  · exact Int.gcd_dvd_left t b
theorem byOf_dvd_r (t b : Int) : byOf t b ∣ b := by
  unfold byOf
  split
  · rw [Int.zero_sub, Int.neg_dvd]; exact Int.gcd_dvd_right t b
  · exact Int.gcd_dvd_right t b
theorem fdiv_mul_of_dvd {a b : Int} (h : b ∣ a) : a.fdiv b * b = a := Int.fdiv_mul_cancel h
theorem frT_mul (t b : Int) : frT t b * byOf t b = t := fdiv_mul_of_dvd (byOf_dvd_l t b)
theorem frB_mul (t b : Int) : frB t b * byOf t b = b := fdiv_mul_of_dvd (byOf_dvd_r t b)
theorem byOf_abs (t b : Int) : (byOf t b).natAbs = Int.gcd t b := by
  unfold byOf
  split <;> omega
theorem frB_pos {t b : Int} (h : b ≠ 0) : 0 < frB t b := by
  have e := frB_mul t b
  have n := byOf_ne (t := t) h
  have q : byOf t b < 0 ↔ b < 0 := by
    have h1 : Int.gcd t b ≠ 0 := fun z => h (Int.gcd_eq_zero_iff.mp z).2
    unfold byOf
    split <;> omega
  rcases Int.lt_trichotomy (frB t b) 0 with z | z | z
  · rcases Int.lt_or_gt_of_ne n with w | w
    · have := Int.mul_pos_of_neg_of_neg z w
      have := q.mp w
      omega
    · have := Int.mul_neg_of_neg_of_pos z w
      have hb : b < 0 := by omega
      have := q.mpr hb
      omega
  · rw [z, Int.zero_mul] at e
    exact absurd e.symm h
  · exact z
theorem fr_cross {t b : Int} : frT t b * b = t * frB t b := by
  have h1 := frT_mul t b
  have h2 := frB_mul t b
  grind
theorem fr_gcd {t b : Int} (h : b ≠ 0) : Int.gcd (frT t b) (frB t b) = 1 := by
  have e : Int.gcd (frT t b * byOf t b) (frB t b * byOf t b) = Int.gcd (frT t b) (frB t b) * (byOf t b).natAbs := Int.gcd_mul_right _ _ _
  rw [frT_mul, frB_mul, byOf_abs] at e
  have h1 : 0 < Int.gcd t b := Nat.pos_of_ne_zero fun z => h (Int.gcd_eq_zero_iff.mp z).2
  exact (Nat.eq_of_mul_eq_mul_right h1 (by rw [Nat.one_mul]; exact e)).symm
theorem natAbs_le_mul {x y : Int} (h : y ≠ 0) : x.natAbs ≤ (x * y).natAbs := by
  rw [Int.natAbs_mul]
  exact Nat.le_mul_of_pos_right _ (Int.natAbs_pos.mpr h)
theorem frT_le {t b : Int} (h : b ≠ 0) : (frT t b).natAbs ≤ t.natAbs := by
  have := natAbs_le_mul (x := frT t b) (byOf_ne (t := t) h)
  rwa [frT_mul] at this
theorem frB_le {t b : Int} (h : b ≠ 0) : (frB t b).natAbs ≤ b.natAbs := by
  have := natAbs_le_mul (x := frB t b) (byOf_ne (t := t) h)
  rwa [frB_mul] at this
theorem byOf_le {t b : Int} (h : b ≠ 0) : (byOf t b).natAbs ≤ b.natAbs := by
  rw [byOf_abs]
  exact Nat.le_of_dvd (Int.natAbs_pos.mpr h) (Nat.gcd_dvd_right t.natAbs b.natAbs)
/-- the loop of a greatest divisor: state x, y -/
theorem gcd_step (x y : Int) (hy : 0 < y) : Int.gcd y (x.fmod y) = Int.gcd x y := by
  rw [Int.fmod_eq_emod_of_nonneg x (by omega), Int.gcd_comm x y]
  rw [show x % y = x + (-(x / y)) * y by rw [Int.emod_def, Int.neg_mul, Int.mul_comm]; omega]
  exact Int.gcd_add_mul_right_right _ _ _
/-- what the loop body of divisor is to do -/
theorem gcd_loop {C : Env → Rs Bool} {B : Env → Rs Out} (hC : ∀ x y : Int, C [.sh (.int x), .sh (.int y)] = .ok (decide (0 < y)))
    (hB : ∀ x y : Int, 0 < y → B [.sh (.int x), .sh (.int y)] = .ok (.nx [.sh (.int y), .sh (.int (x.fmod y))])) : ∀ (n : Nat) (x y : Int), 0 ≤ x → 0 ≤ y → y.toNat ≤ n → whL C B [.sh (.int x), .sh (.int y)] = .ok (.nx [.sh (.int (Int.gcd x y)), .sh (.int 0)])
  | 0, x, y, hx, hy, hn => by
    have : y = 0 := by omega
    subst this
    rw [whL_eq, hC]
    simp
    omega
  | n + 1, x, y, hx, hy, hn => by
    rw [whL_eq, hC]
    by_cases h : 0 < y
    · simp only [h, decide_true, z_ok, if_pos, hB x y h, z_anx]
      have hm := Int.fmod_nonneg_of_pos x h
      have hl := Int.fmod_lt_of_pos x h
      rw [gcd_loop hC hB n y (x.fmod y) (by omega) hm (by omega), gcd_step x y h]
    · have : y = 0 := by omega
      subst this
      simp
      omega
theorem abs_if (a : Int) : (if a < 0 then -a else a) = (a.natAbs : Int) := by split <;> omega
theorem gcd_abs (a b : Int) : Int.gcd (a.natAbs : Int) (b.natAbs : Int) = Int.gcd a b := by
  unfold Int.gcd
  simp
/-- a loop by an invariant -/
theorem forF_inv {T : Tgt} {B : Env → Rs Out} {ds : List PyData} (I : Nat → Env → Prop) (step : ∀ i d ρ, ds[i]? = some d → I i ρ → ∃ ρ1 ρ2, T d ρ = some ρ1 ∧ B ρ1 = .ok (.nx ρ2) ∧ I (i + 1) ρ2) :
    ∀ (n : Nat) (ρ : Env), n ≤ ds.length → I n ρ → ∃ ρ', forF T B (ds.drop n) ρ = .ok (.nx ρ') ∧ I ds.length ρ' := by
  intro n
  generalize hk : ds.length - n = k
  induction k generalizing n with
  | zero =>
    intro ρ hn hi
    have e : n = ds.length := by omega
    subst e
    exact ⟨ρ, by rw [List.drop_length]; rfl, hi⟩
  | succ k ih =>
    intro ρ hn hi
    have hlt : n < ds.length := by omega
    obtain ⟨ρ1, ρ2, e1, e2, hi2⟩ := step n ds[n] ρ (List.getElem?_eq_getElem hlt) hi
    obtain ⟨ρ', e3, hi3⟩ := ih (n + 1) (by omega) ρ2 hlt hi2
    refine ⟨ρ', ?_, hi3⟩
    rw [List.drop_eq_getElem_cons hlt]
    unfold forF
    rw [e1]
    show after (B ρ1) (forF T B (ds.drop (n + 1))) = _
    rw [e2, after_nx, e3]
theorem for_inv {T : Tgt} {B : Env → Rs Out} {ds : List PyData} {ρ : Env} (I : Nat → Env → Prop) (h0 : I 0 ρ) (step : ∀ i d ρ, ds[i]? = some d → I i ρ → ∃ ρ1 ρ2, T d ρ = some ρ1 ∧ B ρ1 = .ok (.nx ρ2) ∧ I (i + 1) ρ2) :
    ∃ ρ', forF T B ds ρ = .ok (.nx ρ') ∧ I ds.length ρ' := forF_inv I step 0 ρ (Nat.zero_le _) h0
theorem bd_mul {a b : Int} {m n : Nat} (ha : a.natAbs < 2 ^ m) (hb : b.natAbs < 2 ^ n) : (a * b).natAbs < 2 ^ (m + n) := by
  rw [Int.natAbs_mul, Nat.pow_add]
  exact Nat.mul_lt_mul'' ha hb
theorem bd_add {a b : Int} {m : Nat} (ha : a.natAbs < 2 ^ m) (hb : b.natAbs < 2 ^ m) : (a + b).natAbs < 2 ^ (m + 1) := by
  rw [Nat.pow_succ]
  omega
theorem bd_sub {a b : Int} {m : Nat} (ha : a.natAbs < 2 ^ m) (hb : b.natAbs < 2 ^ m) : (a - b).natAbs < 2 ^ (m + 1) := by
  rw [Nat.pow_succ]
  omega
theorem bd_mono {a : Int} {m n : Nat} (ha : a.natAbs < 2 ^ m) (h : m ≤ n) : a.natAbs < 2 ^ n := Nat.lt_of_lt_of_le ha (Nat.pow_le_pow_right (by decide) h)
theorem bd_le {a b : Int} {m : Nat} (h : a.natAbs ≤ b.natAbs) (hb : b.natAbs < 2 ^ m) : a.natAbs < 2 ^ m := Nat.lt_of_le_of_lt h hb
end PF

namespace PF
open PySem L2

/-! ### reckoning rules, continued -/
section
variable {ρ : Env} {F G : Env → Rs PyData} {Fv : Env → Rs Sl} {Fs : Env → Rs (List PyData)} {B : Env → Rs Unit} {i j : Nat}
@[simp] theorem z_isE (f : Nat → Bool) : fIsE i f ρ = isES f ρ[i]? := (rfl)
@[simp] theorem z_isEx (f : Nat → Bool) (c : Nat) (p : Option Int) : isES f (some (.exn ⟨c, p⟩)) = if eOk c then .ok (.bool (f c)) else .stuck := (rfl)
@[simp] theorem z_isEn (f : Nat → Bool) : isES f (some (.sh .none)) = .ok (.bool false) := (rfl)
@[simp] theorem z_eSub (a b : Nat) : eSub a b = (a == b || b == 0) := (rfl)
@[simp] theorem z_drop : fDrop Fv ρ = (Fv ρ >>= fun _ => .ok ()) := (rfl)
theorem z_try : fTry i j B ρ = match B ρ with
  | .ok _ => .ok (.nx ρ)
  | .err x => if eOk x.cls ∧ i < ρ.length then .ok (.nx (((ρ.set i .no).set j (.exn x)).set i .no)) else .stuck
  | .stuck => .stuck := rfl
@[simp] theorem z_place : fPlace i ρ = placeS ρ[i]? := (rfl)
@[simp] theorem z_placeS (p : Int) : placeS (some (.exn ⟨5, some p⟩)) = .ok (.int p) := (rfl)
@[simp] theorem z_noneV : fNoneV i ρ = noneS ρ[i]? := (rfl)
@[simp] theorem z_noneSx (x : Exn) : noneS (some (.exn x)) = .ok (.bool false) := (rfl)
@[simp] theorem z_noneSn : noneS (some (.sh .none)) = .ok (.bool true) := (rfl)
@[simp] theorem z_slRete (x : Exn) : slRet (some (.exn x)) = .ok (.exn x) := (rfl)
@[simp] theorem z_app : fApp i F ρ = (ownL ρ[i]? >>= fun ds => F ρ >>= fun d => appD ds [d] >>= fun ds' => .ok (.nx (ρ.set i (.ol ds')))) := by
  unfold fApp fMut
  simp only [z_cons, z_nil, z_ok]
  cases ownL ρ[i]? with
  | ok ds => simp only [z_ok]; cases F ρ <;> rfl
  | err x => rfl
  | stuck => rfl
@[simp] theorem z_clrF : fClr i ρ = (ownL ρ[i]? >>= fun ds => .ok (.nx (ρ.set i (.ol [])))) := by
  unfold fClr fMut
  cases ownL ρ[i]? <;> rfl
@[simp] theorem z_revF : fRevs i ρ = (ownL ρ[i]? >>= fun ds => .ok (.nx (ρ.set i (.ol ds.reverse)))) := by
  unfold fRevs fMut
  cases ownL ρ[i]? <;> rfl
@[simp] theorem z_setIx : fSetIx i F G ρ = (F ρ >>= fun d => ownL ρ[i]? >>= fun ds => G ρ >>= fun k => setP ds k d >>= fun ds' => .ok (.nx (ρ.set i (.ol ds')))) := (rfl)
theorem setP_nat {ds : List PyData} {k : Nat} {d : PyData} (h : k < ds.length) : setP ds (.int k) d = .ok (ds.set k d) := by
  have e : ixN ds.length (k : Int) = some k := by
    unfold ixN
    simp
    omega
  show (match ixN ds.length (k : Int) with
    | some j => Rs.ok (ds.set j d)
    | none => .stuck) = _
  rw [e]
theorem setP_int {ds : List PyData} {k : Int} {d : PyData} (h0 : 0 ≤ k) (h : k < ds.length) : setP ds (.int k) d = .ok (ds.set k.toNat d) := by
  have e : k = ((k.toNat : Nat) : Int) := by omega
  rw [e, setP_nat (by omega)]
  rfl
@[simp] theorem z_rep (Fb : Env → Rs PyData) : fRep Fv Fb ρ = (Fv ρ >>= fun s => Fb ρ >>= fun k => repD s k) := (rfl)
theorem repD_ok {ds : List PyData} {k : Nat} (h : ds.length * k ≤ lim) (hk : k ≤ lim) : repD (.ol ds) (.int k) = .ok (.ol (List.replicate k ds).flatten) := by
  have hz : (lim : Nat) < 2 ^ 62 := by decide
  unfold repD
  simp only [Int.toNat_natCast]
  rw [if_pos ⟨by omega, by omega, h⟩]
theorem rep_one (k : Nat) (d : PyData) : (List.replicate k [d]).flatten = List.replicate k d := by
  induction k with
  | zero => rfl
  | succ k ih => rw [List.replicate_succ, List.flatten_cons, ih, List.replicate_succ]; rfl
@[simp] theorem z_tgL (n : Nat) (Ts : Tgts) (ds : List PyData) : tgL n Ts (.list ds) ρ = if ds.length = n then Ts ds ρ else none := (rfl)
end
theorem all_truD_int (xs : List Int) : (xs.map PyData.int).all (fun d => (truD d).isSome) = true := by
  rw [List.all_eq_true]
  intro d h
  obtain ⟨i, _, rfl⟩ := List.mem_map.mp h
  rfl
theorem any_tru_int (xs : List Int) : (xs.map PyData.int).any tru = xs.any (fun i => i != 0) := by
  rw [List.any_map]
  rfl
theorem anyD_list (xs : List Int) : anyD (.list (xs.map .int)) = .ok (.bool (xs.any fun i => i != 0)) := by
  rw [← any_tru_int]
  exact if_pos (all_truD_int xs)
theorem anyD_tuple (xs : List Int) : anyD (.tuple (xs.map .int)) = .ok (.bool (xs.any fun i => i != 0)) := by
  rw [← any_tru_int]
  exact if_pos (all_truD_int xs)
/-! slices -/
theorem cutP_init (ds : List PyData) : cutP ds none (some (-1)) = ds.dropLast := by
  unfold cutP
  have e : HT.sIx ds.length ds.length (some (-1)) = ds.length - 1 := by
    show (if (-1 : Int) < 0 then ((-1 : Int) + (ds.length : Int)).toNat else min (-1 : Int).toNat ds.length) = _
    rw [if_pos (by omega)]
    omega
  rw [e, HT.sIx_none, List.drop_zero, Nat.sub_zero, List.dropLast_eq_take]
theorem cutP_take (ds : List PyData) (k : Nat) : cutP ds none (some (k : Int)) = ds.take k := by
  unfold cutP
  rw [HT.sIx_nat, HT.sIx_none, List.drop_zero, Nat.sub_zero]
  by_cases h : k ≤ ds.length
  · rw [Nat.min_eq_left h]
  · rw [Nat.min_eq_right (by omega), List.take_of_length_le (Nat.le_refl _), List.take_of_length_le (by omega)]
theorem cutP_drop (ds : List PyData) (k : Nat) : cutP ds (some (k : Int)) none = ds.drop k := by
  unfold cutP
  rw [HT.sIx_nat, HT.sIx_none, ← List.length_drop, List.take_of_length_le (Nat.le_refl _)]
  by_cases h : k ≤ ds.length
  · rw [Nat.min_eq_left h]
  · rw [Nat.min_eq_right (by omega), List.drop_of_length_le (Nat.le_refl _), List.drop_of_length_le (by omega)]
theorem cutP_mid (ds : List PyData) (a b : Nat) : cutP ds (some (a : Int)) (some (b : Int)) = (ds.drop a).take (b - a) := by
  unfold cutP
  rw [HT.sIx_nat, HT.sIx_nat]
  by_cases h : a ≤ ds.length
  · rw [Nat.min_eq_left h]
    by_cases h2 : b ≤ ds.length
    · rw [Nat.min_eq_left h2]
    · rw [Nat.min_eq_right (by omega), ← List.length_drop, List.take_of_length_le (Nat.le_refl _), List.take_of_length_le (by rw [List.length_drop]; omega)]
  · have e : min a ds.length = ds.length := Nat.min_eq_right (by omega)
    rw [e, List.drop_of_length_le (Nat.le_refl _), List.drop_of_length_le (show ds.length ≤ a by omega)]
    simp
@[simp] theorem ix_last (ds : List PyData) (d : PyData) : getP (ds ++ [d]) (-1) = .ok d := by
  unfold getP
  rw [L2.atI_last]
end PF
namespace PF
open PySem L2
@[simp] theorem z_neB (a b : Bool) : neD (.bool a) (.bool b) = .ok (.bool (!(a == b))) := (rfl)
@[simp] theorem z_eqB (a b : Bool) : eqD (.bool a) (.bool b) = .ok (.bool (a == b)) := (rfl)
@[simp] theorem z_isiBB (a : Bool) : isiD "bool" (.bool a) = .ok (.bool true) := kit_bool (.bool a)
@[simp] theorem z_isiIB (a : Bool) : isiD "int" (.bool a) = .ok (.bool true) := kit_int (.bool a)
theorem pow2_le {m n : Nat} (h : m ≤ n) : (2 : Int) ^ m ≤ 2 ^ n := by
  have := Nat.pow_le_pow_right (n := 2) (by decide) h
  exact_mod_cast this
theorem cutP_all63 (ns : List Int) (h : ns.length ≤ 63) : cutP (ns.map PyData.int) none (some 63) = ns.map .int := by
  rw [show (63 : Int) = ((63 : Nat) : Int) from rfl, cutP_take, List.take_of_length_le (by rw [List.length_map]; exact h)]
end PF
namespace PF
open PySem L2
theorem z_lend (i : Nat) (F : Env → Rs Sl) (ρ : Env) : fLend i F ρ = match ρ[i]? with
  | some (.ol _) => F (fz1 i ρ) >>= lendCk
  | _ => F ρ := (rfl)
theorem lendCk_ok {s : Sl} (h : slFree s = true) : lendCk s = .ok s := if_pos h
@[simp] theorem z_lendSh (d : PyData) : lendCk (.sh d) = if lfree d = true then .ok (.sh d) else .stuck := (rfl)
@[simp] theorem z_lfI (i : Int) : lfree (.int i) = true := by simp [lfree]
@[simp] theorem z_lfB (i : Bool) : lfree (.bool i) = true := by simp [lfree]
@[simp] theorem z_lfN : lfree .none = true := by simp [lfree]
@[simp] theorem z_lfT (ds : List PyData) : lfree (.tuple ds) = lfreeAll ds := by simp [lfree]
@[simp] theorem z_lfA0 : lfreeAll [] = true := by simp [lfreeAll]
@[simp] theorem z_lfA1 (d : PyData) (ds : List PyData) : lfreeAll (d :: ds) = (lfree d && lfreeAll ds) := by simp [lfreeAll]
theorem lfree_ints (xs : List Int) : lfreeAll (xs.map .int) = true := by
  induction xs with
  | nil => simp
  | cons x xs ih => simp [ih]
end PF

namespace PF
open PySem L2

/-! ### loops and comprehensions, reckoned -/
def natD (n : Nat) : PyData := .int (n : Int)
theorem rng1_ok {j : Int} (h : small62 j) : rng1 [.int j] = .ok (rangeD 0 j) := if_pos h
theorem rng2_ok2 {i j : Int} (h : small62 i ∧ small62 j) : rng2 [.int i, .int j] = .ok (rangeD i j) := if_pos h
theorem rng1_nat {n : Nat} (h : n < 2 ^ 60) : rng1 [.int (n : Int)] = .ok ((List.range n).map natD) := by
  have hs : small62 (n : Int) := by unfold small62; omega
  rw [rng1_ok hs]
  unfold rangeD natD
  simp
theorem rng1_int {i : Int} (h0 : 0 ≤ i) (h : i < 2 ^ 60) : rng1 [.int i] = .ok ((List.range i.toNat).map natD) := by
  have e : i = ((i.toNat : Nat) : Int) := by omega
  rw [e, rng1_nat (by omega)]
  rfl
theorem rng2_nat {a n : Nat} (h : n < 2 ^ 60) (ha : a < 2 ^ 60) : rng2 [.int (a : Int), .int (n : Int)] = .ok ((List.range (n - a)).map fun i => natD (a + i)) := by
  have hs : small62 (n : Int) := by unfold small62; omega
  have hs2 : small62 (a : Int) := by unfold small62; omega
  rw [rng2_ok2 ⟨hs2, hs⟩]
  unfold rangeD natD
  have e2 : ((n : Int) - a).toNat = n - a := by omega
  rw [e2]
  congr 1
theorem lcF_of {α : Type} {T : Tgt} {C : Env → Rs Bool} {F : Env → Rs PyData} {ρ0 : Env} (m : α → PyData) (p : α → Bool) (e : α → PyData) : ∀ (xs : List α) (acc : List PyData),
    (∀ x ∈ xs, ∃ ρ1, T (m x) ρ0 = some ρ1 ∧ C ρ1 = .ok (p x) ∧ (p x = true → F ρ1 = .ok (e x))) → acc.length + xs.length ≤ lim → lcF T C F ρ0 (xs.map m) acc = .ok (acc ++ (xs.filter p).map e)
  | [], acc, _, _ => by simp [lcF]
  | x :: xs, acc, h, hl => by
    obtain ⟨ρ1, e1, e2, e3⟩ := h x List.mem_cons_self
    rw [List.length_cons] at hl
    rw [List.map_cons]
    unfold lcF
    rw [e1]
    show (C ρ1 >>= fun b => if b = true then F ρ1 >>= fun y => (if acc.length < lim then lcF T C F ρ0 (xs.map m) (acc ++ [y]) else .stuck) else lcF T C F ρ0 (xs.map m) acc) = _
    rw [e2, z_ok]
    cases hp : p x with
    | true =>
      rw [if_pos rfl, e3 hp, z_ok, if_pos (by omega), lcF_of m p e xs (acc ++ [e x]) (fun y hy => h y (List.mem_cons_of_mem _ hy)) (by rw [List.length_append, List.length_singleton]; omega)]
      rw [List.filter_cons_of_pos hp, List.map_cons, List.append_assoc]
      rfl
    | false =>
      rw [if_neg Bool.false_ne_true, lcF_of m p e xs acc (fun y hy => h y (List.mem_cons_of_mem _ hy)) (by omega), List.filter_cons_of_neg (by rw [hp]; exact Bool.false_ne_true)]
/-- a comprehension -/
theorem lcS_of {α : Type} {S : Env → Rs (List PyData)} {T : Tgt} {C : Env → Rs Bool} {F : Env → Rs PyData} {vs : List Nat} {ρ : Env} (xs : List α) (m : α → PyData) (p : α → Bool) (e : α → PyData) (hS : S ρ = .ok (xs.map m))
    (h : ∀ x ∈ xs, ∃ ρ1, T (m x) (wipeE ρ vs) = some ρ1 ∧ C ρ1 = .ok (p x) ∧ (p x = true → F ρ1 = .ok (e x))) (hl : xs.length ≤ lim) : fLcS S T C F vs ρ = .ok (.ol ((xs.filter p).map e)) := by
  have e1 : fLc S T C F vs ρ = .ok (.ol ((xs.filter p).map e)) := by
    unfold fLc
    rw [hS, ok_bind, lcF_of m p e xs [] h (by simpa using hl)]
    rfl
  unfold fLcS
  rw [e1]
/-- .. without a test -/
theorem lcS_map {α : Type} {S : Env → Rs (List PyData)} {T : Tgt} {F : Env → Rs PyData} {vs : List Nat} {ρ : Env} (xs : List α) (m : α → PyData) (e : α → PyData) (hS : S ρ = .ok (xs.map m))
    (h : ∀ x ∈ xs, ∃ ρ1, T (m x) (wipeE ρ vs) = some ρ1 ∧ F ρ1 = .ok (e x)) (hl : xs.length ≤ lim) : fLcS S T fYes F vs ρ = .ok (.ol (xs.map e)) := by
  have k := lcS_of (C := fYes) xs m (fun _ => true) e hS (fun x hx => by
    obtain ⟨ρ1, a, b⟩ := h x hx
    exact ⟨ρ1, a, rfl, fun _ => b⟩) hl
  rw [k, List.filter_eq_self.mpr fun _ _ => rfl]
/-- a loop whose state is told -/
theorem for_fold {α σ : Type} {T : Tgt} {B : Env → Rs Out} (st : σ → Env) (m : α → PyData) (f : σ → α → σ) (I : σ → Prop) : ∀ (xs : List α) (s : σ), I s → (∀ s a, a ∈ xs → I s → I (f s a) ∧ ∃ ρ1, T (m a) (st s) = some ρ1 ∧ B ρ1 = .ok (.nx (st (f s a)))) →
    forF T B (xs.map m) (st s) = .ok (.nx (st (xs.foldl f s))) ∧ I (xs.foldl f s)
  | [], s, hi, _ => ⟨rfl, hi⟩
  | a :: xs, s, hi, h => by
    obtain ⟨hi2, ρ1, e1, e2⟩ := h s a List.mem_cons_self hi
    have ih := for_fold st m f I xs (f s a) hi2 fun s b hb hi => h s b (List.mem_cons_of_mem _ hb) hi
    refine ⟨?_, ih.2⟩
    rw [List.map_cons]
    unfold forF
    rw [e1]
    show after (B ρ1) (forF T B (xs.map m)) = _
    rw [e2, after_nx]
    exact ih.1
@[simp] theorem wipe_nil (ρ : Env) : wipeE ρ [] = ρ := rfl
end PF

namespace PF
open PySem L2

/-! ### the plain form of a row -/
def gcdF (g x : Int) : Int := Int.gcd g x
def leadF (l x : Int) : Int := if l = 0 then x else l
def gcdL (xs : List Int) : Int := xs.foldl gcdF 0
def leadL (xs : List Int) : Int := xs.foldl leadF 0
def plainBy (xs : List Int) : Int := if leadL xs < 0 then 0 - gcdL xs else gcdL xs
def plainL (xs : List Int) : List Int := xs.map fun x => x.fdiv (plainBy xs)
def plainF (s : Int × Int × Sl) (a : Int) : Int × Int × Sl := (gcdF s.1 a, leadF s.2.1 a, .sh (.int a))
theorem plainF_fold : ∀ (xs : List Int) (s : Int × Int × Sl), ∃ y, xs.foldl plainF s = (xs.foldl gcdF s.1, xs.foldl leadF s.2.1, y)
  | [], s => ⟨s.2.2, rfl⟩
  | a :: xs, s => plainF_fold xs (plainF s a)
theorem gcdF_dvd : ∀ (xs : List Int) (g : Int), (xs.foldl gcdF g ∣ g) ∧ ∀ x ∈ xs, xs.foldl gcdF g ∣ x
  | [], g => ⟨Int.dvd_refl g, fun _ h => nomatch h⟩
  | a :: xs, g => by
    obtain ⟨h1, h2⟩ := gcdF_dvd xs (gcdF g a)
    refine ⟨Int.dvd_trans h1 (Int.gcd_dvd_left g a), fun x hx => ?_⟩
    rcases List.mem_cons.mp hx with rfl | hx
    · exact Int.dvd_trans h1 (Int.gcd_dvd_right g x)
    · exact h2 x hx
theorem gcdF_nonneg : ∀ (xs : List Int) (g : Int), 0 ≤ g → 0 ≤ xs.foldl gcdF g
  | [], _, h => h
  | a :: xs, g, _ => gcdF_nonneg xs (gcdF g a) (by unfold gcdF; omega)
theorem gcdL_dvd {xs : List Int} {x : Int} (h : x ∈ xs) : gcdL xs ∣ x := (gcdF_dvd xs 0).2 x h
theorem gcdL_pos {xs : List Int} (h : ∃ x ∈ xs, x ≠ 0) : 0 < gcdL xs := by
  obtain ⟨x, hx, h0⟩ := h
  have h1 := gcdF_nonneg xs 0 (by decide)
  rcases Int.lt_or_eq_of_le h1 with q | q
  · exact q
  · have d := gcdL_dvd hx
    rw [show gcdL xs = 0 from q.symm] at d
    exact absurd (Int.zero_dvd.mp d) h0
theorem plainBy_ne {xs : List Int} (h : ∃ x ∈ xs, x ≠ 0) : plainBy xs ≠ 0 := by
  have := gcdL_pos h
  unfold plainBy
  split <;> omega
theorem plainBy_dvd {xs : List Int} {x : Int} (h : x ∈ xs) : plainBy xs ∣ x := by
  unfold plainBy
  split
  · rw [Int.zero_sub, Int.neg_dvd]; exact gcdL_dvd h
  · exact gcdL_dvd h
theorem plain_mul {xs : List Int} {x : Int} (h : x ∈ xs) : x.fdiv (plainBy xs) * plainBy xs = x := fdiv_mul_of_dvd (plainBy_dvd h)
theorem plainL_len (xs : List Int) : (plainL xs).length = xs.length := List.length_map _
theorem plain_le {xs : List Int} {x : Int} (hn : ∃ x ∈ xs, x ≠ 0) (h : x ∈ xs) : (x.fdiv (plainBy xs)).natAbs ≤ x.natAbs := by
  have := natAbs_le_mul (x := x.fdiv (plainBy xs)) (plainBy_ne hn)
  rwa [plain_mul h] at this
theorem plain_ne {xs : List Int} {x : Int} (h : x ∈ xs) (h0 : x ≠ 0) : x.fdiv (plainBy xs) ≠ 0 := fun z => by
  have := plain_mul h
  rw [z, Int.zero_mul] at this
  exact h0 this.symm
theorem gcdL_le {xs : List Int} {x : Int} (h : x ∈ xs) (h0 : x ≠ 0) : (gcdL xs).natAbs ≤ x.natAbs := Nat.le_of_dvd (Int.natAbs_pos.mpr h0) (Int.natAbs_dvd_natAbs.mpr (gcdL_dvd h))
theorem plainBy_abs (xs : List Int) : (plainBy xs).natAbs = (gcdL xs).natAbs := by
  unfold plainBy
  split
  · rw [Int.zero_sub, Int.natAbs_neg]
  · rfl
end PF

namespace PF
open PySem L2

/-! ### data that may be compared -/
structure DOk (n : Nat) (d : PyData) : Prop where
  lay : d.canLay0 = true
  dep : d.depth ≤ n
theorem dok_int (i : Int) : DOk 0 (.int i) := ⟨by simp [PyData.canLay0], by simp [PyData.depth]⟩
theorem DOk.mono {m n : Nat} {d : PyData} (h : DOk m d) (hl : m ≤ n) : DOk n d := ⟨h.lay, Nat.le_trans h.dep hl⟩
theorem dokAll {n : Nat} : ∀ {ds : List PyData}, (∀ d ∈ ds, DOk n d) → PyData.canLayAll0 ds = true ∧ PyData.depthAll ds ≤ n
  | [], _ => ⟨by simp [PyData.canLayAll0], by simp [PyData.depthAll]⟩
  | d :: ds, h => by
    obtain ⟨h1, h2⟩ := dokAll (ds := ds) fun x hx => h x (List.mem_cons_of_mem _ hx)
    obtain ⟨h3, h4⟩ := h d List.mem_cons_self
    refine ⟨by simp [PyData.canLayAll0, h1, h3], ?_⟩
    simp only [PyData.depthAll]
    omega
theorem dok_tuple {n : Nat} {ds : List PyData} (h : ∀ d ∈ ds, DOk n d) : DOk (n + 1) (.tuple ds) := by
  obtain ⟨h1, h2⟩ := dokAll h
  refine ⟨by simp only [PyData.canLay0]; exact h1, ?_⟩
  simp only [PyData.depth]
  omega
theorem dok_list {n : Nat} {ds : List PyData} (h : ∀ d ∈ ds, DOk n d) : DOk (n + 1) (.list ds) := by
  obtain ⟨h1, h2⟩ := dokAll h
  refine ⟨by simp only [PyData.canLay0]; exact h1, ?_⟩
  simp only [PyData.depth]
  omega
theorem dok_shaped {d : PyData} (h : DOk 60 d) : SeqAt.shaped d = true := by
  show (d.canLay0 && decide (d.depth ≤ 64)) = true
  rw [Bool.and_eq_true]
  exact ⟨h.lay, decide_eq_true (Nat.le_trans h.dep (by decide))⟩
theorem eqv_self {d : PyData} (h : d.canLay0 = true) : PyData.eqv d d = true := SeqAt.eqv_refl d h
theorem eqD_self {d : PyData} (h : DOk 60 d) : eqD d d = .ok (.bool true) := by
  unfold eqD
  rw [if_pos ⟨dok_shaped h, dok_shaped h⟩, eqv_self h.lay]
theorem neD_self {d : PyData} (h : DOk 60 d) : neD d d = .ok (.bool false) := by
  unfold neD
  rw [if_pos ⟨dok_shaped h, dok_shaped h⟩, eqv_self h.lay]
  rfl
/-- a tuple of ints -/
def TD (xs : List Int) : PyData := .tuple (xs.map .int)
theorem dok_TD (xs : List Int) : DOk 1 (TD xs) := dok_tuple fun d hd => by
  obtain ⟨i, _, rfl⟩ := List.mem_map.mp hd
  exact dok_int i
theorem dok_LTD (s : List (List Int)) : DOk 2 (.list (s.map TD)) := dok_list fun d hd => by
  obtain ⟨i, _, rfl⟩ := List.mem_map.mp hd
  exact dok_TD i
/-- is W among s -/
def hasTD (s : List (List Int)) (W : List Int) : Bool := (s.map TD).any fun z => PyData.eqv z (TD W)
theorem ninD_TD (s : List (List Int)) (W : List Int) : ninD (TD W) (.list (s.map TD)) = .ok (.bool (!hasTD s W)) := by
  have h1 := dok_shaped ((dok_TD W).mono (by decide))
  have h2 := dok_shaped ((dok_LTD s).mono (by decide))
  exact if_pos ⟨h1, h2⟩
theorem inD_TD (s : List (List Int)) (W : List Int) : inD (TD W) (.list (s.map TD)) = .ok (.bool (hasTD s W)) := by
  have h1 := dok_shaped ((dok_TD W).mono (by decide))
  have h2 := dok_shaped ((dok_LTD s).mono (by decide))
  exact if_pos ⟨h1, h2⟩
def addTD (s : List (List Int)) (W : List Int) : List (List Int) := if hasTD s W = true then s else s ++ [W]
theorem addTD_len (s : List (List Int)) (W : List Int) : (addTD s W).length ≤ s.length + 1 := by
  unfold addTD
  split
  · omega
  · rw [List.length_append, List.length_singleton]; omega
@[simp] theorem z_eq00 : neD (.list []) (.list []) = .ok (.bool false) := neD_self ⟨by simp [PyData.canLay0, PyData.canLayAll0], by simp [PyData.depth, PyData.depthAll]⟩
/-! the first that is not nought -/
theorem heads_lead : ∀ (ys : List Int) (l : Int), ys.foldl leadF l = if l = 0 then (ys.filter (fun i => i != 0)).headD 0 else l
  | [], l => by
    by_cases h : l = 0
    · rw [if_pos h]; exact h
    · rw [if_neg h]; rfl
  | y :: ys, l => by
    rw [List.foldl_cons, heads_lead ys]
    unfold leadF
    by_cases h : l = 0
    · rw [if_pos h, if_pos h]
      by_cases hy : y = 0
      · rw [if_pos hy, List.filter_cons_of_neg (by simp [hy])]
      · rw [if_neg hy, List.filter_cons_of_pos (by simp [hy])]
        rfl
    · rw [if_neg h, if_neg h, if_neg h]
theorem lead_init {ys : List Int} {z : Int} (h : ∃ y ∈ ys, y ≠ 0) : ∃ hd tl, ys.filter (fun i => i != 0) = hd :: tl ∧ hd ≠ 0 ∧ leadL (ys ++ [z]) = hd ∧ leadL ys = hd := by
  obtain ⟨y, hy, h0⟩ := h
  have hm : y ∈ ys.filter (fun i => i != 0) := List.mem_filter.mpr ⟨hy, by simpa using h0⟩
  have e := heads_lead ys 0
  cases hf : ys.filter (fun i => i != 0) with
  | nil => rw [hf] at hm; cases hm
  | cons hd tl =>
    have hh : hd ∈ ys.filter (fun i => i != 0) := by rw [hf]; exact List.mem_cons_self
    have hne : hd ≠ 0 := by simpa using (List.mem_filter.mp hh).2
    rw [hf, if_pos rfl] at e
    have e : ys.foldl leadF 0 = hd := e
    refine ⟨hd, tl, rfl, hne, ?_, e⟩
    unfold leadL
    rw [List.foldl_append, e]
    exact if_neg hne
theorem gcd_one {xs : List Int} (h : (1 : Int) ∈ xs) : gcdL xs = 1 := by
  have h1 := gcdL_dvd h
  have h2 := gcdL_pos ⟨1, h, by decide⟩
  exact Int.eq_one_of_dvd_one (by omega) h1
end PF

namespace PF
open PySem L2

/-! ### xs[:c] = ys, ys another list -/
theorem headBounds {c n : Nat} (h : c ≤ n) : sliceBounds none (some (c : Int)) none n = (0, (c : Int), 1) := by
  unfold sliceBounds
  simp only [Option.getD_none, show (1 : Int) > 0 by decide, if_true, show ¬ ((c : Int) < 0) by omega, if_false]
  rw [show max 0 (min (c : Int) (n : Int)) = c by omega]
section
variable {prog : Program} {w : World} {A : Around} {E : Value → Shared → Prop} {s : Shared}
theorem setHead {p b sl : Addr} {its new : Array Value} {n n2 : Nat} {vu : Value} {c : Nat} {Q : Unit → Shared → Prop} (ep : s.heap.get? p = some { cls := .type "list", data := .seq its n }) (eb : s.heap.get? b = some { cls := .type "list", data := .seq new n2 }) (hpb : p ≠ b)
    (es : s.heap.IsSliceOf sl .none vu .none) (pu : IsPart vu (some (c : Int))) (hc : c ≤ its.size) (hz : its.size + new.size ≤ sizeLine) (h : Q () { s with heap := s.heap.update p (Obj.mapSeq fun xs => xs.extract 0 0 ++ new ++ xs.extract c xs.size) }) :
    wpAny (model prog w) A (setItem (.ref p) (.ref sl) (.ref b)) Q E s := by
  have lp : s.heap.IsList p its := PySem.IsL.isList ep
  have lb : s.heap.IsList b new := PySem.IsL.isList eb
  obtain ⟨o, ho, hoc, hod⟩ := id es
  have ts : s.TypeIs (.ref sl) "slice" := ⟨o, ho, hoc⟩
  have ns : Builtin.List.listSameRef (.ref p) (.ref b) = false := by
    unfold Builtin.List.listSameRef
    exact beq_false_of_ne (by first | exact hpb | exact fun z => hpb (Value.ref.inj z))
  have big : ((fun xs : Array Value => xs.extract 0 0 ++ new ++ xs.extract c xs.size) its).size ≤ sizeLine + 1 := by
    simp only [Array.size_append, Array.size_extract]; omega
  have mx : (max (0 : Int) (c : Int)).toNat = c := by omega
  have bd := (sliceIndices_raw none (some (c : Int)) none its.size (by simp)).trans (congrArg (pure : Int × Int × Int → Sem (Int × Int × Int)) (headBounds hc))
  unfold setItem
  refine wpAny_holding (wpAny_bind (wpAny_sequenceKey lp.typeIs (by decide) ?_))
  refine wpAny_bind (wpAny_callSpecial?_slot (name := "__setitem__") lp.typeIs slot_list_setitem (wpAny_call_entry slot_list_setitem lp.typeIs entry_list_setitem ?_ (args_list_setitem _ _ _)))
  show wpAny _ _ (Builtin.List.listSubscript? (.ref sl) >>= _) _ _ s
  unfold Builtin.List.listSubscript?
  refine wpAny_bind (wpAny_bind (wpAny_specialOf ts slice_no_index ?_))
  simp only [Option.isNone_none, if_true]
  refine wpAny_pure ?_
  show wpAny _ _ (typeOf (.ref sl) >>= _) _ _ s
  refine wpAny_bind (wpAny_typeOf ts ?_)
  rw [if_neg (by decide), listSliceParts_eq]
  refine wpAny_bind (wpAny_bind (wpAny_field ho hod (x := .none) rfl (wpAny_bind (wpAny_listPart (k := none) .none ?_))))
  rw [if_neg (show ¬ ((rawPart none == rawInt 0) = true) from Bool.false_ne_true)]
  refine wpAny_bind (wpAny_field ho hod (x := .none) rfl (wpAny_bind (wpAny_listPart (k := none) .none (wpAny_bind (wpAny_field ho hod (x := vu) rfl (wpAny_bind (wpAny_listPart pu (wpAny_pure ?_))))))))
  dsimp only
  rw [if_neg (by rw [ns]; exact Bool.false_ne_true)]
  refine wpAny_bind (m := Builtin.List.listAllItems (.ref b) _) ?_
  unfold Builtin.List.listAllItems
  refine wpAny_bind (wpAny_typeOf lb.typeIs ?_)
  rw [if_pos (by decide)]
  unfold Builtin.List.listItems
  refine wpAny_bind (wpAny_seqItems eb rfl (wpAny_pure (wpAny_bind (wpAny_bind (wpAny_seqItems ep rfl (wpAny_pure (wpAny_bind (wpAny_of_eq bd ?_))))))))
  show wpAny _ _ (if ((1 : Int) == 1) = true then _ else _) _ _ s
  rw [if_pos (by decide)]
  refine wpAny_bind (wpAny_rule ?_)
  simp only [notLongL hz, Bool.false_eq_true, if_false]
  first | refine wpAny_bind (wpAny_pure ?_) | skip
  show wpAny _ _ (updateSeq p (fun xs => xs.extract 0 0 ++ new ++ xs.extract (max (0 : Int) (c : Int)).toNat xs.size) >>= _) _ _ s
  rw [mx]
  refine wpAny_bind (wpAny_updateSeq (hz := Nat.le_trans (Nat.le_add_right _ _) hz) (_hz' := big) ep rfl (wpAny_bind (wpAny_letGo ?_)))
  first | exact wpAny_bind (wpAny_pure (wpAny_pure ⟨.none, rfl, wpAny_pure h⟩)) | exact wpAny_pure ⟨.none, rfl, wpAny_pure h⟩
end
def gHead (to : TE) (tl th : TO) : TG := fun v σ H Q => to σ H fun o H1 => tl σ H1 fun l H2 => th σ H2 fun u H3 => ∃ (p b : Addr) (xs ys : List V) (c : Nat), l = none ∧ o = .ref p ∧ v = .ref b ∧ u = some (c : Int) ∧ p ≠ b ∧ H3 p = some (.lst xs) ∧ H3 b = some (.lst ys) ∧ c ≤ xs.length ∧
  xs.length + ys.length ≤ sizeLine ∧ Q σ (upd H3 p (.lst (ys ++ xs.drop c)))
theorem pg_head {X : Cx} {o : Expr} {hi : Option Expr} {to : TE} {tl th : TO} {p2 pos : Pos} (ho : PE X o to) (hl : PO X none tl) (hh : PO X hi th) : PG X (.Subscript o (.Slice none hi none p2) pos) (gHead to tl th) := by
  refine ⟨fun pins s σ H v u Q I r h => ?_⟩
  show wpAny _ _ (do
      let ov ← holding [u] (eval o X.env)
      let iv ← holding [u, ov] (eval (.Slice none hi none p2) X.env)
      standAt pos
      holding [u, ov, iv] (setItem ov iv u)
      release [iv, u, ov] []) _ _ _
  refine wpAny_bind (wpAny_holding (thn (ho.run pins s σ H _ I h) fun ov s1 ⟨x, H1, I1, r1, q1⟩ => ?_))
  refine wpAny_bind (wpAny_holding (wpAny_Slice (thn (hl.run pins s1 σ H1 _ I1 q1) fun vl s2 ⟨l, H2, I2, pl, q2⟩ => thn (hh.run pins s2 σ H2 _ I2 q2) fun vu s3 ⟨w, H3, I3, pu, q3⟩ => ?_)))
  rw [evalPart_none]
  refine wpAny_pure ?_
  obtain ⟨p, b, xs, ys, c, rfl, rfl, rfl, rfl, hne, hp, hb, hc, hz, q⟩ := q3
  cases pl
  cases (show ov = Value.ref p from r1)
  cases (show u = Value.ref b from r)
  have I4 : Inv X pins σ H3 { s3 with heap := s3.heap.push { cls := .type "slice", data := .fields #[.none, vu, .none] } } := I3.kept (t' := s3.toks) fun b ob q => Heap.get?_push_of_some _ q
  refine wpAny_bind (wpAny_standAt (wpAny_bind (wpAny_holding ?_)))
  obtain ⟨z, its, n, rv, hlx, e⟩ := I4.lstM hp
  obtain ⟨z2, its2, n2, rv2, hlx2, e2⟩ := I4.lstM hb
  refine setHead (c := c) e e2 hne (Heap.IsSliceOf.new ..) pu (by rw [List.size_toArray]; omega) (by rw [List.size_toArray, List.size_toArray]; omega) (wpAny_release ⟨σ, upd H3 p (.lst (ys ++ xs.drop c)), ?_, q⟩)
  refine I4.lset (its' := its2 ++ its.drop c) (t' := s3.toks) hp e ?_ (Vals.append rv2 (rv.drop _)) ?_
  · have := splice_eq its its2 0 c
    rw [List.take_zero, List.nil_append] at this
    exact this
  · rw [List.length_append, List.length_drop]
    omega
/-- xs[:c] = ys -/
def headP (s : Sl) (ds : List PyData) (o : Option Int) : Rs (List PyData) := match s, o with
  | .ol es, some c => if 0 ≤ c ∧ c ≤ ds.length ∧ ds.length + es.length ≤ lim then .ok (es ++ ds.drop c.toNat) else .stuck
  | _, _ => .stuck
def fHead (i : Nat) (Fv : Env → Rs Sl) (Fh : Env → Rs (Option Int)) : Env → Rs Out := fun ρ => Fv ρ >>= fun s => ownL ρ[i]? >>= fun ds => Fh ρ >>= fun o => headP s ds o >>= fun ds' => .ok (.nx (ρ.set i (.ol ds')))
section
variable {ca : Nat → Addr} {X : Cx} {E : XK}
theorem jp_head (i : Nat) {v : Expr} {hi : Option Expr} {x : Str} {p apos p2 pos : Pos} {tv : TE} {th : TO} {Fv : Env → Rs Sl} {Fh : Env → Rs (Option Int)} (hv : JV ca X E v tv Fv) (hx : PE X (.Name x p) (tVar i)) (hh : JO ca X E hi th Fh)
    (hs : swapsWithSole [.Subscript (.Name x p) (.Slice none hi none p2) apos] v pos.line X.env = pure false := by rfl) (hw : swappedStores [.Subscript (.Name x p) (.Slice none hi none p2) apos] v X.env = pure none := by rfl) :
    JP ca X E (.Assign [.Subscript (.Name x p) (.Slice none hi none p2) apos] v pos) (tAsg tv (gHead (tVar i) tNoPart th)) (fHead i Fv Fh) := by
  refine ⟨ps_asg hv.pe (pg_head hx po_none hh.po) hs hw, fun G0 H0 G H ρ σ rep en hns D nx rt er => ?_⟩
  refine hv.sem.use rep hns (fun x e G' H' cl dd n => er x e G' H' cl dd (en.nx.trans n)) fun s es e1 G1 H1 u n1 r1 q1 h1 er1 => ?_
  have nx0 : ∀ ρ', (ownL ρ[i]? >>= fun ds => Fh ρ >>= fun o => headP s ds o >>= fun ds' => (.ok (.nx (ρ.set i (.ol ds'))) : Rs Out)) = .ok (.nx ρ') → ∀ G' H' σ', Rep ⟨X.K, ca⟩ G' H' ρ' σ' → Ent G0 H0 G' H' ρ' σ' → D.nx σ' H' := fun ρ' e => nx ρ' (e1.trans e)
  replace nx := nx0
  obtain ⟨ds, hs⟩ := ownL_ok h1
  have e0 : (ownL ρ[i]? >>= fun ds => Fh ρ >>= fun o => headP s ds o >>= fun ds' => (.ok (.nx (ρ.set i (.ol ds'))) : Rs Out)) = (Fh ρ >>= fun o => headP s ds o >>= fun ds' => (.ok (.nx (ρ.set i (.ol ds'))) : Rs Out)) := by rw [hs]; rfl
  rw [e0] at h1 er1 nx
  obtain ⟨o, e2, pp, xs, rfl, gp, hp, qq⟩ := r1.sl i _ hs
  refine ⟨.ref pp, e2, ?_⟩
  show th σ H1 _
  refine hh.sem.use r1 h1 er1 fun kd ek e3 G2 H2 w n2 r2 q2 h2 er2 => ?_
  rw [e3] at nx
  obtain ⟨o', e4, p', xs', z, gp2, hp2, qq2⟩ := r2.sl i _ hs
  rw [e2] at e4
  cases e4
  cases z
  unfold headP at h2 nx
  split at h2
  · rename_i es' c
    split at h2
    · rename_i hc
      obtain ⟨b, ys, rfl, hb0, gb, hb, qb⟩ := q1
      have hl := DpAll.length qq2
      have hl2 := DpAll.length qb
      cases (show w = some c from q2)
      have hne : pp ≠ b := fun z => by
        have r0 := rep.sl i _ hs
        obtain ⟨o0, f1, p0, x0, f2, f3, f4, f5⟩ := r0
        rw [e2] at f1
        cases f1
        cases f2
        rw [z, hb0] at f4
        cases f4
      refine ⟨pp, b, xs', ys, c.toNat, rfl, rfl, rfl, by rw [show ((c.toNat : Nat) : Int) = c by omega], hne, hp2, n2.h _ _ hb, by omega, lim_le (by rw [hl, hl2]; exact hc.2.2), ?_⟩
      obtain ⟨r3, n3⟩ := mut_ol r2 ((en.go n1).go n2) hs e2 gp2 hp2 (DpAll.append (DpAll.ex n2.g qb) (DpAll.drop c.toNat qq2))
      exact nx _ (by simp only [hc]; rfl) G2 _ σ r3 n3
    · exact absurd rfl h2
  · exact absurd rfl h2
end
theorem headP_ok {es ds : List PyData} {c : Nat} (h : c ≤ ds.length) (hl : ds.length + es.length ≤ lim) : headP (.ol es) ds (some (c : Int)) = .ok (es ++ ds.drop c) := if_pos ⟨by omega, by omega, hl⟩
@[simp] theorem z_head (i : Nat) (Fv : Env → Rs Sl) (Fh : Env → Rs (Option Int)) (ρ : Env) : fHead i Fv Fh ρ = (Fv ρ >>= fun s => ownL ρ[i]? >>= fun ds => Fh ρ >>= fun o => headP s ds o >>= fun ds' => .ok (.nx (ρ.set i (.ol ds')))) := (rfl)
end PF

namespace PF
open PySem L2

/-! ### recursion: a def's promise by fuel; without fuel it promises nothing -/
theorem callee_stuck {P : Program} {w : World} {K : PySem.W.Frag} {mg : Str → Option Value} {base : Heap} {ca : Nat → Addr} {x qual y : Str} {st : Stmt} {f : Addr} {fd : FuncData} {ps : List Str} {np : Nat} (k : Nat) (Fu : Fun K y qual st f fd)
    (hm : mg x = some (.ref f)) (hb : Binds K fd ps []) : Callee P w K mg base ca x k (fun _ => .stuck) np :=
  ⟨⟨f, fd, ps, ⟨fun vs H Q E h => by
      obtain ⟨_, _, _, _, _, h, _⟩ := h
      exact absurd rfl h, fun A outer s H args us vs Q E _ _ _ _ h => by
      obtain ⟨_, _, _, _, _, h, _⟩ := h
      exact absurd rfl h⟩, hm, Fu.kp, hb⟩, fun ds h => absurd rfl h⟩
/-! ### walked: a list or a tuple -/
def iMix (K : PySem.W.Frag) (tl : TE) : TI := fun σ H R => tl σ H fun x H1 => ∃ a, x = .ref a ∧ (((∃ xs, SqL K H1 a xs) ∧ R (Itl K a) H1) ∨ ((∃ xs, SqT K H1 a xs) ∧ R (Itt K a) H1))
theorem pi_mix {X : Cx} {tg l : Expr} {tl : TE} (hl : PE X l tl) : PI X tg l (iMix X.K tl) := by
  refine ⟨fun pins s σ H R I h => ?_⟩
  refine thn (hl.run pins s σ H _ I h) fun v s1 ⟨x, H1, I1, r1, q1⟩ => ?_
  obtain ⟨a, e, q1⟩ := q1
  subst e
  cases r1
  have own : ∀ b ∈ [s1.heap.objs.size], b = s1.heap.objs.size := fun b hb => by simpa using hb
  rcases q1 with ⟨⟨xs, hq⟩, q⟩ | ⟨⟨xs, hq⟩, q⟩
  · obtain ⟨its, rv, p, hz⟩ := I1.list hq
    refine wpAny_pyIter_list p.isList ?_
    refine ⟨s1.heap.objs.size, [s1.heap.objs.size], _, _, H1, rfl, I1.kept (t' := s1.toks) fun b o e => Heap.get?_push_of_some _ e, turn_list a _, ⟨_, Heap.get?_push_size _ rfl, rfl, rfl⟩, fun b hb => ?_, q⟩
    have e := own b hb
    subst e
    exact I1.fpOk (Nat.le_refl _) (I1.hok.fresh (Nat.le_refl _))
  · obtain ⟨its, rv, p, hz⟩ := I1.tuple hq
    refine wpAny_pyIter_tuple (show s1.heap.IsTuple a its.toArray from p) ?_
    refine ⟨s1.heap.objs.size, [s1.heap.objs.size], _, _, H1, rfl, I1.kept (t' := s1.toks) fun b o e => Heap.get?_push_of_some _ e, turn_tuple a _, ⟨_, Heap.get?_push_size _ rfl, rfl, rfl⟩, fun b hb => ?_, q⟩
    have e := own b hb
    subst e
    exact I1.fpOk (Nat.le_refl _) (I1.hok.fresh (Nat.le_refl _))
def itemsM : PyData → Rs (List PyData)
  | .list ds => .ok ds
  | .tuple ds => .ok ds
  | _ => .stuck
@[simp] theorem z_itemsM_l (ds : List PyData) : itemsM (.list ds) = .ok ds := (rfl)
@[simp] theorem z_itemsM_t (ds : List PyData) : itemsM (.tuple ds) = .ok ds := (rfl)
theorem ji_mix {ca : Nat → Addr} {X : Cx} {E : XK} {e tg : Expr} {te : TE} {F : Env → Rs PyData} {b : Bool} (h : JS ca X E e te F) : JI ca X E b tg e (iMix X.K te) (fIt itemsM F) :=
  ⟨pi_mix h.pe, fun G H ρ σ rep hns R ok er => h.sem.use rep hns er fun d ed e1 G' H' v n r q hk _ => by
    cases d with
    | list ds =>
      obtain ⟨a, xs, rfl, hx, ax⟩ := Dp.list_v q
      exact ⟨a, rfl, .inl ⟨⟨xs, Ex.sql n.gh hx⟩, ok ds e1 G' H' _ n (walkd_same _ _ (fun G2 H2 z1 z2 _ => Ex.sql z2 (Ex.sql z1 hx)) ax walk_list fun i H x H' y => y)⟩⟩
    | tuple ds =>
      obtain ⟨a, xs, rfl, hx, ax⟩ := Dp.tuple_v q
      exact ⟨a, rfl, .inr ⟨⟨xs, Ex.sqt n.gh hx⟩, ok ds e1 G' H' _ n (walkd_same _ _ (fun G2 H2 z1 z2 _ => Ex.sqt z2 (Ex.sqt z1 hx)) ax walk_tup fun i H x H' y => y)⟩⟩
    | none => exact absurd rfl hk
    | bool _ => exact absurd rfl hk
    | int _ => exact absurd rfl hk
    | _ => exact absurd rfl hk⟩
end PF

namespace L2
namespace RT
open PySem PySem.Spec PyProof.Rows _root_.RT
section
variable {prog : Program} {w : World} {A : Around} {E : Value → Shared → Prop} {s : Shared}
theorem init_list_rev {it l : Addr} {items : Array Value} {R : Result → Shared → Prop} (hh : A.handled = none) (hit : s.heap.IsRevIter it l ((items.size : Int) - 1)) (hl : s.heap.IsList l items) (hne : l ≠ it) (hn : items.size ≤ sizeLine)
    (S : Addr) (hS : s.heap.get? S = some { cls := .type "list", data := .seq #[] })
    (hR : ∀ (h' : Heap) (tk : Nat) (acc : Array Value) (c' : Nat), (∀ b o, b ≠ S → b ≠ it → s.heap.get? b = some o → h'.get? b = some o) → h'.get? S = some { cls := .type "list", dict := none, data := .seq acc c', slots := #[] } → ItemsOf (fun i v => items[items.size - 1 - i]? = some v) acc items.size →
      R (.ok (.ret .none)) { s with heap := h', toks := tk }) (hSi : S ≠ it) (hSl : S ≠ l) :
    wpAny (model prog w) A.in1 (Builtin.«list.__init__» ⟨[.ref S, .ref it], []⟩)
      (fun fin s' => match fin with | .done f => R (.ok f) s' | .again c' => c'.quiet = true ∧ codeAny (model prog w) A c' R s') (fun e s' => R (.error e) s') s := by
  have W := (Walks.listRev (prog := prog) (w := w) (A := A.in1) hh it l hne items).toS
  have hSf : S ∉ [it, l] := by simp only [List.mem_cons, List.not_mem_nil, or_false, not_or]; exact ⟨hSi, hSl⟩
  show wpAny _ _ (do let old ← Builtin.List.listItems (.ref S); Builtin.List.listUpdate (.ref S) (fun _ => #[]); letGo old.toList.reverse; Builtin.List.listExtendWith (.ref S) (.ref it) .none) _ _ s
  refine wpAny_bind ?_
  unfold Builtin.List.listItems
  refine wpAny_bind (wpAny_seqItems hS rfl (wpAny_pure ?_))
  show wpAny _ _ (updateSeq S (fun _ => #[]) >>= fun _ => letGo (#[] : Array Value).toList.reverse >>= fun _ => Builtin.List.listExtendWith (.ref S) (.ref it) .none) _ _ s
  refine wpAny_bind (wpAny_updateSeq hS rfl ?_)
  have hS₁ := Heap.get?_update_self (Obj.mapSeq (fun _ => (#[] : Array Value))) hS rfl
  have oth : ∀ b o, b ≠ S → s.heap.get? b = some o → (s.heap.update S (Obj.mapSeq (fun _ => (#[] : Array Value)))).get? b = some o :=
    fun b o hb e => (Heap.get?_update_other _ _ (Ne.symm hb)).trans e
  refine wpAny_bind (wpAny_letGo ?_)
  have hit1 : (s.heap.update S (Obj.mapSeq (fun _ => (#[] : Array Value)))).IsRevIter it l ((items.size : Int) - 1) := hit.at fun o e => oth it o (Ne.symm hSi) e
  have hl1 : (s.heap.update S (Obj.mapSeq (fun _ => (#[] : Array Value)))).IsList l items := by
    obtain ⟨o, ho, q⟩ := hl
    exact ⟨o, oth l o (Ne.symm hSl) ho, q⟩
  have hT : ({ s with heap := s.heap.update S (Obj.mapSeq (fun _ => (#[] : Array Value))) } : Shared).TypeIs (.ref it) "list_reverseiterator" := Heap.IsRevIter.typeIs (s := { s with heap := s.heap.update S (Obj.mapSeq (fun _ => (#[] : Array Value))) }) hit1
  have h1 : Builtin.List.listSameRef (.ref S) (.ref it) = false := by simp [Builtin.List.listSameRef, hSi]
  unfold Builtin.List.listExtendWith
  refine wpAny_bind (wpAny_typeOf hT ?_)
  rw [if_neg (by rw [h1]; decide)]
  refine wpAny_bind (wpAny_pyIter_revIter (s := { s with heap := s.heap.update S (Obj.mapSeq (fun _ => (#[] : Array Value))) }) hit1 ?_)
  refine wpAny_bind (wpAny_holding ?_)
  unfold Builtin.List.listLengthHint
  refine wpAny_bind (wpAny_specialOf hT nolen_lri ?_)
  show wpAny _ A.in1 (specialOf (Value.ref it) (Str.ofString "__length_hint__") >>= _) _ _ _
  refine wpAny_bind (wpAny_specialOf hT hint_lri ?_)
  generalize hid : ("list_reverseiterator.__length_hint__" : String) = id0
  wp_delta
  rw [show splitId id0 = some ("list_reverseiterator", "__length_hint__") from by subst hid; decide +kernel]
  subst hid
  refine wpAny_bind (wpAny_isInstance (b := true) hT (by rw [isSubtype_type]; kernel_rfl) ?_)
  refine wpAny_pure ?_
  rw [if_neg (by decide)]
  have e0 : ((items.size : Nat) : Int) - 1 - ((0 : Nat) : Int) = (items.size : Int) - 1 := by omega
  refine wpAny_pure ⟨plainId_quiet F.plain_extend_loop _, codeAny_extend_loopS W hn _ hSf _ items.size 0 _ _ _ rfl (Nat.zero_le _) ⟨Nat.zero_le _, by rw [e0]; exact hit1, hl1⟩ hS₁ (ItemsOf.nil _) fun s' acc' c' hm hS' hacc => ?_⟩
  rw [Moved.eq_with hm]
  refine hR s'.heap s'.toks acc' c' (fun b o hb hb2 e => hm.heap b o (fun hmem => ?_) (oth b o hb e)) hS' hacc
  rcases List.mem_cons.mp hmem with e' | hmem
  · exact hb e'
  · exact hb2 (by simpa using hmem)
theorem call_list_rev {it l : Addr} {items : Array Value} {Q : Value → Shared → Prop} (hh : A.handled = none) (hit : s.heap.IsRevIter it l ((items.size : Int) - 1)) (hl : s.heap.IsList l items) (hne : l ≠ it) (hn : items.size ≤ sizeLine)
    (hQ : ∀ (h' : Heap) (tk : Nat) (acc : Array Value) (c' : Nat), (∀ b o, b ≠ it → s.heap.get? b = some o → h'.get? b = some o) → h'.get? s.heap.objs.size = some { cls := .type "list", dict := none, data := .seq acc c', slots := #[] } →
      ItemsOf (fun i v => items[items.size - 1 - i]? = some v) acc items.size → Q (.ref s.heap.objs.size) { s with heap := h', toks := tk }) :
    wpAny (model prog w) A (call (.type "list") [.ref it]) Q E s := by
  refine callType_codes (Q₁ := fun obj s₁ => obj = .ref s.heap.objs.size ∧ s₁ = { s with heap := s.heap.push { cls := .type "list", data := .seq #[] } }) F.called_list (F.typeCall_list_1 _) F.entry_list_init
    (code_list_new _ ⟨rfl, rfl⟩) fun obj s₁ h₁ => ?_
  obtain ⟨rfl, rfl⟩ := h₁
  have hS : (s.heap.push { cls := .type "list", data := .seq #[] }).get? s.heap.objs.size = some { cls := .type "list", data := .seq #[] } := Heap.get?_push_size _ rfl
  obtain ⟨oi, hoi, _⟩ := id hit
  obtain ⟨ol, hol, _⟩ := id hl
  have hit1 : (s.heap.push { cls := .type "list", data := .seq #[] }).IsRevIter it l ((items.size : Int) - 1) := hit.at fun o e => Heap.get?_push_of_some _ e
  refine ⟨⟨_, hS, rfl⟩, F.args_list_init_2 _ _, init_list_rev (A := A.in1) (s := { s with heap := s.heap.push { cls := .type "list", data := .seq #[] } }) hh hit1 (hl.push _) hne hn _ hS (fun h' tk acc' c' hk hS' hacc => ?_) (Nat.ne_of_gt (Heap.lt_size hoi)) (Nat.ne_of_gt (Heap.lt_size hol))⟩
  exact ⟨rfl, hQ h' tk acc' c' (fun b o hb e => hk b o (Nat.ne_of_lt (Heap.lt_size e)) hb (Heap.get?_push_of_some _ e)) hS' hacc⟩
end
/-- list(reversed(x)), x a list: a new list -/
def tLstRev (K : PySem.W.Frag) (te : TE) : TE := fun σ H Q => te σ H fun v H1 => ∃ (a : Addr) (xs : List V), v = .ref a ∧ SqL K H1 a xs ∧ ∀ q, H1 q = none → Q (.ref q) (upd H1 q (.lst xs.reverse))
section
variable {X : Cx}
theorem pe_lstRev {e : Expr} {te : TE} {p p2 pos pos2 : Pos} (hc : X.calm = true) (hg : Gl X "list") (hm : X.mg "list" = none) (hg2 : Gl X "reversed") (hm2 : X.mg "reversed" = none) (he : PE X e te)
    (hs : starEach [e] X.env = (false, eval e X.env) :: starEach [] X.env := by rfl)
    (hs2 : starEach [.Call (.Name "reversed" p2) [e] [] pos2] X.env = (false, eval (.Call (.Name "reversed" p2) [e] [] pos2) X.env) :: starEach [] X.env := by rfl) :
    PE X (.Call (.Name "list" p) [.Call (.Name "reversed" p2) [e] [] pos2] [] pos) (tLstRev X.K te) := by
  refine ⟨fun pins s σ H Q I h => ?_⟩
  refine Call_ (ld_blt I hg hm boot_list (PyProof.Rows.callWith_type1 (args_cons (Call_ (ld_blt I hg2 hm2 PyProof.Rows.boot_reversed (PyProof.Rows.callWith_type1 (args_cons (thn (he.run pins s σ H _ I h) fun u s1 ⟨v, H1, I1, r1, q1⟩ => args_nil ?_) hs) hs rfl))) hs2) hs2 rfl))
  obtain ⟨a, xs, ev, hq, q⟩ := q1
  subst ev
  obtain rfl : u = Value.ref a := r1
  obtain ⟨its, rv, p', hz⟩ := I1.list hq
  refine call_reversed_list p'.isList (args_nil ?_)
  have k0 : ∀ b o, s1.heap.get? b = some o → (s1.heap.push (revObj a ((its.toArray.size : Int) - 1))).get? b = some o := fun b o e => Heap.get?_push_of_some _ e
  have I2 : Inv X pins σ H1 { s1 with heap := s1.heap.push (revObj a ((its.toArray.size : Int) - 1)) } := I1.kept (t' := s1.toks) k0
  obtain ⟨f0, f1, f2, f3, f4, f5⟩ := I1.fpOk (H' := H1) (b := s1.heap.objs.size) (Nat.le_refl _) (I1.hok.fresh (Nat.le_refl _))
  have hl := p'.isList
  obtain ⟨ol, hol, _⟩ := id hl
  have hne : a ≠ s1.heap.objs.size := Nat.ne_of_lt (Heap.lt_size hol)
  have hn : its.toArray.size ≤ sizeLine := by rw [List.size_toArray, ← rv.length]; exact hz
  refine call_list_rev (s := { s1 with heap := s1.heap.push (revObj a ((its.toArray.size : Int) - 1)) }) (I1.ok.hd hc) ⟨_, Heap.get?_push_size _ rfl, rfl, rfl⟩ (hl.push _) hne hn fun h' tk acc c' hk e' hi => ?_
  have hn2 : H1 s1.heap.objs.size = none := I1.hok.fresh (Nat.le_refl _)
  have I3 := I2.turnedNew (h' := h') (t' := tk) (ch := [s1.heap.objs.size]) (ob := .lst xs.reverse) (fun b o hb e => hk b o (fun z => hb (by simp [z])) e)
    (fun b hb => by have hb : b = s1.heap.objs.size := by simpa using hb
                    subst hb; exact ⟨f0, f1, f2, f3, f4, f5⟩) (Nat.le_refl _)
    (show ObjOk X.prog X.w _ _ _ (.lst xs.reverse) from ⟨by rw [List.length_reverse]; exact hz, acc.toList, c', vals_rev rv hi, by rw [Array.toArray_toList]; exact e'⟩)
  exact ⟨.ref _, _, I3, rfl, q _ (I2.hok.fresh (Nat.le_refl _))⟩
end
end RT
end L2
namespace PF
open PySem L2
/-! ### o.count(k), o a list of numbers -/
def cntD (ds : List PyData) (d : PyData) : Rs PyData := intOf d >>= fun k => intsOf ds >>= fun is => .ok (.int (is.count k : Nat))
def fCnt (Fa Fb : Env → Rs PyData) : Env → Rs PyData := fun ρ => Fa ρ >>= fun a => itemsL a >>= fun ds => Fb ρ >>= fun b => cntD ds b
theorem sem_cnt {c : Pc} {E : XK} {ta tb : TE} {Fa Fb : Env → Rs PyData} (ha : SemG c E ta Fa (RB c)) (hb : SemG c E tb Fb (RB c)) : SemG c E (tBM c.K "list" (rCntI c.K) ta (tCons tb tNil)) (fCnt Fa Fb) (RS c) := by
  intro G H ρ σ rep hns Q ok er
  refine ha.use rep hns er fun a ea e1 G1 H1 x n1 r1 q1 h1 er1 => ?_
  cases a with
  | list ds =>
    obtain ⟨p, xs, rfl, hx, ax⟩ := db_list n1.gh q1
    refine ⟨.inl ⟨rfl, xs, hx⟩, ?_⟩
    refine hb.use r1 h1 er1 fun b eb e2 G2 H2 y n2 r2 q2 h2 er2 => ?_
    cases hf : cntD ds b with
    | stuck => exact absurd hf h2
    | err z =>
      exfalso
      unfold cntD at hf
      cases b <;> try cases hf
      rename_i k
      cases hi : intsOf ds with
      | stuck => rw [show intOf (PyData.int k) = .ok k from rfl, ok_bind, hi] at hf; cases hf
      | err y => exact intsOf_ne ds y hi
      | ok is => rw [show intOf (PyData.int k) = .ok k from rfl, ok_bind, hi] at hf; cases hf
    | ok s =>
      unfold cntD at hf
      cases b <;> try cases hf
      rename_i k
      rw [show intOf (PyData.int k) = .ok k from rfl, ok_bind] at hf
      cases hi : intsOf ds with
      | stuck => rw [hi] at hf; cases hf
      | err y => rw [hi] at hf; cases hf
      | ok is =>
        rw [hi, ok_bind] at hf
        cases hf
        have ax := DpAll.ex n2.g ax
        rw [intsOf_eq hi] at ax
        have hx := Ex.sql n2.h hx
        have ey := db_int q2
        subst ey
        rw [dpall_ints ax] at hx
        refine ⟨p, is, k, rfl, rfl, hx, ok _ ?_ G2 H2 _ (n1.trans n2) (.int _)⟩
        unfold fCnt
        rw [e1]
        show (Fb ρ >>= fun b => cntD ds b) = _
        rw [eb]
        show cntD ds (.int k) = _
        unfold cntD
        rw [show intOf (PyData.int k) = .ok k from rfl, ok_bind, hi, ok_bind]
  | none => exact absurd rfl h1
  | bool b => exact absurd rfl h1
  | int b => exact absurd rfl h1
  | str b => exact absurd rfl h1
  | tuple b => exact absurd rfl h1
  | _ => exact absurd rfl h1
section
variable {ca : Nat → Addr} {X : Cx} {E : XK} {o e : Expr} {ta tb : TE} {Fa Fb : Env → Rs PyData} {p p2 pos pos2 apos cpos : Pos}
theorem js_count (ha : JB ca X E o ta Fa) (hb : JB ca X E e tb Fb)
    (hbase : attributeBase o "count" X.env (eval o X.env) = eval o X.env := by rfl)
    (hfew : ((backTo cpos (starEach [e] X.env)).all (fun x => !x.1) && (backToKw cpos (keywordEach [] X.env)).all (fun x => x.1.isSome)
      && decide (([e]).length + ([] : List Keyword).length + (if ([] : List Keyword).isEmpty then 0 else 1) < 30)) = true := by rfl)
    (hline : (apos.endLine == cpos.line) = true := by rfl) (hs : starEach [e] X.env = (false, eval e X.env) :: starEach [] X.env := by rfl) (hplain : (backTo cpos (starEach [] X.env)).any (·.1) = false := by rfl) :
    JS ca X E (.Call (.Attribute o "count" apos) [e] [] cpos) (tBM X.K "list" (rCntI X.K) ta (tCons tb tNil)) (fCnt Fa Fb) :=
  ⟨pe_bm PySem.F.plainAttrs_list PySem.F.slot_list_count PySem.F.type_list_count mt_lcount ha.pe (pa_cons hb.pe pa_nil hs) hbase hfew hline hs hplain, sem_cnt (c := ⟨X.K, ca⟩) ha.sem hb.sem⟩
/-! ### list(reversed(xs)), list(range(..)) -/
def lstRevD : PyData → Rs Sl
  | .list ds => .ok (.ol ds.reverse)
  | _ => .stuck
theorem jv_listRev (ha : JB ca X E e ta Fa) (hc : X.calm = true) (hm : X.mg "list" = none) (hm2 : X.mg "reversed" = none) (hg : Gl X "list" := by rfl) (hg2 : Gl X "reversed" := by rfl)
    (hs : starEach [e] X.env = (false, eval e X.env) :: starEach [] X.env := by rfl)
    (hs2 : starEach [.Call (.Name "reversed" p2) [e] [] pos2] X.env = (false, eval (.Call (.Name "reversed" p2) [e] [] pos2) X.env) :: starEach [] X.env := by rfl) :
    JV ca X E (.Call (.Name "list" p) [.Call (.Name "reversed" p2) [e] [] pos2] [] pos) (RT.tLstRev X.K ta) (fUn lstRevD Fa) :=
  ⟨RT.pe_lstRev hc hg hm hg2 hm2 ha.pe hs hs2, by
    intro G H ρ σ rep hns Q ok er
    refine ha.sem.use rep hns er fun a ea e1 G1 H1 x n1 r1 q1 h1 er1 => ?_
    cases a with
    | list ds =>
      obtain ⟨p, xs, rfl, hx, ax⟩ := db_list n1.gh q1
      refine ⟨p, xs, rfl, hx, fun l hl => ok (.ol ds.reverse) ?_ G1 _ _ (n1.trans (Nx.hid n1.gh hl)) ⟨l, _, rfl, n1.h.back hl, n1.gh.back hl, upd_same, DpAll.reverse ax⟩⟩
      unfold fUn
      rw [ea]
      rfl
    | _ => exact absurd rfl h1⟩
def lstRgD : List PyData → Rs Sl := fun ds => rng1 ds >>= fun is => if is.length ≤ 2 ^ 24 then .ok (.ol is) else .stuck
theorem jv_listRg (ha : JS ca X E e ta Fa) (hc : X.calm = true) (hm : X.mg "list" = none) (hm2 : X.mg "range" = none) (hg : Gl X "list" := by rfl) (hg2 : Gl X "range" := by rfl)
    (hs : starEach [e] X.env = (false, eval e X.env) :: starEach [] X.env := by rfl)
    (hs2 : starEach [.Call (.Name "range" p2) [e] [] pos2] X.env = (false, eval (.Call (.Name "range" p2) [e] [] pos2) X.env) :: starEach [] X.env := by rfl) :
    JV ca X E (.Call (.Name "list" p) [.Call (.Name "range" p2) [e] [] pos2] [] pos) (tLstRg (tRg1 ta)) (fUn (fun d => lstRgD [d]) Fa) :=
  ⟨pe_listRg hc hg hm (prg_1 hg2 hm2 ha.pe hs) hs2, by
    intro G H ρ σ rep hns Q ok er
    refine ha.sem.use rep hns er fun a ea e1 G1 H1 x n1 r1 q1 h1 er1 => ?_
    have q1 : Dp X.K G1 x a := q1
    cases a with
    | int j =>
      by_cases hj : small62 j
      · have e2 : rng1 [.int j] = .ok (rangeD 0 j) := if_pos hj
        by_cases hl : (rangeD 0 j).length ≤ 2 ^ 24
        · refine ⟨j, Dp.int_v q1, ⟨by decide, by decide, hj.1, hj.2, by unfold rangeD at hl; simpa using hl⟩, fun l hl' => ok (.ol (rangeD 0 j)) ?_ G1 _ _ (n1.trans (Nx.hid n1.gh hl')) ⟨l, _, rfl, n1.h.back hl', n1.gh.back hl', upd_same, ?_⟩⟩
          · unfold fUn
            rw [ea]
            show lstRgD [.int j] = _
            unfold lstRgD
            rw [e2, ok_bind, if_pos hl]
          · unfold rgV rangeD
            have : ∀ (is : List Nat), DpAll X.K G1 (is.map fun (i : Nat) => V.int (0 + (i : Nat))) (is.map fun (i : Nat) => PyData.int (0 + i)) := by
              intro is
              induction is with
              | nil => exact .nil
              | cons i is ih => exact .cons (.int _) ih
            exact this _
        · exact absurd (show lstRgD [.int j] = .stuck by unfold lstRgD; rw [e2, ok_bind, if_neg hl]) h1
      · exact absurd (show lstRgD [.int j] = .stuck by unfold lstRgD; rw [show rng1 [.int j] = .stuck from if_neg hj]; rfl) h1
    | _ => exact absurd rfl h1⟩
end
end PF

namespace PF
open PySem L2
/-! ### what a text leaves as it is: the i-th variable -/
def agr (i : Nat) (σ0 σ : L2.St) : Prop := σ[i]? = σ0[i]?
theorem agr.refl (i : Nat) (σ : L2.St) : agr i σ σ := rfl
structure Eqv (i : Nat) (σ0 : L2.St) (D D' : Ends) : Prop where
  rt : D.rt = D'.rt
  nx : ∀ σ H, agr i σ0 σ → D.nx σ H = D'.nx σ H
  bk : ∀ σ H, agr i σ0 σ → D.bk σ H = D'.bk σ H
  ct : ∀ σ H, agr i σ0 σ → D.ct σ H = D'.ct σ H
def Keeps (i : Nat) (t : TS) : Prop := ∀ (σ0 : L2.St) (D D' : Ends) (σ : L2.St) (H : Hp), agr i σ0 σ → Eqv i σ0 D D' → t D σ H = t D' σ H
def KeepsG (i : Nat) (g : TG) : Prop := ∀ (σ0 : L2.St) (x : V) (Q Q' : L2.St → Hp → Prop) (σ : L2.St) (H : Hp), agr i σ0 σ → (∀ σ H, agr i σ0 σ → Q σ H = Q' σ H) → g x σ H Q = g x σ H Q'
theorem keeps_next {i : Nat} : Keeps i tNext := fun σ0 D D' σ H a e => e.nx σ H a
theorem keeps_never {i : Nat} : Keeps i tNever := fun _ _ _ _ _ _ _ => rfl
theorem keeps_seq {i : Nat} {t u : TS} (h : Keeps i t) (k : Keeps i u) : Keeps i (tSeq t u) := fun σ0 D D' σ H a e => h σ0 _ _ σ H a ⟨e.rt, fun σ H b => k σ0 D D' σ H b e, e.bk, e.ct⟩
theorem keeps_if {i : Nat} {c : TT} {t u : TS} (h : Keeps i t) (k : Keeps i u) : Keeps i (tIfS c t u) := fun σ0 D D' σ H a e => by
  show c σ H _ = c σ H _
  congr 1
  funext b H1
  by_cases hb : b = true
  · rw [if_pos hb, if_pos hb]; exact h σ0 D D' σ H1 a e
  · rw [if_neg hb, if_neg hb]; exact k σ0 D D' σ H1 a e
theorem keeps_ret {i : Nat} {te : TE} : Keeps i (tRet te) := fun σ0 D D' σ H a e => by
  show te σ H _ = te σ H _
  rw [e.rt]
theorem keeps_drop {i : Nat} {te : TE} : Keeps i (tDrop te) := fun σ0 D D' σ H a e => by
  show te σ H _ = te σ H _
  congr 1
  funext x H1
  exact e.nx σ H1 a
theorem keeps_asg {i : Nat} {te : TE} {g : TG} (h : KeepsG i g) : Keeps i (tAsg te g) := fun σ0 D D' σ H a e => by
  show te σ H _ = te σ H _
  congr 1
  funext x H1
  exact h σ0 x _ _ σ H1 a e.nx
theorem keepsG_name {i j : Nat} (hij : j ≠ i) : KeepsG i (gName j) := fun σ0 x Q Q' σ H a e => e _ H (by
  show (σ.set j (some x))[i]? = _
  rw [List.getElem?_set, if_neg hij]
  exact a)
theorem keepsG_sub {i : Nat} {to ti : TE} {t : TSet} : KeepsG i (gSub to ti t) := fun σ0 x Q Q' σ H a e => by
  show to σ H _ = to σ H _
  congr 1
  funext o H1
  show ti σ H1 _ = ti σ H1 _
  congr 1
  funext y H2
  congr 1
  funext H3
  exact e σ H3 a
theorem Keeps.use {i : Nat} {t : TS} (h : Keeps i t) {D : Ends} {σ : L2.St} {H : Hp} (k : t { D with nx := fun σ' H' => agr i σ σ' → D.nx σ' H', ct := fun σ' H' => agr i σ σ' → D.ct σ' H' } σ H) : t D σ H := by
  rw [h σ D { D with nx := fun σ' H' => agr i σ σ' → D.nx σ' H', ct := fun σ' H' => agr i σ σ' → D.ct σ' H' } σ H (agr.refl i σ) ⟨rfl, fun σ' H' a => propext ⟨fun q _ => q, fun q => q a⟩, fun _ _ _ => rfl, fun σ' H' a => propext ⟨fun q _ => q, fun q => q a⟩⟩]
  exact k
theorem KeepsG.use {i : Nat} {g : TG} (h : KeepsG i g) {x : V} {Q : L2.St → Hp → Prop} {σ : L2.St} {H : Hp} (k : g x σ H (fun σ' H' => agr i σ σ' → Q σ' H')) : g x σ H Q := by
  rw [h σ x Q (fun σ' H' => agr i σ σ' → Q σ' H') σ H (agr.refl i σ) fun σ' H' a => propext ⟨fun q _ => q, fun q => q a⟩]
  exact k
/-! ### a loop over a list of our own that the body leaves ours -/
def forQ (i : Nat) (T : Tgt) (B : Env → Rs Out) : Nat → Nat → Env → Rs Out
  | 0, _, _ => .stuck
  | n + 1, k, ρ => match ρ[i]? with
    | some (.ol ds) => match ds[k]? with
      | some d => match T d ρ with
        | some ρ' => after (B ρ') (forQ i T B n (k + 1))
        | none => .stuck
      | none => .ok (.nx ρ)
    | _ => .stuck
def fForQ (i : Nat) (T : Tgt) (B : Env → Rs Out) : Env → Rs Out := fun ρ => match ρ[i]? with
  | some (.ol ds) => forQ i T B (ds.length + 1) 0 ρ
  | _ => .stuck
theorem own_slot {o : Option Sl} {β : Type} {k : List PyData → Rs β} (h : (match o with | some (.ol ds) => k ds | _ => .stuck) ≠ .stuck) : ∃ ds, o = some (.ol ds) := by
  split at h
  · exact ⟨_, rfl⟩
  · exact absurd rfl h
theorem jp_forQ {ca : Nat → Addr} {X : Cx} {E : XK} {pos : Pos} (i : Nat) {y : Str} {p0 : Pos} {tg : Expr} {body : List Stmt} {g : TG} {tb : TS} {T : Tgt} {L : List Nat} {B : Env → Rs Out} (hx : PE X (.Name y p0) (tVar i)) (hg : JG ca X tg g T L) (hb : JPs ca X E body tb B) (hkg : KeepsG i g) (hk : Keeps i tb)
    (hp : PassesOwn (model X.prog X.w) X.A X.env X.xe) (hc : X.calm = true) (hs : ∀ x, foldedSetIterable (.Name y p0) X.env x = pure x := by intro _; rfl) : JP ca X E (.For tg (.Name y p0) body [] pos) (tFor (iList X.K (tVar i)) g tb) (fForQ i T B) := by
  refine ⟨ps_for hp hc (pi_list hx) hg.pg hb.ps hs, fun G0 H0 G H ρ σ rep en hns D nx rt er => ?_⟩
  obtain ⟨ds, hds⟩ := own_slot (o := ρ[i]?) (k := fun ds => forQ i T B (ds.length + 1) 0 ρ) hns
  have e0 : fForQ i T B ρ = forQ i T B (ds.length + 1) 0 ρ := by unfold fForQ; rw [hds]
  obtain ⟨o, e1, p, xs, rfl, gp, hpp, q⟩ := rep.sl i _ hds
  refine ⟨.ref p, e1, p, rfl, ⟨xs, .inl (.inl hpp)⟩, fun k m σ1 H1 => ∃ G1 ρ1, Rep ⟨X.K, ca⟩ G1 H1 ρ1 σ1 ∧ Ent G0 H0 G1 H1 ρ1 σ1 ∧ σ1[i]? = some (some (.ref p)) ∧ forQ i T B m k ρ1 = fForQ i T B ρ,
    ⟨ds.length + 1, G, ρ, rep, en, e1, e0.symm⟩, fun k m σ1 H1 h => ?_⟩
  obtain ⟨G1, ρ1, rep1, en1, hσ1, hf⟩ := h
  cases m with
  | zero => exact absurd hf.symm hns
  | succ m =>
    have hns1 : forQ i T B (m + 1) k ρ1 ≠ .stuck := by rw [hf]; exact hns
    obtain ⟨ds1, hds1⟩ := own_slot (o := ρ1[i]?) (k := fun ds => match ds[k]? with
      | some d => match T d ρ1 with
        | some ρ' => after (B ρ') (forQ i T B m (k + 1))
        | none => .stuck
      | none => .ok (.nx ρ1)) hns1
    obtain ⟨o, e2, p', xs1, rfl, gp1, hp1, q1⟩ := rep1.sl i _ hds1
    rw [hσ1] at e2
    cases e2
    have hl := DpAll.length q1
    have sq : SqL X.K H1 p xs1 := .inl (.inl hp1)
    have hstep : forQ i T B (m + 1) k ρ1 = match ds1[k]? with
      | some d => match T d ρ1 with
        | some ρ' => after (B ρ') (forQ i T B m (k + 1))
        | none => .stuck
      | none => .ok (.nx ρ1) := by
      conv => lhs; unfold forQ
      rw [hds1]
    by_cases hlt : k < ds1.length
    · have hd : ds1[k]? = some ds1[k] := List.getElem?_eq_getElem hlt
      have hlx : k < xs1.length := by omega
      rw [hd] at hstep
      have hstep : forQ i T B (m + 1) k ρ1 = match T ds1[k] ρ1 with
        | some ρ' => after (B ρ') (forQ i T B m (k + 1))
        | none => .stuck := hstep
      refine .inr ⟨⟨xs1, xs1[k], sq, List.getElem?_eq_getElem hlx⟩, ?_⟩
      refine ⟨fun σ2 H2 => ∃ G2 ρ3, Rep ⟨X.K, ca⟩ G2 H2 ρ3 σ2 ∧ Ent G0 H0 G2 H2 ρ3 σ2 ∧ σ2[i]? = some (some (.ref p)) ∧ forQ i T B m (k + 1) ρ3 = fForQ i T B ρ, fun σ2 H2 hN => ⟨m, Nat.lt_succ_self m, hN⟩, fun x H2 hy => ?_⟩
      obtain ⟨rfl, hy2⟩ := hy
      have hx1 := hy2 xs1 sq
      obtain ⟨d', hd', qx⟩ := DpAll.get q1 hx1
      rw [hd] at hd'
      cases hd'
      cases ht : T ds1[k] ρ1 with
      | none => rw [ht] at hstep; exact absurd hstep hns1
      | some ρ2 =>
        rw [ht] at hstep
        have hf2 : after (B ρ2) (forQ i T B m (k + 1)) = fForQ i T B ρ := hstep.symm.trans hf
        refine hkg.use ?_
        refine hg.sem G1 H2 ρ1 σ1 x _ ρ2 rep1 qx ht _ fun σ2 r3 o _ ha => ?_
        have en2 : Ent G0 H0 G1 H2 ρ2 σ2 := ent_tgt en1 o
        refine hk.use ?_
        exact hb.sem.use (k := forQ i T B m (k + 1)) r3 en2 (by rw [hf2]; exact hns) (fun ρ' e3 e4 G3 H3 σ3 r4 en3 ha3 => ⟨G3, ρ', r4, en3, by
            have a1 : σ2[i]? = σ1[i]? := ha
            have a2 : σ3[i]? = σ2[i]? := ha3
            rw [a2, a1, hσ1], e4.symm.trans hf2⟩) (fun s e3 G3 H3 v n3 q3 => rt s (hf2.symm.trans e3) G3 H3 v n3 q3)
          fun x e G3 H3 cl dd n3 => er x (hf2.symm.trans e) G3 H3 cl dd n3
    · have hd : ds1[k]? = none := List.getElem?_eq_none (by omega)
      rw [hd] at hstep
      exact .inl ⟨⟨xs1, sq, by omega⟩, nx ρ1 (hf.symm.trans hstep) G1 H1 σ1 rep1 en1⟩
/-! ### a def that changes the list that comes first, and tells nothing -/
def spM (c : Pc) (f : List PyData → List PyData → Rs (List PyData)) (np : Nat) : Sp := fun vs H Q E => ∃ (G : Hp) (p : Addr) (xs : List V) (ds : List PyData) (vs' : List V) (as : List PyData), vs = .ref p :: vs' ∧ Ex G H ∧ G p = none ∧ H p = some (.lst xs) ∧ DpAll c.K G xs ds ∧ DpAll c.K G vs' as ∧ as.length + 1 = np ∧ f ds as ≠ .stuck ∧ (∀ x, f ds as ≠ .err x) ∧
  ∀ ds', f ds as = .ok ds' → ∀ G' H' xs', Nx G H G' H' → G' p = none → DpAll c.K G' xs' ds' → Q .non (upd H' p (.lst xs'))
def outM (r : Rs Out) : Rs (List PyData) := r >>= fun o => match o with
  | .nx ρ => ownL ρ[0]?
  | .rt _ => .stuck
def fnM (np n : Nat) (F : Env → Rs Out) (ds as : List PyData) : Rs (List PyData) := if as.length + 1 = np then outM (F (.ol ds :: as.map Sl.sh ++ List.replicate (n - np) Sl.no)) else .stuck
theorem fn_okM {P : Program} {w : World} {K : PySem.W.Frag} {mg : Str → Option Value} {base : Heap} {ca : Nat → Addr} {x qual : Str} {st : Stmt} {f : Addr} {fd : FuncData} {N ps : List Str} {k : Nat} (F : Fun K x qual st f fd) (S : FnScope N ps (defScope st)) (FF : Env → Rs Out)
    (hb : ∀ (cdv : Value) (A : Around) (outer : List PySem.Env) (s : Shared) (H : Hp) (E : XK), Room k (A.deeper (PyProof.Rows.envOfC qual (defScope st) s.heap.objs.size f cdv)) →
      CxOk (cxOf (L2.CX P w) P w K mg base N qual (defScope st) f cdv A outer s H E) E →
      ∃ t, JPs ca (cxOf (L2.CX P w) P w K mg base N qual (defScope st) f cdv A outer s H E) E (defBody st) t FF ∧ Keeps 0 t) (hnp : ps.length ≤ N.length := by decide) :
    FnOk P w K mg base (L2.CX P w) (k + 1) f fd ps (spM ⟨K, ca⟩ (fnM ps.length N.length FF) ps.length) := by
  refine F.okX S (fun vs H Q E h => ?_) (fun cdv A outer s H vs Q E hr h => ?_)
  · obtain ⟨G, p, xs, ds, vs', as, rfl, _, _, _, _, a, e, _⟩ := h
    rw [List.length_cons, DpAll.length a, e]
  · obtain ⟨G, p, xs, ds, vs', as, rfl, e, gp, hp, q, a, el, hns, hne, hok⟩ := h
    have o : CxOk (cxOf (L2.CX P w) P w K mg base N qual (defScope st) f cdv A outer s H E) E :=
      ⟨rfl, by have := hr.un; show (A.deeper _).units + 200 < cLine; omega, S.nd, passes_of rfl, passes_call (takes_of rfl rfl rfl rfl) fun _ _ _ _ z => z, takes_of rfl rfl rfl rfl⟩
    obtain ⟨t, ⟨hps, hsem⟩, hkeep⟩ := hb cdv A outer s H E hr o
    refine ⟨t, hps, ?_⟩
    have hav := DpAll.length a
    have gd : Ex G (delH H p) := fun b u hb => by
      unfold delH
      rw [if_neg (fun z => by rw [z, gp] at hb; cases hb)]
      exact e b u hb
    have dh : Ex (delH H p) H := fun b u hb => by
      unfold delH at hb
      split at hb
      · cases hb
      · exact hb
    have hst : L2.start N (.ref p :: vs') = some (.ref p) :: (vs'.map some ++ List.replicate (N.length - (vs'.length + 1)) none) := by
      unfold L2.start
      rw [List.map_cons, List.length_cons]
      rfl
    have rep : Rep ⟨K, ca⟩ G H (.ol ds :: as.map Sl.sh ++ List.replicate (N.length - ps.length) Sl.no) (L2.start N (.ref p :: vs')) := by
      rw [hst]
      refine ⟨e, ?_, fun i s h => ?_, fun i j s s' r h1 h2 w1 w2 _ _ => ?_⟩
      · simp only [List.length_append, List.length_cons, List.length_map, List.length_replicate]
        omega
      · cases i with
        | zero =>
          cases h
          exact ⟨_, rfl, p, xs, rfl, gp, hp, q⟩
        | succ i =>
          rw [List.cons_append, List.getElem?_cons_succ] at h
          rw [List.getElem?_cons_succ]
          by_cases hi : i < as.length
          · rw [List.getElem?_append_left (by rw [List.length_map]; exact hi), List.getElem?_map] at h
            cases hd : as[i]? with
            | none => rw [hd] at h; cases h
            | some d =>
              rw [hd] at h
              cases h
              obtain ⟨v, hv, qd⟩ := DpAll.getD a hd
              refine ⟨some v, ?_, v, rfl, qd⟩
              rw [List.getElem?_append_left (by rw [List.length_map]; omega), List.getElem?_map, hv]
              rfl
          · rw [List.getElem?_append_right (by rw [List.length_map]; omega)] at h
            have hs := List.mem_of_getElem? h
            rw [(List.mem_replicate.mp hs).2]
            have hlt := (List.getElem?_eq_some_iff.mp h).1
            rw [List.length_map, List.length_replicate] at hlt
            refine ⟨none, ?_, trivial⟩
            rw [List.getElem?_append_right (by rw [List.length_map]; omega), List.getElem?_replicate, if_pos (by rw [List.length_map]; omega)]
      · have only : ∀ (i : Nat) s, (.ol ds :: as.map Sl.sh ++ List.replicate (N.length - ps.length) Sl.no : Env)[i]? = some s → s.own = true → i = 0 := fun i s h1 w1 => by
          cases i with
          | zero => rfl
          | succ i =>
            rw [List.cons_append, List.getElem?_cons_succ] at h1
            rcases List.mem_append.mp (List.mem_of_getElem? h1) with m | m
            · obtain ⟨d, _, rfl⟩ := List.mem_map.mp m
              cases w1
            · rw [(List.mem_replicate.mp m).2] at w1
              cases w1
        rw [only i s h1 w1, only j s' h2 w2]
    have ent : Ent G (delH H p) G H (.ol ds :: as.map Sl.sh ++ List.replicate (N.length - ps.length) Sl.no) (L2.start N (.ref p :: vs')) := by
      refine ⟨⟨Ex.refl _, dh, e, fun _ _ h => .inl h⟩, fun i s r h1 h2 h3 => ?_⟩
      cases i with
      | zero =>
        rw [hst] at h3
        cases h3
        exact delH_same
      | succ i =>
        rw [List.cons_append, List.getElem?_cons_succ] at h1
        rcases List.mem_append.mp (List.mem_of_getElem? h1) with m | m
        · obtain ⟨d, _, rfl⟩ := List.mem_map.mp m
          cases h2
        · rw [(List.mem_replicate.mp m).2] at h2
          cases h2
    have key : ∀ r, FF (.ol ds :: as.map Sl.sh ++ List.replicate (N.length - ps.length) Sl.no) = r → fnM ps.length N.length FF ds as = outM r := fun r z => by unfold fnM; rw [if_pos el, z]
    refine hkeep.use ?_
    refine hsem G (delH H p) G H _ _ rep ent (fun z => hns (by rw [key _ z]; rfl)) _ (fun ρ' z G' H' σ' r' n' ha => ?_) (fun s z G' H' v n q => ?_) fun y z => ?_
    · have e1 := key _ z
      have e2 : outM (.ok (.nx ρ')) = ownL ρ'[0]? := rfl
      rw [e2] at e1
      cases ho : ρ'[0]? with
      | none => rw [ho] at e1; exact absurd e1 hns
      | some s0 =>
        rw [ho] at e1
        cases s0 with
        | ol ds' =>
          obtain ⟨o', e3, p', xs', rfl, gp', hp', q'⟩ := r'.sl 0 _ ho
          have ha : σ'[0]? = (L2.start N (.ref p :: vs'))[0]? := ha
          rw [hst] at ha
          rw [ha] at e3
          cases e3
          have hfin : upd (upd H' p (.lst xs)) p (.lst xs') = H' := by
            funext b
            by_cases hb : b = p
            · rw [hb, upd_same, hp']
            · rw [upd_ne hb, upd_ne hb]
          have := hok ds' e1 G' (upd H' p (.lst xs)) xs' ⟨n'.nx.g, fun b u hu => ?_, fun b u hu => ?_, fun b hb gb => ?_⟩ gp' q'
          · rw [hfin] at this
            exact this
          · by_cases hb : b = p
            · rw [hb] at hu ⊢
              rw [hp] at hu
              rw [upd_same]
              exact hu
            · rw [upd_ne hb]
              exact n'.nx.h b u (by unfold delH; rw [if_neg hb]; exact hu)
          · rw [upd_ne (fun z => by rw [z, gp'] at hu; cases hu)]
            exact n'.nx.gh b u hu
          · by_cases hbp : b = p
            · rw [hbp]; exact .inl gp'
            · exact n'.nx.fr b (by unfold delH; rw [if_neg hbp]; exact hb) gb
        | no => exact absurd e1 hns
        | sh d => exact absurd e1 hns
        | od d => exact absurd e1 hns
        | exn d => exact absurd e1 hns
    · exact absurd (by rw [key _ z]; rfl) hns
    · exact absurd (by rw [key _ z]; rfl) (hne y)
structure CalleeM (P : Program) (w : World) (K : PySem.W.Frag) (mg : Str → Option Value) (base : Heap) (ca : Nat → Addr) (x : Str) (k : Nat) (f : List PyData → List PyData → Rs (List PyData)) (np : Nat) : Prop where
  ex : ∃ (a : Addr) (fd : FuncData) (ps : List Str), FnOk P w K mg base (L2.CX P w) k a fd ps (spM ⟨K, ca⟩ f np) ∧ mg x = some (.ref a) ∧ PySem.W.keepIn K (.ref a) = true ∧ Binds K fd ps []
  len : ∀ ds as, f ds as ≠ .stuck → as.length + 1 = np
theorem fnM_len {np n : Nat} {F : Env → Rs Out} (ds as : List PyData) (h : fnM np n F ds as ≠ .stuck) : as.length + 1 = np := by
  unfold fnM at h
  split at h
  · assumption
  · exact absurd rfl h
theorem calleeM_of {P : Program} {w : World} {K : PySem.W.Frag} {mg : Str → Option Value} {base : Heap} {ca : Nat → Addr} {x qual y : Str} {st : Stmt} {f : Addr} {fd : FuncData} {ps : List Str} {k np n : Nat} {F : Env → Rs Out} (Fu : Fun K y qual st f fd) (h : FnOk P w K mg base (L2.CX P w) k f fd ps (spM ⟨K, ca⟩ (fnM np n F) np))
    (hm : mg x = some (.ref f)) (hb : Binds K fd ps []) : CalleeM P w K mg base ca x k (fnM np n F) np := ⟨⟨f, fd, ps, h, hm, Fu.kp, hb⟩, fnM_len⟩
def noErr {α : Type} (r : Rs α) : Rs α := match r with
  | .ok a => .ok a
  | _ => .stuck
/-- f(xs, ..), xs a list of our own that f changes -/
def fCallM (i : Nat) (f : List PyData → List PyData → Rs (List PyData)) (F : Env → Rs (List PyData)) : Env → Rs Out := fun ρ => ownL ρ[i]? >>= fun ds => F ρ >>= fun as => noErr (f ds as) >>= fun ds' => .ok (.nx (ρ.set i (.ol ds')))
theorem jp_callM {ca : Nat → Addr} {X : Cx} {E : XK} (i : Nat) {x y : Str} {k np : Nat} {f : List PyData → List PyData → Rs (List PyData)} {es : List Expr} {t : TA} {Fa : Env → Rs (List PyData)} {p p2 pos pos2 : Pos} (C : CalleeM X.prog X.w X.K X.mg X.base ca x k f np) (hr : Room k X.A) (hx : Passes (L2.CX X.prog X.w) X E)
    (hy : PE X (.Name y p2) (tVar i)) (ha : JA ca X E es t Fa) (hg : Gl X x := by rfl) (hdb : (x == ("__debug__" : Str)) = false := by decide) (he : starEach (.Name y p2 :: es) X.env = (false, eval (.Name y p2) X.env) :: starEach es X.env := by rfl) (hpl : (backTo pos (starEach es X.env)).any (·.1) = false := by rfl)
    (hsw : swapsWith (.Call (.Name x p) (.Name y p2 :: es) [] pos) none pos2.line X.env = pure false := by rfl) :
    JP ca X E (.Expr (.Call (.Name x p) (.Name y p2 :: es) [] pos) pos2) (tDrop (tCall (spM ⟨X.K, ca⟩ f np) [] E (tCons (tVar i) t))) (fCallM i f Fa) := by
  obtain ⟨fa, fd, ps, F, hm, hk, hb⟩ := C.ex
  refine ⟨ps_expr (pe_call F hr hg hm hk hb .nil hx (pa_cons hy ha.pa he) hdb he hpl) hsw, fun G0 H0 G H ρ σ rep en hns D nx rt er => ?_⟩
  obtain ⟨ds, hs⟩ := ownL_ok hns
  have e0 : fCallM i f Fa ρ = (Fa ρ >>= fun as => noErr (f ds as) >>= fun ds' => .ok (.nx (ρ.set i (.ol ds')))) := by unfold fCallM; rw [hs]; rfl
  rw [e0] at hns nx er
  obtain ⟨o, e1, p, xs, rfl, gp, hp, q⟩ := rep.sl i _ hs
  refine (⟨.ref p, e1, ?_⟩ : ∃ v, σ[i]? = some (some v) ∧ t σ H (fun xs H2 => spM ⟨X.K, ca⟩ f np ((v :: xs) ++ []) H2 (fun _ H1 => D.nx σ H1) E))
  refine ha.sem.use rep hns (fun x e G' H' cl dd n => er x e G' H' cl dd (en.nx.trans n)) fun as es2 e2 G1 H1 vs n1 r1 q1 hk1 er1 => ?_
  obtain ⟨o', e3, p', xs', z, gp1, hp1, qq⟩ := r1.sl i _ hs
  rw [e1] at e3
  cases e3
  cases z
  show spM _ f np (.ref p :: vs ++ []) H1 _ E
  rw [List.append_nil]
  cases hf : f ds as with
  | stuck => exact absurd (by rw [hf]; rfl) hk1
  | err x => exact absurd (by rw [hf]; rfl) hk1
  | ok ds' =>
    refine ⟨G1, p, xs', ds, vs, as, rfl, n1.gh, gp1, hp1, qq, q1, C.len ds as (by rw [hf]; exact (fun z => nomatch z)), by rw [hf]; exact (fun z => nomatch z), by rw [hf]; exact (fun x z => nomatch z), fun ds'' e4 G' H' ys n2 gp2 q2 => ?_⟩
    rw [hf] at e4
    cases e4
    obtain ⟨r3, n3⟩ := mut_ol (r1.nx n2) ((en.go n1).go n2) hs e1 gp2 (n2.h _ _ hp1) q2
    exact nx _ (by rw [e2, hf]; rfl) G' _ σ r3 n3
end PF

namespace PF
open PySem L2
/-! ### dicts of our own, by tuples of numbers -/
def keyOf : PyData → Rs (List Int)
  | .tuple ds => intsOf ds
  | _ => .stuck
def ownT : Option Sl → Rs (List (List Int × PyData))
  | some (.od kvs) => .ok kvs
  | _ => .stuck
theorem ownT_ok {o : Option Sl} {β : Type} {k : List (List Int × PyData) → Rs β} (h : (ownT o >>= k) ≠ .stuck) : ∃ ds, o = some (.od ds) := by
  unfold ownT at h
  split at h
  · exact ⟨_, rfl⟩
  · exact absurd rfl h
def putI {α : Type} (kvs : List (List Int × α)) (k : List Int) (d : α) : List (List Int × α) :=
  if (kvs.any fun kv => decide (kv.1 = k)) = true then kvs.map (fun kv => if kv.1 = k then (kv.1, d) else kv) else kvs ++ [(k, d)]
def getI {α : Type} (kvs : List (List Int × α)) (k : List Int) : Option α := (kvs.find? fun kv => decide (kv.1 = k)).map (·.2)
theorem inl_inj : ∀ {a b : List Int}, a.map (Sum.inl : Int → Key) = b.map Sum.inl → a = b
  | [], [], _ => rfl
  | [], _ :: _, h => by cases h
  | _ :: _, [], h => by cases h
  | x :: a, y :: b, h => by
    rw [List.map_cons, List.map_cons] at h
    obtain ⟨h1, h2⟩ := List.cons.inj h
    cases h1
    rw [inl_inj h2]
theorem inl_iff {a b : List Int} : a.map (Sum.inl : Int → Key) = b.map Sum.inl ↔ a = b := ⟨inl_inj, fun h => by rw [h]⟩
theorem kv_nil {K : PySem.W.Frag} {G : Hp} : KvOk K G [] [] := ⟨rfl, .nil⟩
theorem kv_cons {K : PySem.W.Frag} {G : Hp} {e : List Key × V} {es : List (List Key × V)} {kv : List Int × PyData} {kvs : List (List Int × PyData)} : KvOk K G (e :: es) (kv :: kvs) ↔ e.1 = kv.1.map Sum.inl ∧ Dp K G e.2 kv.2 ∧ KvOk K G es kvs := by
  unfold KvOk
  constructor
  · rintro ⟨h1, h2⟩
    rw [List.map_cons, List.map_cons] at h1 h2
    obtain ⟨a, b⟩ := List.cons.inj h1
    cases h2 with
    | cons c d => exact ⟨a, c, b, d⟩
  · rintro ⟨a, c, b, d⟩
    exact ⟨by rw [List.map_cons, List.map_cons, a, b], by rw [List.map_cons, List.map_cons]; exact .cons c d⟩
theorem kv_len {K : PySem.W.Frag} {G : Hp} {es : List (List Key × V)} {kvs : List (List Int × PyData)} (h : KvOk K G es kvs) : es.length = kvs.length := by
  have := congrArg List.length h.1
  rwa [List.length_map, List.length_map] at this
theorem kv_any {K : PySem.W.Frag} {G : Hp} (k : List Int) : ∀ {es : List (List Key × V)} {kvs : List (List Int × PyData)}, KvOk K G es kvs → (es.any fun kv => decide (kv.1 = k.map Sum.inl)) = (kvs.any fun kv => decide (kv.1 = k))
  | [], [], _ => rfl
  | [], _ :: _, h => by have := kv_len h; simp at this
  | _ :: _, [], h => by have := kv_len h; simp at this
  | e :: es, kv :: kvs, h => by
    obtain ⟨a, _, c⟩ := kv_cons.mp h
    rw [List.any_cons, List.any_cons, kv_any k c, a]
    congr 1
    rw [decide_eq_decide]
    exact inl_iff
theorem kv_map {K : PySem.W.Frag} {G : Hp} (k : List Int) {v : V} {d : PyData} (hv : Dp K G v d) : ∀ {es : List (List Key × V)} {kvs : List (List Int × PyData)}, KvOk K G es kvs → KvOk K G (es.map fun kv => if kv.1 = k.map Sum.inl then (kv.1, v) else kv) (kvs.map fun kv => if kv.1 = k then (kv.1, d) else kv)
  | [], [], _ => kv_nil
  | [], _ :: _, h => by have := kv_len h; simp at this
  | _ :: _, [], h => by have := kv_len h; simp at this
  | e :: es, kv :: kvs, h => by
    obtain ⟨a, b, c⟩ := kv_cons.mp h
    rw [List.map_cons, List.map_cons]
    refine kv_cons.mpr ?_
    by_cases hk : kv.1 = k
    · rw [if_pos hk, if_pos (by rw [a, hk])]
      exact ⟨a, hv, kv_map k hv c⟩
    · rw [if_neg hk, if_neg (by rw [a]; exact fun z => hk (inl_inj z))]
      exact ⟨a, b, kv_map k hv c⟩
theorem kv_snoc {K : PySem.W.Frag} {G : Hp} {k : List Int} {v : V} {d : PyData} (hv : Dp K G v d) {es : List (List Key × V)} {kvs : List (List Int × PyData)} (h : KvOk K G es kvs) : KvOk K G (es ++ [(k.map Sum.inl, v)]) (kvs ++ [(k, d)]) :=
  ⟨by rw [List.map_append, List.map_append, h.1]; rfl, by rw [List.map_append, List.map_append]; exact DpAll.append h.2 (.cons hv .nil)⟩
theorem kv_put {K : PySem.W.Frag} {G : Hp} {k : List Int} {v : V} {d : PyData} (hv : Dp K G v d) {es : List (List Key × V)} {kvs : List (List Int × PyData)} (h : KvOk K G es kvs) : KvOk K G (putK es (k.map Sum.inl) v) (putI kvs k d) := by
  unfold putK putI
  rw [kv_any k h]
  by_cases c : (kvs.any fun kv => decide (kv.1 = k)) = true
  · rw [if_pos c, if_pos c]; exact kv_map k hv h
  · rw [if_neg c, if_neg c]; exact kv_snoc hv h
theorem kv_get {K : PySem.W.Frag} {G : Hp} (k : List Int) : ∀ {es : List (List Key × V)} {kvs : List (List Int × PyData)}, KvOk K G es kvs → (valV es (k.map Sum.inl) = none ∧ getI kvs k = none) ∨ ∃ v d, valV es (k.map Sum.inl) = some v ∧ getI kvs k = some d ∧ Dp K G v d
  | [], [], _ => .inl ⟨rfl, rfl⟩
  | [], _ :: _, h => by have := kv_len h; simp at this
  | _ :: _, [], h => by have := kv_len h; simp at this
  | e :: es, kv :: kvs, h => by
    obtain ⟨a, b, c⟩ := kv_cons.mp h
    have ih := kv_get k c
    unfold valV getI at *
    rw [List.find?_cons, List.find?_cons]
    by_cases hk : kv.1 = k
    · rw [decide_eq_true hk, decide_eq_true (show e.1 = k.map Sum.inl by rw [a, hk])]
      exact .inr ⟨_, _, rfl, rfl, b⟩
    · rw [decide_eq_false hk, decide_eq_false (show ¬ e.1 = k.map Sum.inl by rw [a]; exact fun z => hk (inl_inj z))]
      exact ih
theorem key_at {K : PySem.W.Frag} {G : Hp} {v : V} {d : PyData} {k : List Int} (h : Dp K G v d) (hk : keyOf d = .ok k) : ∃ b, v = .ref b ∧ G b = some (.tup ((k.map Sum.inl).map kV)) := by
  cases d with
  | tuple ds =>
    obtain ⟨b, xs, rfl, hb, a⟩ := Dp.tuple_s h
    have e := intsOf_eq (show intsOf ds = .ok k from hk)
    rw [e] at a
    have ex := dpall_ints a
    refine ⟨b, rfl, ?_⟩
    rw [hb, ex, List.map_map]
    rfl
  | none => cases hk
  | bool _ => cases hk
  | int _ => cases hk
  | str _ => cases hk
  | list _ => cases hk
  | dict _ => cases hk
theorem mut_od {c : Pc} {G0 H0 G H : Hp} {ρ : Env} {σ : L2.St} {i : Nat} {ds ds' : List (List Int × PyData)} {p : Addr} {es es' : List (List Key × V)} (rep : Rep c G H ρ σ) (en : Ent G0 H0 G H ρ σ) (hs : ρ[i]? = some (.od ds)) (hp : σ[i]? = some (some (.ref p)))
    (gp : G p = none) (hH : H p = some (.dT es)) (q : KvOk c.K G es' ds') : Rep c G (upd H p (.dT es')) (ρ.set i (.od ds')) σ ∧ Ent G0 H0 G (upd H p (.dT es')) (ρ.set i (.od ds')) σ := by
  have h0 := en.own i _ p hs rfl hp
  refine ⟨rep.mut hs rfl hp gp ⟨p, es', rfl, gp, upd_same, q⟩, ⟨⟨en.nx.g, fun a u e => ?_, fun a u e => ?_, en.nx.fr⟩, fun j s r e w f => ?_⟩⟩
  · rw [upd_ne (ne_of_none e h0)]
    exact en.nx.h a u e
  · rw [upd_ne (ne_of_none e gp)]
    exact rep.gh a u e
  · by_cases hij : i = j
    · subst hij
      rw [hp] at f
      cases f
      exact h0
    · rw [List.getElem?_set, if_neg hij] at e
      exact en.own j s r e w f
def fNewD : Env → Rs Sl := fun _ => .ok (.od [])
def fDSet (i : Nat) (Fv Fk : Env → Rs PyData) : Env → Rs Out := fun ρ => Fv ρ >>= fun d => ownT ρ[i]? >>= fun kvs => Fk ρ >>= fun kd => keyOf kd >>= fun k => if kvs.length < lim then .ok (.nx (ρ.set i (.od (putI kvs k d)))) else .stuck
def fDGet (i : Nat) (Fk : Env → Rs PyData) : Env → Rs PyData := fun ρ => ownT ρ[i]? >>= fun kvs => Fk ρ >>= fun kd => keyOf kd >>= fun k => match getI kvs k with
  | some d => .ok d
  | none => .stuck
def fDIn (i : Nat) (Fk : Env → Rs PyData) : Env → Rs PyData := fun ρ => Fk ρ >>= fun kd => keyOf kd >>= fun k => ownT ρ[i]? >>= fun kvs => .ok (.bool (getI kvs k).isSome)
theorem keyOf_ne {d : PyData} {x : Exn} : keyOf d ≠ .err x := fun h => by
  cases d with
  | tuple ds => exact intsOf_ne ds x h
  | none => cases h
  | bool _ => cases h
  | int _ => cases h
  | str _ => cases h
  | list _ => cases h
  | dict _ => cases h
section
variable {ca : Nat → Addr} {X : Cx} {E : XK} {k v : Expr} {tk tv : TE} {Fk Fv : Env → Rs PyData} {x : Str} {p apos pos : Pos}
theorem jv_dict : JV ca X E (.Dict [] [] pos) tDNewT fNewD :=
  ⟨pe_dnewT, fun G H ρ σ rep hns Q ok er p hp => ok (.od []) rfl G _ _ (Nx.hid rep.gh hp) ⟨p, [], rfl, hp, rep.gh.back hp, upd_same, kv_nil⟩⟩
theorem jp_dset (i : Nat) (hu : X.A.units + 64 < cLine) (hv : JS ca X E v tv Fv) (hx : PE X (.Name x p) (tVar i)) (hk : JS ca X E k tk Fk)
    (ha : ∀ w, assign (.Subscript (.Name x p) k apos) X.env w = (do
      let ov ← holding [w] (eval (.Name x p) X.env)
      let iv ← holding [w, ov] (eval k X.env)
      standAt apos
      holding [w, ov, iv] (setItem ov iv w)
      release [w, ov, iv] []) := by intro _; rfl) (hs : swapsWithSole [.Subscript (.Name x p) k apos] v pos.line X.env = pure false := by rfl) (hw : swappedStores [.Subscript (.Name x p) k apos] v X.env = pure none := by rfl) :
    JP ca X E (.Assign [.Subscript (.Name x p) k apos] v pos) (tAsg tv (gSub (tVar i) tk rSetD)) (fDSet i Fv Fk) := by
  refine ⟨ps_asg hv.pe (pg_sub hx hk.pe (set_dict (by omega)) ha) hs hw, fun G0 H0 G H ρ σ rep en hns D nx rt er => ?_⟩
  refine hv.sem.use rep hns (fun x e G' H' cl dd n => er x e G' H' cl dd (en.nx.trans n)) fun d ed e1 G1 H1 u n1 r1 q1 h1 er1 => ?_
  have nx0 : ∀ ρ', (ownT ρ[i]? >>= fun kvs => Fk ρ >>= fun kd => keyOf kd >>= fun k => if kvs.length < lim then (.ok (.nx (ρ.set i (.od (putI kvs k d)))) : Rs Out) else .stuck) = .ok (.nx ρ') → ∀ G' H' σ', Rep ⟨X.K, ca⟩ G' H' ρ' σ' → Ent G0 H0 G' H' ρ' σ' → D.nx σ' H' := fun ρ' e => nx ρ' (e1.trans e)
  obtain ⟨ds, hs⟩ := ownT_ok h1
  have e0 : (ownT ρ[i]? >>= fun kvs => Fk ρ >>= fun kd => keyOf kd >>= fun k => if kvs.length < lim then (.ok (.nx (ρ.set i (.od (putI kvs k d)))) : Rs Out) else .stuck) = (Fk ρ >>= fun kd => keyOf kd >>= fun k => if ds.length < lim then (.ok (.nx (ρ.set i (.od (putI ds k d)))) : Rs Out) else .stuck) := by rw [hs]; rfl
  rw [e0] at h1 er1 nx0
  obtain ⟨o, e2, pp, es, rfl, gp, hp, qq⟩ := r1.sl i _ hs
  refine ⟨.ref pp, e2, ?_⟩
  refine hk.sem.use r1 h1 er1 fun kd ek e3 G2 H2 w n2 r2 q2 h2 er2 => ?_
  obtain ⟨o', e4, p', es', z, gp2, hp2, qq2⟩ := r2.sl i _ hs
  rw [e2] at e4
  cases e4
  cases z
  cases hko : keyOf kd with
  | stuck => exact absurd (by rw [hko]; rfl) h2
  | err y => exact absurd hko keyOf_ne
  | ok kk =>
    rw [hko, ok_bind] at h2
    by_cases hl : ds.length < lim
    · obtain ⟨b, rfl, hb⟩ := key_at (show Dp X.K G2 w kd from q2) hko
      refine ⟨pp, _, rfl, DPut.t hp2 (n2.gh _ _ hb) (lim_lt (by rw [kv_len qq2]; exact hl)), ?_⟩
      obtain ⟨r3, n3⟩ := mut_od r2 ((en.go n1).go n2) hs e2 gp2 hp2 (kv_put (k := kk) (Dp.ex n2.g q1) qq2)
      exact nx0 _ (by rw [ek, ok_bind, hko, ok_bind, if_pos hl]) G2 _ σ r3 n3
    · rw [if_neg hl] at h2
      exact absurd rfl h2
theorem js_dget (i : Nat) (hu : X.A.units + 64 < cLine) (hx : PE X (.Name x p) (tVar i)) (hk : JS ca X E k tk Fk) (hn : NoSl k := by intro _ _; rfl) : JS ca X E (.Subscript (.Name x p) k pos) (tDGet (tVar i) tk) (fDGet i Fk) := by
  refine ⟨pe_dget (by omega) hx hk.pe hn, fun G H ρ σ rep hns Q ok er => ?_⟩
  obtain ⟨ds, hs⟩ := ownT_ok hns
  have e0 : fDGet i Fk ρ = (Fk ρ >>= fun kd => keyOf kd >>= fun k => match getI ds k with | some d => .ok d | none => .stuck) := by unfold fDGet; rw [hs]; rfl
  rw [e0] at hns er
  obtain ⟨o, e2, pp, es, rfl, gp, hp, qq⟩ := rep.sl i _ hs
  refine ⟨.ref pp, e2, ?_⟩
  refine hk.sem.use rep hns er fun kd ek e3 G2 H2 w n2 r2 q2 h2 er2 => ?_
  obtain ⟨o', e4, p', es', z, gp2, hp2, qq2⟩ := r2.sl i _ hs
  rw [e2] at e4
  cases e4
  cases z
  cases hko : keyOf kd with
  | stuck => exact absurd (by rw [hko]; rfl) h2
  | err y => exact absurd hko keyOf_ne
  | ok kk =>
    rw [hko, ok_bind] at h2
    obtain ⟨b, rfl, hb⟩ := key_at (show Dp X.K G2 w kd from q2) hko
    rcases kv_get kk qq2 with ⟨_, g2⟩ | ⟨u, d, g1, g2, g3⟩
    · rw [g2] at h2
      exact absurd rfl h2
    · refine ⟨pp, u, rfl, ?_, ok d (by rw [e0, ek, ok_bind, hko, ok_bind, g2]) G2 H2 u n2 g3⟩
      rw [← g1]
      exact DGet.t hp2 (n2.gh _ _ hb)
theorem sem_din (i : Nat) (hk : SemG ⟨X.K, ca⟩ E tk Fk (RS ⟨X.K, ca⟩)) : SemG ⟨X.K, ca⟩ E (tDIn tk (tVar i)) (fDIn i Fk) (RS ⟨X.K, ca⟩) := fun G H ρ σ rep hns Q ok er => by
  refine hk.use rep hns er fun kd ek e3 G2 H2 w n2 r2 q2 h2 er2 => ?_
  cases hko : keyOf kd with
  | stuck => exact absurd (by rw [hko]; rfl) h2
  | err y => exact absurd hko keyOf_ne
  | ok kk =>
    rw [hko, ok_bind] at h2
    obtain ⟨ds, hs⟩ := ownT_ok h2
    obtain ⟨o', e4, p', es', rfl, gp2, hp2, qq2⟩ := r2.sl i _ hs
    obtain ⟨b, rfl, hb⟩ := key_at (show Dp X.K G2 w kd from q2) hko
    refine ⟨.ref p', e4, p', valV es' (kk.map Sum.inl), rfl, DGet.t hp2 (n2.gh _ _ hb), ?_⟩
    have e : (valV es' (kk.map Sum.inl)).isSome = (getI ds kk).isSome := by
      rcases kv_get kk qq2 with ⟨g1, g2⟩ | ⟨u, d, g1, g2, g3⟩ <;> rw [g1, g2] <;> rfl
    rw [e]
    exact ok _ (by unfold fDIn; rw [ek, ok_bind, hko, ok_bind, hs]; rfl) G2 H2 _ n2 (.bl _)
theorem js_din (i : Nat) (hu : X.A.units + 64 < cLine) (hx : PE X (.Name x p) (tVar i)) (hk : JS ca X E k tk Fk) (hm : behindInMarks .In (.Name x p) = false := by first | rfl | with_unfolding_all rfl) : JS ca X E (.Compare k [.In] [.Name x p] pos) (tDIn tk (tVar i)) (fDIn i Fk) :=
  ⟨pe_cmp (pc_din (by omega) hk.pe hx) hm, sem_din i hk.sem⟩
theorem jt_din (i : Nat) (hu : X.A.units + 64 < cLine) (hx : PE X (.Name x p) (tVar i)) (hk : JS ca X E k tk Fk) (hm : behindInMarks .In (.Name x p) = false := by first | rfl | with_unfolding_all rfl) : JT ca X E (.Compare k [.In] [.Name x p] pos) (tB (tDIn tk (tVar i))) (fB (fDIn i Fk)) :=
  ⟨pt_cmp (pc_din (by omega) hk.pe hx) hm, sem_test (sem_din i hk.sem)⟩
end
/-! ### sorted(xs), xs data that can be compared place by place -/
def alikeB (ds : List PyData) : Bool := ds.all fun d => ds.all fun d' => PySem.W.alike d d'
def sortB (ds : List PyData) : Bool := (ds.all fun d => match d with | .tuple (_ :: _) => true | _ => false) || (ds.all fun d => match d with | .none => false | .tuple _ => false | _ => true)
def depB (ds : List PyData) : Bool := ds.all fun d => decide (d.depth ≤ 20)
def sortD : PyData → Rs Sl
  | .list ds => if (alikeB ds && sortB ds && depB ds && decide (ds.length ≤ lim)) = true then .ok (.ol (ds.mergeSort (PySem.W.dataLe false id))) else .stuck
  | _ => .stuck
theorem alikeB_iff {ds : List PyData} (h : alikeB ds = true) : PySem.W.AllAlike ds := fun d hd d' hd' => by
  unfold alikeB at h
  exact List.all_eq_true.mp (List.all_eq_true.mp h d hd) d' hd'
theorem sortB_iff {ds : List PyData} (h : sortB ds = true) : PySem.W.Sortable ds := by
  unfold sortB at h
  rw [Bool.or_eq_true, List.all_eq_true, List.all_eq_true] at h
  rcases h with h | h
  · refine .inl fun d hd => ?_
    have := h d hd
    split at this
    · exact ⟨_, _, rfl⟩
    · cases this
  · refine .inr fun d hd => ?_
    have := h d hd
    refine ⟨fun z => ?_, fun xs z => ?_⟩ <;> rw [z] at this <;> cases this
def rSortedD (K : PySem.W.Frag) (u : Nat) : List V → Hp → VK → Prop := fun vs H Q => ∃ (G : Hp) (a : Addr) (xs : List V) (ds : List PyData), vs = [V.ref a] ∧ Ex G H ∧ SqL K H a xs ∧ DpAll K G xs ds ∧ PySem.W.AllAlike ds ∧ PySem.W.Sortable ds ∧ ds.length ≤ sizeLine ∧ (∀ d ∈ ds, u + 2 + d.depth < cLine) ∧
  ∀ (ys : List V) (p : Addr), DpAll K G ys (ds.mergeSort (PySem.W.dataLe false id)) → H p = none → Q (.ref p) (upd H p (.lst ys))
theorem each_of {K : PySem.W.Frag} {H : Hp} : ∀ {xs : List V} {us : List Value} {ds : List PyData}, Vals xs us → DpAll K H xs ds → PySem.W.EachIs (fun (v : Value) (d : PyData) => ∃ x, RelV x v ∧ Dp K H x d) us ds
  | _, _, _, .nil, .nil => .nil
  | _, _, _, .cons r rs, .cons h a => .cons ⟨_, r, h⟩ (each_of rs a)
theorem of_each {K : PySem.W.Frag} {H : Hp} {us : List Value} {ds : List PyData} (h : PySem.W.EachIs (fun (v : Value) (d : PyData) => ∃ x, RelV x v ∧ Dp K H x d) us ds) : ∃ xs, Vals xs us ∧ DpAll K H xs ds := by
  induction h with
  | nil => exact ⟨[], .nil, .nil⟩
  | cons r _ ih =>
    obtain ⟨x, r1, r2⟩ := r
    obtain ⟨xs, a, b⟩ := ih
    exact ⟨x :: xs, .cons r1 a, .cons r2 b⟩
theorem cr_sortedD {X : Cx} : CallR X (.builtin "sorted") (rSortedD X.K X.A.units) := by
  intro pins s σ H vs us Q I r h
  obtain ⟨G, a, xs, ds, rfl, hGH, hs, ha, hal, hk, hL, hu, q⟩ := h
  obtain ⟨its, rv, hl, hz⟩ := I.list hs
  rw [Vals.ref1 r]
  have e1 := each_of rv ha
  have e2 : PySem.W.EachIs (fun v b => ∃ as, Reads s.heap v (id b) as) its ds := e1.mono fun v d ⟨x, r1, r2⟩ => Dp.reads I d x v (Dp.ex hGH r2) r1
  refine PySem.W.sorted_data (enc := id) (bs := ds) (R := fun (v : Value) (d : PyData) => ∃ x, RelV x v ∧ Dp X.K G x d) hl.isList e1 e2 (by rw [List.map_id]; exact hal) (by rw [List.map_id]; exact hk) hL hu fun out ho he => ?_
  obtain ⟨ys, y1, y2⟩ := of_each he
  obtain ⟨ep, he'⟩ := PyProof.Rows.sortedAll_at s.heap its out.toArray
  have hlen : ys.length ≤ sizeLine := by rw [y1.length, ho]; exact hL
  exact ⟨.ref _, upd H (s.heap.objs.size + 1) (.lst ys), I.laid (t' := s.toks) (fun _ _ => PyProof.Rows.sortedAll_old) (Nat.le_succ _) ⟨hlen, out, ep, y1, he'⟩, rfl, q ys _ y2 (I.hok.fresh (Nat.le_succ _))⟩
theorem jv_sorted {ca : Nat → Addr} {X : Cx} {E : XK} {a : Expr} {ta : TE} {Fa : Env → Rs PyData} {p pos : Pos} (ha : JB ca X E a ta Fa) (hm : X.mg "sorted" = none) (hu : X.A.units + 64 < cLine) (hg : Gl X "sorted" := by rfl) (hst : starEach [a] X.env = (false, eval a X.env) :: starEach [] X.env := by rfl) :
    JV ca X E (.Call (.Name "sorted" p) [a] [] pos) (tCB (rSortedD X.K X.A.units) (tCons ta tNil)) (fUn sortD Fa) :=
  ⟨pe_callB cr_sortedD hg hm (by decide +kernel) (pa_cons ha.pe pa_nil hst) (he := hst), fun G H ρ σ rep hns Q ok er => by
    refine ha.sem.use rep hns er fun d ed e1 G1 H1 v n1 r1 q1 h1 er1 => ?_
    cases d with
    | list ds =>
      by_cases hc : (alikeB ds && sortB ds && depB ds && decide (ds.length ≤ lim)) = true
      · obtain ⟨a, xs, rfl, hx, ax⟩ := db_list n1.gh q1
        have hc2 := hc
        rw [Bool.and_eq_true, Bool.and_eq_true, Bool.and_eq_true, decide_eq_true_eq] at hc2
        obtain ⟨⟨⟨c1, c2⟩, c3⟩, c4⟩ := hc2
        refine ⟨G1, a, xs, ds, rfl, n1.gh, hx, ax, alikeB_iff c1, sortB_iff c2, lim_le c4, fun d hd => ?_, fun ys l hy hl => ?_⟩
        · have := List.all_eq_true.mp c3 d hd
          rw [decide_eq_true_eq] at this
          omega
        · refine ok (.ol (ds.mergeSort (PySem.W.dataLe false id))) (by unfold fUn; rw [ed]; exact if_pos hc) G1 _ _ (n1.trans (Nx.hid n1.gh hl)) ⟨l, ys, rfl, n1.h.back hl, n1.gh.back hl, upd_same, hy⟩
      · exact absurd (show sortD (.list ds) = .stuck from if_neg hc) h1
    | _ => exact absurd rfl h1⟩
end PF

namespace L2
open PySem PySem.Spec PyProof.Rows
/-! ### sorted(set(xs)), xs a list of tuples of numbers (any numbers) -/
theorem _root_.PySem.W.Sortable.tuples' {β : Type} {enc : β → PyData} {bs : List β} (h : ∀ b ∈ bs, ∃ x r, enc b = .tuple (x :: r)) : PySem.W.Sortable (bs.map enc) := .inl fun d hd => by
  obtain ⟨b, hb, rfl⟩ := List.mem_map.mp hd
  exact h b hb
def encQ (q : Addr × List Int) : PyData := .tuple (q.2.map .int)
section
variable {P : Program} {w : World} {h : Heap}
theorem reads_ints : ∀ {k : List Int} {vs : List Value}, ItemsAre (intKind P w) k vs → ReadsAll h vs (k.map .int) []
  | _, _, .nil => .nil
  | _, _, .cons h1 t => by
    obtain ⟨tk, e2⟩ := Value.isInt_shape h1
    rw [e2]
    exact ReadsAll.cons (as := []) (.int _ _) (reads_ints t)
theorem isT_reads {k : List Int} {b : Addr} (x : IsT P w h k b) : Reads h (.ref b) (.tuple (k.map .int)) [] := by
  obtain ⟨o, items, n, ho, hc, hd, hi⟩ := x
  exact .tuple ho hc hd (reads_ints hi)
end
section
variable {P : Program} {w : World} {A : Around} {E : Value → Shared → Prop} {s : Shared}
theorem each_refs : ∀ L1 : List (Addr × List Int), PySem.W.EachIs (fun (v : Value) (q : Addr × List Int) => v = .ref q.1) (L1.map fun q => Value.ref q.1) L1
  | [] => .nil
  | q :: L1 => .cons rfl (each_refs L1)
theorem refs_each : ∀ {out : List Value} {L1 : List (Addr × List Int)}, PySem.W.EachIs (fun (v : Value) (q : Addr × List Int) => v = .ref q.1) out L1 → out = L1.map fun q => Value.ref q.1
  | _, _, .nil => rfl
  | _, _, .cons h t => by rw [List.map_cons, h, ← refs_each t]
theorem list_sort_dataS {β : Type} {R : Value → β → Prop} {enc : β → PyData} {bs : List β} {vs : List Value} {a : Addr} {n : Nat} {Q : Value → Shared → Prop} (ho : s.heap.get? a = some (seqObj "list" vs.toArray n)) (e : PySem.W.EachIs R vs bs) (er : PySem.W.EachIs (fun v b => ∃ as, Reads s.heap v (enc b) as ∧ a ∉ as) vs bs) (hal : PySem.W.AllAlike (bs.map enc)) (hk : PySem.W.Sortable (bs.map enc) ∨ bs.length ≤ 1) (hL : bs.length ≤ sizeLine)
    (hu : ∀ b, b ∈ bs → A.units + 1 + (enc b).depth < cLine) (h : ∀ out : List Value, out.length = bs.length → PySem.W.EachIs R out (bs.mergeSort (PySem.W.dataLe false enc)) → Q .none { s with heap := sortedHeap s.heap a vs (List.toArray out) }) :
    wpAny (model P w) A (call (.builtin "list.sort") [.ref a]) Q E s := by
  rcases hk with hk | h1
  · exact PySem.W.list_sort_data ho e er hal hk hL hu h
  · have hvl : vs.length ≤ 1 := by rw [e.length]; exact h1
    refine wpAny_call_entry slot_list_sort ⟨_, ho, rfl⟩ entry_list_sort (SK.plain_sort (r := fun _ => 0) ho (by omega) (fun h2 => absurd h2 (by omega)) fun ps out a1 a2 a3 => ?_) (args_list_sort _)
    obtain ⟨p, _⟩ := TS.out_rank (r := fun _ => 0) a1 a2 a3
    have eo : out.toList = vs := by
      have hl := p.length_eq
      match vs, hvl, p with
      | [], _, p => exact List.Perm.eq_nil p
      | [v], _, p => exact List.perm_singleton.mp p
    have eb : bs.mergeSort (PySem.W.dataLe false enc) = bs := by
      match bs, h1 with
      | [], _ => simp
      | [b], _ => simp
    refine ⟨_, rfl, ?_⟩
    have := h out.toList (by rw [eo]; exact e.length) (by rw [eb, eo]; exact e)
    simpa using this
theorem sorted_setD {a : Addr} {L : List (Addr × List Int)} {es : Array (Int × Value)} {ep : Nat} {t : SetTable} {Q : Value → Shared → Prop} (R : SetTR P w s.heap a L es ep t) (hh : A.handled = none)
    (hal : PySem.W.AllAlike (L.map encQ)) (hk : PySem.W.Sortable (L.map encQ) ∨ L.length ≤ 1) (hu : A.units + 4 < cLine)
    (hQ : ∀ s' p (out : Array Value) (c : Nat) (L1 : List (Addr × List Int)), (∀ b o, s.heap.get? b = some o → s'.heap.get? b = some o) → s'.gens = s.gens → s'.os = s.os → s.heap.objs.size ≤ p →
      s'.heap.get? p = some (seqObj "list" out c) → L1.Perm L → out.toList = (L1.mergeSort (PySem.W.dataLe false encQ)).map (fun q => Value.ref q.1) → Q (.ref p) s') :
    wpAny (model P w) A (call (.builtin "sorted") [.ref a]) Q E s := by
  obtain ⟨o, ho, hex, hd⟩ := R.ob
  have hsz := R.size
  have hfew := R.few
  refine Calls.call_function_entry kind_sorted plain_sorted entry_sorted (args_sorted1 _) ?_
  unfold Builtin.«sorted»
  refine wpAny_bind (m := checkCount "sorted" 1 1 _) (wpAny_pure ?_)
  refine wpAny_bind (collect_set (A := A.in1) hh ⟨o, ho, hex.1, hd⟩ R.fits (by unfold scanBound; omega) R.tab.ris R.led fun s1 vs k1 hz g1 o1 pm => ?_)
  have hes : es.toList.map (·.2) = L.map fun q => Value.ref q.1 := by
    rw [R.rows]
    unfold rowsOf
    rw [List.map_map] <;> rfl
  rw [hes] at pm
  have ord : ∀ vs : List Value, (∀ v ∈ vs, ∃ q ∈ L, v = Value.ref q.1) → ∃ L1 : List (Addr × List Int), vs = L1.map (fun q => Value.ref q.1) ∧ ∀ q ∈ L1, q ∈ L := by
    intro vs
    induction vs with
    | nil => intro _; exact ⟨[], rfl, fun q hq => (by cases hq)⟩
    | cons v vs ih =>
      intro hv
      obtain ⟨q, hq, e⟩ := hv v List.mem_cons_self
      obtain ⟨L1, e1, hs⟩ := ih fun u hu => hv u (List.mem_cons_of_mem _ hu)
      refine ⟨q :: L1, by rw [List.map_cons, e, e1], fun r hr => ?_⟩
      rcases List.mem_cons.mp hr with z | z
      · rw [z]; exact hq
      · exact hs r z
  have one : ∀ q ∈ L, ∀ r ∈ L, q.1 = r.1 → q = r := fun q hq r hr e => by
    have a1 := R.tup q hq
    have a2 := R.tup r hr
    rw [e] at a1
    have e2 : q.2 = r.2 := a1.inj a2
    exact Prod.ext e e2
  have perm_of : ∀ L1 : List (Addr × List Int), (∀ q ∈ L1, q ∈ L) → (L1.map (fun q => Value.ref q.1)).Perm (L.map fun q => Value.ref q.1) → L1.Perm L := by
    intro L1 hs pm1
    have nL : L.Nodup := nodup_of_map R.nd
    have nref : (L.map fun q => Value.ref q.1).Nodup := by
      refine List.pairwise_map.mpr (List.Pairwise.imp_of_mem (fun {q r} hq hr hne e => ?_) nL)
      injection e with e
      exact hne (one q hq r hr e)
    have n1 : L1.Nodup := nodup_of_map (pm1.nodup_iff.mpr nref)
    refine (List.perm_ext_iff_of_nodup n1 nL).mpr fun q => ⟨hs q, fun hq => ?_⟩
    have hm : Value.ref q.1 ∈ L1.map (fun q => Value.ref q.1) := pm1.mem_iff.mpr (List.mem_map.mpr ⟨q, hq, rfl⟩)
    obtain ⟨r, hr, e⟩ := List.mem_map.mp hm
    injection e with e
    rw [← one r (hs r hr) q hq e]
    exact hr
  have hvl : vs.length < 64 := by rw [pm.length_eq, List.length_map]; exact hfew
  obtain ⟨L1, e1, hs1⟩ := ord vs fun v hv => by
    obtain ⟨q, hq, e⟩ := List.mem_map.mp (pm.mem_iff.mp hv)
    exact ⟨q, hq, e.symm⟩
  have p1 : L1.Perm L := perm_of L1 hs1 (by rw [← e1]; exact pm)
  refine wpAny_bind (wpAny_newList ?_ (by rw [sizeLine_eq]; omega))
  have hoL : (s1.heap.push (seqObj "list" vs.toArray 0)).get? s1.heap.objs.size = some (seqObj "list" vs.toArray 0) := Heap.get?_push_size _ rfl
  have hl1 : L1.length ≤ sizeLine := by
    have : L1.length = vs.length := by rw [e1, List.length_map]
    rw [this, sizeLine_eq]
    omega
  have hal1 : PySem.W.AllAlike (L1.map encQ) := fun d hd d' hd' => by
    have m : ∀ d ∈ L1.map encQ, d ∈ L.map encQ := fun d hd => (p1.map encQ).mem_iff.mp hd
    exact hal d (m d hd) d' (m d' hd')
  have hk1 : PySem.W.Sortable (L1.map encQ) ∨ L1.length ≤ 1 := by
    have m : ∀ d ∈ L1.map encQ, d ∈ L.map encQ := fun d hd => (p1.map encQ).mem_iff.mp hd
    rcases hk with (k | k) | k
    · exact .inl (.inl fun d hd => k d (m d hd))
    · exact .inl (.inr fun d hd => k d (m d hd))
    · exact .inr (by rw [p1.length_eq]; exact k)
  have er : PySem.W.EachIs (fun (v : Value) (q : Addr × List Int) => ∃ as, Reads (s1.heap.push (seqObj "list" vs.toArray 0)) v (encQ q) as ∧ s1.heap.objs.size ∉ as) vs L1 := by
    rw [e1]
    have : ∀ M : List (Addr × List Int), (∀ q ∈ M, q ∈ L) → PySem.W.EachIs (fun (v : Value) (q : Addr × List Int) => ∃ as, Reads (s1.heap.push (seqObj "list" (L1.map fun q => Value.ref q.1).toArray 0)) v (encQ q) as ∧ s1.heap.objs.size ∉ as) (M.map fun q => Value.ref q.1) M := by
      intro M
      induction M with
      | nil => intro _; exact .nil
      | cons q M ih =>
        intro hM
        exact .cons ⟨[], isT_reads (P := P) (w := w) (isT_keep (R.tup q (hM q List.mem_cons_self)) fun b u e => Heap.get?_push_of_some _ (k1 b u e)), by simp⟩ (ih fun r hr => hM r (List.mem_cons_of_mem _ hr))
    exact this L1 hs1
  have hdep : ∀ q ∈ L1, A.in1.units + 1 + (encQ q).depth < cLine := fun q _ => by
    unfold encQ
    rw [PyData.depth, PySem.W.depth_ints]
    show A.units + 1 + 1 + (0 + 1) < cLine
    omega
  refine wpAny_bind (wpAny_holding (list_sort_dataS (s := { s1 with heap := s1.heap.push (seqObj "list" vs.toArray 0) }) (enc := encQ) (R := fun (v : Value) (q : Addr × List Int) => v = .ref q.1) hoL (by rw [e1]; exact each_refs L1) er hal1 hk1 hl1 hdep fun out ho' he' => ?_))
  obtain ⟨c, hc⟩ := sortedHeap_at (vs := vs) (out := out.toArray) hoL
  refine wpAny_pure ⟨_, rfl, hQ _ s1.heap.objs.size out.toArray c L1 (fun b u e => ?_) g1 o1 hz hc p1 (by rw [List.toList_toArray]; exact refs_each he')⟩
  have q := k1 b u e
  have hlt := Heap.lt_size q
  show (sortedHeap (s1.heap.push (seqObj "list" vs.toArray 0)) s1.heap.objs.size vs out.toArray).get? b = some u
  rw [sortedHeap_old (Nat.ne_of_lt hlt) (by rw [size_push']; exact Nat.lt_succ_of_lt hlt)]
  exact Heap.get?_push_of_some _ q
end
/-- sorted(set) -/
def rSortedSetD (K : PySem.W.Frag) (P : Program) (w : World) : List V → Hp → VK → Prop := fun vs H Q => ∃ (a : Addr) (L : List (Addr × List Int)), vs = [V.ref a] ∧ H a = some (SetTO P w a L) ∧ (∀ p ∈ L, SqT K H p.1 (p.2.map V.int)) ∧ PySem.W.AllAlike (L.map encQ) ∧ (PySem.W.Sortable (L.map encQ) ∨ ∀ p ∈ L, ∀ q ∈ L, p.2 = q.2) ∧
  ∀ (L1 : List (Addr × List Int)) (p : Addr), L1.Perm L → (L1.map (·.2)).Nodup → H p = none → Q (.ref p) (upd H p (.lst ((L1.mergeSort (PySem.W.dataLe false encQ)).map fun q => V.ref q.1)))
theorem cr_sortedSetD {X : Cx} (hc : X.calm = true) (hu : X.A.units + 64 < cLine) : CallR X (.builtin "sorted") (rSortedSetD X.K X.prog X.w) := by
  intro pins s σ H vs us Q I r h
  obtain ⟨a, L, rfl, ha, hk, hal, hso, q⟩ := h
  have R0 : SetT0 X.prog X.w s.heap a L := (I.hok a _ ha).1
  obtain ⟨es, ep, t, R⟩ := R0.full fun p hp => I.isT (hk p hp)
  rw [Vals.ref1 r]
  have hso : PySem.W.Sortable (L.map encQ) ∨ L.length ≤ 1 := hso.imp id fun z => by
    have nd := R.nd
    match L, nd, z with
    | [], _, _ => exact Nat.zero_le _
    | [p], _, _ => exact Nat.le_refl _
    | p :: q :: L, nd, z =>
      rw [List.map_cons, List.map_cons] at nd
      exact absurd (by rw [z p List.mem_cons_self q (by simp)]; exact List.mem_cons_self) (List.nodup_cons.mp nd).1
  refine sorted_setD R (I.ok.hd hc) hal hso (by omega) fun s' p out c L1 k g o hp hg pm hout => ?_
  have hfew : L1.length < 64 := by rw [pm.length_eq]; exact R.few
  have hlen : ((L1.mergeSort (PySem.W.dataLe false encQ)).map fun q => V.ref q.1).length ≤ sizeLine := by rw [List.length_map, List.length_mergeSort, sizeLine_eq]; omega
  have hn : H p = none := I.hok.fresh hp
  have hv : Vals ((L1.mergeSort (PySem.W.dataLe false encQ)).map fun q => V.ref q.1) out.toList := by rw [hout]; exact vals_of_refs _
  have J : Inv X pins σ (upd H p (.lst ((L1.mergeSort (PySem.W.dataLe false encQ)).map fun q => V.ref q.1))) { s with heap := s'.heap, gens := s'.gens, drawn := s'.drawn, toks := s'.toks } :=
    I.call (ch := []) (Un.laid k hp hn) (I.hok.laid k hp ⟨hlen, out.toList, c, hv, hg⟩) (by rw [g]; exact I.bare) (fun _ z => nomatch z)
  have e : s' = { s with heap := s'.heap, gens := s'.gens, drawn := s'.drawn, toks := s'.toks } := by
    cases s'
    cases s
    cases o
    rfl
  rw [e]
  exact ⟨.ref p, _, J, rfl, q L1 p pm ((pm.map (·.2)).nodup_iff.mpr R.nd) hn⟩
/-! ### a truth less another -/
theorem op_bsub {X : Cx} : OpR X (binaryOp .Sub) (fun x y H Q => ∃ a b : Bool, x = .bl a ∧ y = .bl b ∧ Q (.int (PyProof.Rows.b2i a - PyProof.Rows.b2i b)) H) := by
  intro pins s σ H x y v u Q I rx ry h
  obtain ⟨a, b, rfl, rfl, q⟩ := h
  cases rx
  cases ry
  exact PyProof.Rows.sub_bool ⟨.int _, H, I.tok _, ⟨_, rfl⟩, q⟩
end L2
namespace PF
open PySem L2
/-! ### the order of rows of numbers -/
theorem dataLe_tups {β : Type} (x : β → List Int) : PySem.W.dataLe false (fun b => PyData.tuple ((x b).map .int)) = fun p q => decide (x p ≤ x q) := by
  funext p q
  show (!PySem.W.dataLt (.tuple ((x q).map .int)) (.tuple ((x p).map .int))) = _
  rw [PySem.W.dataLt_tuple]
  show (!PySem.W.rowLt ((x q).map .int) ((x p).map .int)) = _
  rw [PySem.W.dataLt_ints]
  by_cases h : x q < x p
  · have h' : ¬ x p ≤ x q := fun r => List.not_lt.mpr r h
    simp [h, h']
  · have h' : x p ≤ x q := List.not_lt.mp h
    simp [h, h']
abbrev leT : List Int → List Int → Bool := fun p q => decide (p ≤ q)
theorem leT_trans (a b c : List Int) (h1 : leT a b = true) (h2 : leT b c = true) : leT a c = true := decide_eq_true (List.le_trans (of_decide_eq_true h1) (of_decide_eq_true h2))
theorem leT_total (a b : List Int) : (leT a b || leT b a) = true := by
  rw [Bool.or_eq_true, decide_eq_true_eq, decide_eq_true_eq]
  exact List.le_total a b
theorem leT_anti {a b : List Int} (h1 : leT a b = true) (h2 : leT b a = true) : a = b := List.le_antisymm (of_decide_eq_true h1) (of_decide_eq_true h2)
/-- rows in order are told by their members -/
theorem sorted_uniq {xs ys : List (List Int)} (hx : xs.Pairwise fun a b => leT a b = true) (hy : ys.Pairwise fun a b => leT a b = true) (h : xs.Perm ys) : xs = ys := List.Perm.eq_of_pairwise (fun a b _ _ h1 h2 => leT_anti h1 h2) hx hy h
/-- each once, in order -/
def sortSet (xs : List (List Int)) : List (List Int) := (xs.foldl (fun s x => if x ∈ s then s else s ++ [x]) []).mergeSort leT
theorem dd_mem {x : List Int} : ∀ (xs s : List (List Int)), x ∈ xs.foldl (fun s x => if x ∈ s then s else s ++ [x]) s ↔ x ∈ s ∨ x ∈ xs
  | [], s => by simp
  | y :: xs, s => by
    rw [List.foldl_cons, dd_mem xs, List.mem_cons]
    by_cases h : y ∈ s
    · rw [if_pos h]
      constructor
      · rintro (q | q)
        · exact .inl q
        · exact .inr (.inr q)
      · rintro (q | rfl | q)
        · exact .inl q
        · exact .inl h
        · exact .inr q
    · rw [if_neg h, List.mem_append, List.mem_singleton]
      exact or_assoc
theorem dd_nodup : ∀ (xs s : List (List Int)), s.Nodup → (xs.foldl (fun s x => if x ∈ s then s else s ++ [x]) s).Nodup
  | [], _, h => h
  | y :: xs, s, h => by
    rw [List.foldl_cons]
    refine dd_nodup xs _ ?_
    by_cases hm : y ∈ s
    · rw [if_pos hm]; exact h
    · rw [if_neg hm]
      exact List.nodup_append.mpr ⟨h, by simp, fun a ha b hb e => hm (by rw [List.mem_singleton.mp hb] at e; rwa [← e])⟩
theorem sortSet_of {xs ks : List (List Int)} (hn : ks.Nodup) (hm : ∀ k, k ∈ ks ↔ k ∈ xs) : ks.mergeSort leT = sortSet xs := by
  refine sorted_uniq (List.pairwise_mergeSort leT_trans leT_total _) (List.pairwise_mergeSort leT_trans leT_total _) ?_
  refine (List.mergeSort_perm _ _).trans (List.Perm.trans ?_ (List.mergeSort_perm _ _).symm)
  refine (List.perm_ext_iff_of_nodup hn (dd_nodup xs [] List.nodup_nil)).mpr fun k => ?_
  rw [dd_mem]
  simp [hm]
theorem sortSet_id {xs : List (List Int)} (hn : xs.Nodup) (hs : xs.Pairwise fun a b => leT a b = true) : sortSet xs = xs := by
  rw [← sortSet_of hn fun k => Iff.rfl]
  exact List.mergeSort_of_pairwise hs
/-- the keys of a list of tuples of numbers -/
def keysOf : List PyData → Rs (List (List Int))
  | [] => .ok []
  | d :: ds => keyOf d >>= fun k => keysOf ds >>= fun ks => .ok (k :: ks)
theorem keysOf_ne : ∀ (ds : List PyData) (x : Exn), keysOf ds ≠ .err x
  | [], x, h => by cases h
  | d :: ds, x, h => by
    unfold keysOf at h
    cases hk : keyOf d with
    | stuck => rw [hk] at h; cases h
    | err y => exact keyOf_ne hk
    | ok k =>
      rw [hk, ok_bind] at h
      cases hr : keysOf ds with
      | stuck => rw [hr] at h; cases h
      | err y => exact keysOf_ne ds y hr
      | ok ks => rw [hr, ok_bind] at h; cases h
def tupK (k : List Int) : PyData := .tuple (k.map .int)
def sortSetD : PyData → Rs Sl
  | .list ds => keysOf ds >>= fun ks => if ks.length < 64 ∧ ((ks.all fun k => !k.isEmpty) = true ∨ ks.length ≤ 1) then .ok (.ol ((sortSet ks).map tupK)) else .stuck
  | _ => .stuck
theorem sortSetD_eq (ds : List PyData) : sortSetD (.list ds) = keysOf ds >>= fun ks => if ks.length < 64 ∧ ((ks.all fun k => !k.isEmpty) = true ∨ ks.length ≤ 1) then .ok (.ol ((sortSet ks).map tupK)) else .stuck := rfl
theorem keys_at {K : PySem.W.Frag} {G : Hp} : ∀ {xs : List V} {ds : List PyData} {ks : List (List Int)}, DpAll K G xs ds → keysOf ds = .ok ks → ∃ ps : List (Addr × List Int), xs = (ps.map fun p => V.ref p.1) ∧ ps.map (·.2) = ks ∧ ∀ p ∈ ps, G p.1 = some (.tup (p.2.map V.int))
  | _, _, ks, .nil, h => by
    cases h
    exact ⟨[], rfl, rfl, fun _ h => nomatch h⟩
  | _, _, ks, .cons (v := v) (d := d) (ds := ds) hv a, h => by
    unfold keysOf at h
    cases hk : keyOf d with
    | stuck => rw [hk] at h; cases h
    | err y => rw [hk] at h; cases h
    | ok k =>
      rw [hk, ok_bind] at h
      cases hr : keysOf ds with
      | stuck => rw [hr] at h; cases h
      | err y => rw [hr] at h; cases h
      | ok ks' =>
        rw [hr, ok_bind] at h
        cases h
        obtain ⟨ps, e1, e2, e3⟩ := keys_at a hr
        obtain ⟨b, rfl, hb⟩ := key_at hv hk
        refine ⟨(b, k) :: ps, by rw [List.map_cons, e1], by rw [List.map_cons, e2], fun p hp => ?_⟩
        rcases List.mem_cons.mp hp with rfl | hp
        · rw [hb, List.map_map]; rfl
        · exact e3 p hp
theorem dp_ints {K : PySem.W.Frag} {G : Hp} : ∀ k : List Int, DpAll K G (k.map V.int) (k.map .int)
  | [] => .nil
  | i :: k => .cons (.int i) (dp_ints k)
theorem dp_tups {K : PySem.W.Frag} {G : Hp} : ∀ L : List (Addr × List Int), (∀ p ∈ L, G p.1 = some (.tup (p.2.map V.int))) → DpAll K G (L.map fun q => V.ref q.1) ((L.map (·.2)).map tupK)
  | [], _ => .nil
  | p :: L, h => .cons (.tup (h p List.mem_cons_self) (dp_ints p.2)) (dp_tups L fun q hq => h q (List.mem_cons_of_mem _ hq))
theorem jv_sortSet {ca : Nat → Addr} {X : Cx} {E : XK} {a : Expr} {ta : TE} {Fa : Env → Rs PyData} {p p2 pos pos2 : Pos} (ha : JB ca X E a ta Fa) (hc : X.calm = true) (hm : X.mg "sorted" = none) (hm2 : X.mg "set" = none) (hu : X.A.units + 64 < cLine) (hg : Gl X "sorted" := by rfl) (hg2 : Gl X "set" := by rfl)
    (hst : starEach [a] X.env = (false, eval a X.env) :: starEach [] X.env := by rfl)
    (hst2 : starEach [.Call (.Name "set" p2) [a] [] pos2] X.env = (false, eval (.Call (.Name "set" p2) [a] [] pos2) X.env) :: starEach [] X.env := by rfl) :
    JV ca X E (.Call (.Name "sorted" p) [.Call (.Name "set" p2) [a] [] pos2] [] pos) (tCB (rSortedSetD X.K X.prog X.w) (tCons (tCB (rSetOfT X.K X.prog X.w) (tCons ta tNil)) tNil)) (fUn sortSetD Fa) :=
  ⟨pe_callB (cr_sortedSetD hc hu) hg hm (by decide +kernel) (pa_cons (pe_callTy (cr_setOfT hc hu) hg2 hm2 (by decide +kernel) (pa_cons ha.pe pa_nil hst) (he := hst)) pa_nil hst2) (he := hst2), fun G H ρ σ rep hns Q ok er => by
    refine ha.sem.use rep hns er fun d ed e1 G1 H1 v n1 r1 q1 h1 er1 => ?_
    cases d with
    | list ds =>
      obtain ⟨l, xs, rfl, hx, ax⟩ := db_list n1.gh q1
      cases hk : keysOf ds with
      | stuck => exact absurd (show sortSetD (.list ds) = .stuck by rw [sortSetD_eq, hk]; rfl) h1
      | err y => exact absurd hk (keysOf_ne ds y)
      | ok ks =>
        by_cases hcnd : ks.length < 64 ∧ ((ks.all fun k => !k.isEmpty) = true ∨ ks.length ≤ 1)
        · obtain ⟨ps, rfl, rfl, htup⟩ := keys_at ax hk
          have hres : fUn sortSetD Fa ρ = .ok (.ol ((sortSet (ps.map (·.2))).map tupK)) := by
            unfold fUn
            rw [ed]
            show sortSetD (.list ds) = _
            rw [sortSetD_eq, hk, ok_bind, if_pos hcnd]
          rw [List.length_map] at hcnd
          refine ⟨l, ps, rfl, hx, fun q hq => tup_sqt (n1.gh _ _ (htup q hq)), hcnd.1, fun b L hb hsub hall => ?_⟩
          refine ⟨b, L, rfl, upd_same, fun q hq => tup_sqt ((Ex.new hb) _ _ (n1.gh _ _ (htup q (hsub q hq)))), ?_, ?_, fun L1 r hp hnd hr => ?_⟩
          · exact PySem.W.AllAlike.of fun q r => by unfold encQ; rw [PySem.W.alike]; exact PySem.W.alike_ints _ _
          · rcases hcnd.2 with z | z
            · refine .inl (PySem.W.Sortable.tuples' ?_)
              intro q hq
              have hq' := List.all_eq_true.mp z q.2 (List.mem_map.mpr ⟨q, hsub q hq, rfl⟩)
              unfold encQ
              cases hk2 : q.2 with
              | nil => rw [hk2] at hq'; simp at hq'
              | cons i k => exact ⟨_, _, rfl⟩
            · refine .inr fun q hq r hr => ?_
              have h2 := hsub q hq
              have h3 := hsub r hr
              match ps, z, h2, h3 with
              | [x], _, h2, h3 => rw [List.mem_singleton.mp h2, List.mem_singleton.mp h3]
          · have hsrt : (L1.mergeSort (PySem.W.dataLe false encQ)).map (·.2) = sortSet (ps.map (·.2)) := by
              have e0 : PySem.W.dataLe false encQ = fun p q : Addr × List Int => leT p.2 q.2 := dataLe_tups (fun q : Addr × List Int => q.2)
              rw [e0, List.map_mergeSort (s := leT) (fun _ _ _ _ => rfl)]
              refine sortSet_of hnd fun k => ?_
              constructor
              · intro hk2
                obtain ⟨q, hq, rfl⟩ := List.mem_map.mp hk2
                exact List.mem_map.mpr ⟨q, hsub q (hp.mem_iff.mp hq), rfl⟩
              · intro hk2
                obtain ⟨q, hq, rfl⟩ := List.mem_map.mp hk2
                obtain ⟨r, hr2, e⟩ := List.mem_map.mp (hall q hq)
                exact List.mem_map.mpr ⟨r, hp.mem_iff.mpr hr2, e⟩
            have nx := (n1.trans (Nx.hid (o := SetTO X.prog X.w b L) n1.gh hb)).trans (Nx.hid (o := .lst ((L1.mergeSort (PySem.W.dataLe false encQ)).map fun q => V.ref q.1)) (n1.gh.trans (Ex.new hb)) hr)
            refine ok _ hres G1 _ _ nx ⟨r, _, rfl, (n1.h.trans (Ex.new hb)).back hr, (n1.gh.trans (Ex.new hb)).back hr, upd_same, ?_⟩
            rw [← hsrt]
            exact dp_tups _ fun q hq => htup q (hsub q (hp.mem_iff.mp ((List.mergeSort_perm _ _).mem_iff.mp hq)))
        · exact absurd (show sortSetD (.list ds) = .stuck by rw [sortSetD_eq, hk, ok_bind, if_neg hcnd]) h1
    | _ => exact absurd rfl h1⟩
/-! ### a truth less another -/
def bsubD : PyData → PyData → Rs PyData
  | .bool a, .bool b => .ok (.int (PyProof.Rows.b2i a - PyProof.Rows.b2i b))
  | _, _ => .stuck
theorem opsem_bsub {c : Pc} : OpSem c (fun x y H Q => ∃ a b : Bool, x = .bl a ∧ y = .bl b ∧ Q (.int (PyProof.Rows.b2i a - PyProof.Rows.b2i b)) H) bsubD (RS c) where
  go := fun G H x y a b s e da db hs Q q => by
    unfold bsubD at hs
    split at hs
    · cases hs
      exact ⟨_, _, db_bl da, db_bl db, q G H _ (Nx.refl e) (.int _)⟩
    · cases hs
  ne := fun a b x h => by unfold bsubD at h; split at h <;> cases h
theorem js_bsub {ca : Nat → Addr} {X : Cx} {E : XK} {a b : Expr} {ta tb : TE} {Fa Fb : Env → Rs PyData} {pos : Pos} (ha : JB ca X E a ta Fa) (hb : JB ca X E b tb Fb) : JS ca X E (.BinOp a .Sub b pos) (tOp (fun x y H Q => ∃ a b : Bool, x = .bl a ∧ y = .bl b ∧ Q (.int (PyProof.Rows.b2i a - PyProof.Rows.b2i b)) H) ta tb) (fOp bsubD Fa Fb) := js_bin op_bsub opsem_bsub ha hb
end PF

namespace L2
namespace KV2
open PySem PySem.Spec PyProof.Rows
section
variable {X : Cx} {e : Expr} {te : TE} {p apos cpos pos : Pos}
/-- list(e.keys()), e a dict with tuple keys -/
def tListKeysT (te : TE) : TE := fun σ H Q => te σ H fun x H1 => ∃ (d : Addr) (kvs : List (List Key × V)), x = .ref d ∧ H1 d = some (.dT kvs) ∧ ∀ p bs, H1 p = none → IsKeys H1 kvs bs → Q (.ref p) (upd H1 p (.lst (bs.map V.ref)))
def tListValsT (te : TE) : TE := fun σ H Q => te σ H fun x H1 => ∃ (d : Addr) (kvs : List (List Key × V)), x = .ref d ∧ H1 d = some (.dT kvs) ∧ ∀ p, H1 p = none → Q (.ref p) (upd H1 p (.lst (kvs.map (·.2))))
theorem kt_vals {H : Hp} {kvs : List (List Key × V)} {xs : List (List Key × Addr × Value)} (r : KT H kvs xs) : Vals (kvs.map (·.2)) (xs.map fun x => x.2.2) := by
  induction r with
  | nil => exact .nil
  | cons h t ih => exact .cons h.2.2 ih
theorem pe_listKeysT (hc : X.calm = true) (he : PE X e te) (hg : Gl X "list") (hm : X.mg "list" = none) (hv : bootBuiltins "list" = some (.type "list") := by decide +kernel) (hbase : attributeBase e "keys" X.env (eval e X.env) = eval e X.env := by rfl) (hline : (apos.endLine == cpos.line) = true := by rfl)
    (hs : starEach [.Call (.Attribute e "keys" apos) [] [] cpos] X.env = (false, eval (.Call (.Attribute e "keys" apos) [] [] cpos) X.env) :: starEach [] X.env := by rfl) :
    PE X (.Call (.Name "list" p) [.Call (.Attribute e "keys" apos) [] [] cpos] [] pos) (tListKeysT te) := by
  refine ⟨fun pins s σ H Q I hq => ?_⟩
  refine wpAny_Call_Name_kw (ld_blt I hg hm hv ?_)
  refine PyProof.Rows.callWith_type1 ?_ hs rfl
  rw [hs]
  show wpAny _ _ (spliced ((false, eval (.Call (.Attribute e "keys" apos) [] [] cpos) X.env) :: backTo pos (starEach [] X.env))) _ _ s
  refine Calls.spliced_cons ?_
  refine wpAny_Call_method (T := "dict") (id := "dict.keys") hbase rfl hline F.plainAttrs_dict F.slot_dict_keys F.type_dict_keys (thn (he.run pins s σ H _ I hq) fun u s1 ⟨x, H1, I1, rx, d, kvs, ex, hd, q⟩ => ?_)
  subst ex
  obtain rfl : u = Value.ref d := rx
  obtain ⟨z, hsm, ks, pr, o, es, ep, ho, hx, hdt, hen, hn⟩ := (show ObjOk X.prog X.w H1 s1.heap d (.dT kvs) from I1.hok d _ hd)
  have l1 : es.size = ks.length := size_of_entries hen
  have l2 : kvs.length = ks.length := Paired.length pr
  have raw : s1.heap.DictRaw d es ep := ⟨o, ho, hx, hdt⟩
  obtain ⟨t1, t2, _⟩ := isD_at I1 (.inr ⟨kvs, .inl hd⟩)
  have I2 : Inv X pins σ H1 { s1 with heap := s1.heap.push { cls := .type "dict_keys", data := .fields #[.ref d] } } := I1.kept (t' := s1.toks) fun b ob q => Heap.get?_push_of_some _ q
  refine ⟨t1, t2, ?_⟩
  show wpAny _ _ (callWith cpos (.builtin "dict.keys") [.ref d] [] []) _ X.xe s1
  refine method_meetsIn F.slot_dict_keys F.entry_dict_keys rfl (PySem.evalArgs_none ⟨rfl, t1, F.args_dict_keys_1 _, _, meets_dict_keys_raw d hsm, ⟨es, ep, raw⟩, ?_⟩)
  refine Calls.spliced_nil ?_
  refine PySem.W.kdl_call (PySem.KdlSrc.rawKeys (r := s1.heap.objs.size) (d := d) (es := es) (ep := ep)) (I1.ok.hd hc) ⟨⟨_, Heap.get?_push_size _ rfl, rfl, rfl⟩, raw.push _⟩ (by omega) fun h' tk acc' c' kp e' it => ?_
  have ea : acc'.toList = ks.map fun x => Value.ref x.2.1 := by
    have hl : acc'.toList.length = ks.length := by rw [Array.length_toList, it.1]; exact l1
    apply List.ext_getElem?
    intro j
    rw [List.getElem?_map]
    cases hj : acc'.toList[j]? with
    | none =>
      have h1 := List.getElem?_eq_none_iff.mp hj
      rw [List.getElem?_eq_none (by omega)]
      all_goals rfl
    | some v =>
      obtain ⟨hi, hv'⟩ := it.2 j v (by rw [← Array.getElem?_toList]; exact hj)
      have qe := entry_at hen j
      rw [Array.getElem?_eq_getElem hi] at qe
      cases hb : ks[j]? with
      | none =>
        rw [hb] at qe
        exact nomatch (show some es[j] = none from qe)
      | some b =>
        rw [hb] at qe
        have e2 : es[j] = entryOfKey (tupleKind (mixKind X.prog X.w)) b := Option.some.inj qe
        rw [hv', e2]
        all_goals rfl
  have eb : acc'.toList = (ks.map fun x => x.2.1).map Value.ref := by rw [ea, List.map_map]; all_goals rfl
  have rv : Vals ((ks.map fun x => x.2.1).map V.ref) acc'.toList := by rw [eb]; exact vals_refs _
  have hz : ((ks.map fun x => x.2.1).map V.ref).length ≤ sizeLine := by rw [List.length_map, List.length_map]; omega
  refine ⟨.ref _, _, I2.laid (t' := tk) (o := .lst ((ks.map fun x => x.2.1).map V.ref)) kp (Nat.le_refl _) ?_, rfl, q _ _ (I2.hok.fresh (Nat.le_refl _)) (isKeys_of pr)⟩
  exact ⟨hz, acc'.toList, c', rv, by rw [Array.toArray_toList]; exact e'⟩
theorem pe_listValsT (hc : X.calm = true) (he : PE X e te) (hg : Gl X "list") (hm : X.mg "list" = none) (hv : bootBuiltins "list" = some (.type "list") := by decide +kernel) (hbase : attributeBase e "values" X.env (eval e X.env) = eval e X.env := by rfl) (hline : (apos.endLine == cpos.line) = true := by rfl)
    (hs : starEach [.Call (.Attribute e "values" apos) [] [] cpos] X.env = (false, eval (.Call (.Attribute e "values" apos) [] [] cpos) X.env) :: starEach [] X.env := by rfl) :
    PE X (.Call (.Name "list" p) [.Call (.Attribute e "values" apos) [] [] cpos] [] pos) (tListValsT te) := by
  refine ⟨fun pins s σ H Q I hq => ?_⟩
  refine wpAny_Call_Name_kw (ld_blt I hg hm hv ?_)
  refine PyProof.Rows.callWith_type1 ?_ hs rfl
  rw [hs]
  show wpAny _ _ (spliced ((false, eval (.Call (.Attribute e "values" apos) [] [] cpos) X.env) :: backTo pos (starEach [] X.env))) _ _ s
  refine Calls.spliced_cons ?_
  refine wpAny_Call_method (T := "dict") (id := "dict.values") hbase rfl hline F.plainAttrs_dict F.slot_dict_values F.type_dict_values (thn (he.run pins s σ H _ I hq) fun u s1 ⟨x, H1, I1, rx, d, kvs, ex, hd, q⟩ => ?_)
  subst ex
  obtain rfl : u = Value.ref d := rx
  obtain ⟨z, hsm, ks, pr, o, es, ep, ho, hx, hdt, hen, hn⟩ := (show ObjOk X.prog X.w H1 s1.heap d (.dT kvs) from I1.hok d _ hd)
  have l1 : es.size = ks.length := size_of_entries hen
  have l2 : kvs.length = ks.length := Paired.length pr
  have raw : s1.heap.DictRaw d es ep := ⟨o, ho, hx, hdt⟩
  obtain ⟨t1, t2, _⟩ := isD_at I1 (.inr ⟨kvs, .inl hd⟩)
  have I2 : Inv X pins σ H1 { s1 with heap := s1.heap.push { cls := .type "dict_values", data := .fields #[.ref d] } } := I1.kept (t' := s1.toks) fun b ob q => Heap.get?_push_of_some _ q
  refine ⟨t1, t2, ?_⟩
  show wpAny _ _ (callWith cpos (.builtin "dict.values") [.ref d] [] []) _ X.xe s1
  refine method_meetsIn F.slot_dict_values F.entry_dict_values rfl (PySem.evalArgs_none ⟨rfl, t1, F.args_dict_values_1 _, _, meets_dict_values_raw d hsm, ⟨es, ep, raw⟩, ?_⟩)
  refine Calls.spliced_nil ?_
  refine PySem.W.kdl_call (PySem.KdlSrc.rawValues (r := s1.heap.objs.size) (d := d) (es := es) (ep := ep)) (I1.ok.hd hc) ⟨⟨_, Heap.get?_push_size _ rfl, rfl, rfl⟩, raw.push _⟩ (by omega) fun h' tk acc' c' kp e' it => ?_
  have ea : acc'.toList = ks.map fun x => x.2.2 := by
    have hl : acc'.toList.length = ks.length := by rw [Array.length_toList, it.1]; exact l1
    apply List.ext_getElem?
    intro j
    rw [List.getElem?_map]
    cases hj : acc'.toList[j]? with
    | none =>
      have h1 := List.getElem?_eq_none_iff.mp hj
      rw [List.getElem?_eq_none (by omega)]
      all_goals rfl
    | some v =>
      obtain ⟨hi, hv'⟩ := it.2 j v (by rw [← Array.getElem?_toList]; exact hj)
      have qe := entry_at hen j
      rw [Array.getElem?_eq_getElem hi] at qe
      cases hb : ks[j]? with
      | none =>
        rw [hb] at qe
        exact nomatch (show some es[j] = none from qe)
      | some b =>
        rw [hb] at qe
        have e2 : es[j] = entryOfKey (tupleKind (mixKind X.prog X.w)) b := Option.some.inj qe
        rw [hv', e2]
        all_goals rfl
  have rv : Vals (kvs.map (·.2)) acc'.toList := by rw [ea]; exact kt_vals pr
  have hz : (kvs.map (·.2)).length ≤ sizeLine := by rw [List.length_map]; omega
  refine ⟨.ref _, _, I2.laid (t' := tk) (o := .lst (kvs.map (·.2))) kp (Nat.le_refl _) ?_, rfl, q _ (I2.hok.fresh (Nat.le_refl _))⟩
  exact ⟨hz, acc'.toList, c', rv, by rw [Array.toArray_toList]; exact e'⟩
end
end KV2
end L2
namespace PF
open PySem L2
/-! ### list(x.keys()), list(x.values()), x.get(k, d), x is None; x a dict of our own (or not) -/
open Classical in
noncomputable def showT (G : Hp) (H : Hp) (bs : List Addr) : Hp := fun a => if a ∈ bs then H a else G a
theorem showT_nx {G H : Hp} {bs : List Addr} (e : Ex G H) (h : ∀ b ∈ bs, ∃ xs, H b = some (.tup xs)) : Nx G H (showT G H bs) H ∧ ∀ b ∈ bs, showT G H bs b = H b := by
  refine ⟨⟨fun a u q => ?_, Ex.refl H, fun a u q => ?_, fun a ha ga => ?_⟩, fun b hb => by unfold showT; rw [if_pos hb]⟩
  · unfold showT
    by_cases hb : a ∈ bs
    · rw [if_pos hb]; exact e a u q
    · rw [if_neg hb]; exact q
  · unfold showT at q
    by_cases hb : a ∈ bs
    · rw [if_pos hb] at q; exact q
    · rw [if_neg hb] at q; exact e a u q
  · unfold showT
    by_cases hb : a ∈ bs
    · rw [if_pos hb]
      obtain ⟨xs, hx⟩ := h a hb
      exact .inr ⟨xs, hx⟩
    · rw [if_neg hb]
      exact .inl ga
theorem keys_dp {K : PySem.W.Frag} {G H : Hp} : ∀ {es : List (List Key × V)} {kvs : List (List Int × PyData)} {bs : List Addr}, es.map (·.1) = kvs.map (fun kv => kv.1.map Sum.inl) → IsKeys H es bs → (∀ b ∈ bs, G b = H b) → DpAll K G (bs.map V.ref) (kvs.map fun kv => tupK kv.1)
  | [], [], _, _, .nil, _ => .nil
  | [], _ :: _, _, h, _, _ => by simp at h
  | _ :: _, [], _, h, _, _ => by simp at h
  | e :: es, kv :: kvs, _, h, .cons (l₂ := bs) (b := b) q t, hg => by
    rw [List.map_cons, List.map_cons] at h
    obtain ⟨h1, h2⟩ := List.cons.inj h
    refine .cons (.tup (xs := kv.1.map V.int) ?_ (dp_ints kv.1)) (keys_dp h2 t fun c hc => hg c (List.mem_cons_of_mem _ hc))
    rw [hg b List.mem_cons_self, q, h1, List.map_map]
    rfl
theorem isKeys_tup {H : Hp} {es : List (List Key × V)} {bs : List Addr} (h : IsKeys H es bs) : ∀ b ∈ bs, ∃ xs, H b = some (.tup xs) := by
  unfold IsKeys at h
  induction h with
  | nil => exact fun _ h => nomatch h
  | cons q _ ih =>
    intro b hb
    rcases List.mem_cons.mp hb with rfl | hb
    · exact ⟨_, q⟩
    · exact ih b hb
def fKeys (i : Nat) : Env → Rs Sl := fun ρ => ownT ρ[i]? >>= fun kvs => .ok (.ol (kvs.map fun kv => tupK kv.1))
def fVals (i : Nat) : Env → Rs Sl := fun ρ => ownT ρ[i]? >>= fun kvs => .ok (.ol (kvs.map (·.2)))
def fDGetD (i : Nat) (Fk Fd : Env → Rs PyData) : Env → Rs PyData := fun ρ => ownT ρ[i]? >>= fun kvs => Fk ρ >>= fun kd => Fd ρ >>= fun d => keyOf kd >>= fun k => .ok ((getI kvs k).getD d)
def noS : Option Sl → Rs Bool
  | some (.sh d) => .ok (isNo d)
  | some (.ol _) => .ok false
  | some (.od _) => .ok false
  | _ => .stuck
def fNoV (i : Nat) : Env → Rs PyData := fun ρ => noS ρ[i]? >>= fun b => .ok (.bool b)
def fNotNoV (i : Nat) : Env → Rs PyData := fun ρ => noS ρ[i]? >>= fun b => .ok (.bool !b)
section
variable {ca : Nat → Addr} {X : Cx} {E : XK} {k d : Expr} {tk td : TE} {Fk Fd : Env → Rs PyData} {x : Str} {p p2 apos cpos pos : Pos} {j : Nat}
theorem jv_keys (i : Nat) (hx : PE X (.Name x p) (tVar i)) (hc : X.calm = true) (hm : X.mg "list" = none) (hg : Gl X "list" := by rfl) (hbase : attributeBase (.Name x p) "keys" X.env (eval (.Name x p) X.env) = eval (.Name x p) X.env := by rfl) (hline : (apos.endLine == cpos.line) = true := by rfl)
    (hs : starEach [.Call (.Attribute (.Name x p) "keys" apos) [] [] cpos] X.env = (false, eval (.Call (.Attribute (.Name x p) "keys" apos) [] [] cpos) X.env) :: starEach [] X.env := by rfl) :
    JV ca X E (.Call (.Name "list" p2) [.Call (.Attribute (.Name x p) "keys" apos) [] [] cpos] [] pos) (L2.KV2.tListKeysT (tVar i)) (fKeys i) :=
  ⟨L2.KV2.pe_listKeysT hc hx hg hm (hbase := hbase) (hline := hline) (hs := hs), fun G H ρ σ rep hns Q ok er => by
    obtain ⟨ds, hs⟩ := ownT_ok hns
    obtain ⟨o, e2, pp, es, rfl, gp, hp, qq⟩ := rep.sl i _ hs
    refine ⟨.ref pp, e2, pp, es, rfl, hp, fun r bs hr hk => ?_⟩
    obtain ⟨n1, n2⟩ := showT_nx rep.gh (isKeys_tup hk)
    have gr : showT G H bs r = none := n1.gh.back hr
    exact ok (.ol (ds.map fun kv => tupK kv.1)) (by unfold fKeys; rw [hs]; rfl) (showT G H bs) _ _ (n1.trans (Nx.hid n1.gh hr)) ⟨r, _, rfl, hr, gr, upd_same, keys_dp qq.1 hk n2⟩⟩
theorem jv_vals (i : Nat) (hx : PE X (.Name x p) (tVar i)) (hc : X.calm = true) (hm : X.mg "list" = none) (hg : Gl X "list" := by rfl) (hbase : attributeBase (.Name x p) "values" X.env (eval (.Name x p) X.env) = eval (.Name x p) X.env := by rfl) (hline : (apos.endLine == cpos.line) = true := by rfl)
    (hs : starEach [.Call (.Attribute (.Name x p) "values" apos) [] [] cpos] X.env = (false, eval (.Call (.Attribute (.Name x p) "values" apos) [] [] cpos) X.env) :: starEach [] X.env := by rfl) :
    JV ca X E (.Call (.Name "list" p2) [.Call (.Attribute (.Name x p) "values" apos) [] [] cpos] [] pos) (L2.KV2.tListValsT (tVar i)) (fVals i) :=
  ⟨L2.KV2.pe_listValsT hc hx hg hm (hbase := hbase) (hline := hline) (hs := hs), fun G H ρ σ rep hns Q ok er => by
    obtain ⟨ds, hs⟩ := ownT_ok hns
    obtain ⟨o, e2, pp, es, rfl, gp, hp, qq⟩ := rep.sl i _ hs
    refine ⟨.ref pp, e2, pp, es, rfl, hp, fun r hr => ?_⟩
    exact ok (.ol (ds.map (·.2))) (by unfold fVals; rw [hs]; rfl) G _ _ (Nx.hid rep.gh hr) ⟨r, _, rfl, hr, rep.gh.back hr, upd_same, qq.2⟩⟩
theorem js_getD (i : Nat) (hu : X.A.units + 64 < cLine) (hx : PE X (.Name x p) (tVar i)) (hk : JS ca X E k tk Fk) (hd : JS ca X E d td Fd) (m : M2 X (.Name x p) "get" apos k d cpos := by exact ⟨rfl, rfl, rfl, rfl⟩) : JS ca X E (.Call (.Attribute (.Name x p) "get" apos) [k, d] [] cpos) (tDGet2 (tVar i) tk td) (fDGetD i Fk Fd) := by
  refine ⟨pe_dget2 (by omega) hx hk.pe hd.pe m, fun G H ρ σ rep hns Q ok er => ?_⟩
  obtain ⟨ds, hs⟩ := ownT_ok hns
  have e0 : fDGetD i Fk Fd ρ = (Fk ρ >>= fun kd => Fd ρ >>= fun d => keyOf kd >>= fun k => .ok ((getI ds k).getD d)) := by unfold fDGetD; rw [hs]; rfl
  rw [e0] at hns er
  obtain ⟨o, e2, pp, es, rfl, gp, hp, qq⟩ := rep.sl i _ hs
  refine ⟨.ref pp, e2, pp, rfl, .inr ⟨es, .inl hp⟩, ?_⟩
  refine hk.sem.use rep hns er fun kd ek e3 G2 H2 w n2 r2 q2 h2 er2 => ?_
  refine hd.sem.use r2 h2 er2 fun dd ed e4 G3 H3 u n3 r3 q3 h3 er3 => ?_
  obtain ⟨o', e5, p', es', z, gp3, hp3, qq3⟩ := r3.sl i _ hs
  rw [e2] at e5
  cases e5
  cases z
  cases hko : keyOf kd with
  | stuck => exact absurd (by rw [hko]; rfl) h3
  | err y => exact absurd hko keyOf_ne
  | ok kk =>
    obtain ⟨b, rfl, hb⟩ := key_at (show Dp X.K G2 w kd from q2) hko
    have q3' : Dp X.K G3 u dd := q3
    refine ⟨valV es' (kk.map Sum.inl), DGet.t hp3 (n3.h _ _ (n2.gh _ _ hb)), ?_⟩
    have hres : fDGetD i Fk Fd ρ = .ok ((getI ds kk).getD dd) := by rw [e0, ek, ok_bind, ed, ok_bind, hko, ok_bind]
    rcases kv_get kk qq3 with ⟨g1, g2⟩ | ⟨v, d', g1, g2, g3⟩
    · rw [g1]
      exact ok dd (by rw [hres, g2]; rfl) G3 H3 u (n2.trans n3) q3'
    · rw [g1]
      exact ok d' (by rw [hres, g2]; rfl) G3 H3 v (n2.trans n3) g3
theorem sem_noV {c : Pc} (i : Nat) : SemG c E (tOp (fun x y H Q => y = .non ∧ Q (.bl (decide (x = .non))) H) (tVar i) (tC .non)) (fNoV i) (RS c) := by
  intro G H ρ σ rep hns Q ok er
  unfold fNoV at hns ok
  cases hs : ρ[i]? with
  | none => rw [hs] at hns; exact absurd rfl hns
  | some s =>
    rw [hs] at hns ok
    obtain ⟨o, e1, q⟩ := rep.sl i s hs
    cases s with
    | no => exact absurd rfl hns
    | exn x => exact absurd rfl hns
    | ol ds =>
      obtain ⟨p, xs, rfl, _⟩ := q
      exact ⟨_, e1, rfl, ok _ rfl G H _ (Nx.refl rep.gh) (.bl _)⟩
    | od ds =>
      obtain ⟨p, xs, rfl, _⟩ := q
      exact ⟨_, e1, rfl, ok _ rfl G H _ (Nx.refl rep.gh) (.bl _)⟩
    | sh d =>
      obtain ⟨v, rfl, q⟩ := q
      refine ⟨v, e1, rfl, ?_⟩
      rw [db_isNo (H := H) (.inl q)]
      exact ok _ rfl G H _ (Nx.refl rep.gh) (.bl _)
theorem js_noV (i : Nat) (h : PE X (.Name x p) (tVar i)) : JS ca X E (.Compare (.Name x p) [.Is] [.Constant .none j p2] pos) (tOp (fun x y H Q => y = .non ∧ Q (.bl (decide (x = .non))) H) (tVar i) (tC .non)) (fNoV i) :=
  ⟨pe_cmpR op_isN h pe_non (nomark _), sem_noV i⟩
theorem jt_noV (i : Nat) (h : PE X (.Name x p) (tVar i)) : JT ca X E (.Compare (.Name x p) [.Is] [.Constant .none j p2] pos) (tTest (tOp (fun x y H Q => y = .non ∧ Q (.bl (decide (x = .non))) H) (tVar i) (tC .non))) (fB (fNoV i)) :=
  ⟨pt_cmpR op_isN h pe_non (nomark _), sem_test (sem_noV i)⟩
end
end PF

namespace PF
open PySem L2
/-! an expression as a statement: what it tells is dropped -/
def fExp (F : Env → Rs Sl) : Env → Rs Out := fun ρ => F ρ >>= fun _ => .ok (.nx ρ)
section
variable {ca : Nat → Addr} {X : Cx} {E : XK} {e : Expr} {te : TE} {F : Env → Rs Sl} {pos : Pos}
theorem sem_exp {c : Pc} (h : SemG c E te F (RV c)) : SemP c E (tDrop te) (fExp F) := by
  intro G0 H0 G H ρ σ rep en hns D nx rt er
  refine h.use rep hns (fun x e G' H' cl dd n => er x e G' H' cl dd (en.nx.trans n)) fun s es e1 G' H' v n r _ hk _ => ?_
  exact nx _ e1 G' H' _ r (en.go n)
theorem jp_exp (h : JV ca X E e te F) (hs : swapsWith e none pos.line X.env = pure false := by rfl) : JP ca X E (.Expr e pos) (tDrop te) (fExp F) :=
  ⟨ps_expr h.pe hs, sem_exp h.sem⟩
end
end PF

namespace PF
open PySem L2
/-! ### NoWall(e).place, an error made and not raised -/
section
variable {ca : Nat → Addr} {X : Cx} {E : XK}
def tNewP (C : Addr) (te : TE) : TE := fun σ H Q => tMkO C (spIni C) [] (tCons te tNil) σ H fun cls d H' => ∃ (dd : Addr) (i : Int), cls = .ref C ∧ d = some dd ∧ H' dd = some (.xd [(("place" : Str), .int i)]) ∧ Q (.int i) H'
def fNewP (F : Env → Rs PyData) : Env → Rs PyData := fun ρ => F ρ >>= fun d => intOf d >>= fun i => .ok (.int i)
theorem js_newP {x : Str} {e : Expr} {te : TE} {Fe : Env → Rs PyData} {p pos pos2 : Pos} (T : EX X.K X.mg ca) (N : NW X.prog X.w X.K X.mg X.base ca) (no : PySem.W.findIn X.K (.ref (ca 5)) "place" = some none) (hr : Room 2 X.A) (he : JS ca X E e te Fe) (hg : Gl X x := by rfl) (hx : eNm 5 = x := by rfl)
    (hb : attributeBase (.Call (.Name x p) [e] [] pos) "place" X.env (eval (.Call (.Name x p) [e] [] pos) X.env) = eval (.Call (.Name x p) [e] [] pos) X.env := by rfl)
    (hdb : (x == ("__debug__" : Str)) = false := by decide) (hst : starEach [e] X.env = (false, eval e X.env) :: starEach [] X.env := by rfl) (hpl : (backTo pos (starEach [] X.env)).any (·.1) = false := by rfl) :
    JS ca X E (.Attribute (.Call (.Name x p) [e] [] pos) "place" pos2) (tNewP (ca 5) te) (fNewP Fe) := by
  have c := T.cl 5 (by decide)
  have c' := c
  rw [hx] at c
  obtain ⟨fI, fd, iC, tI, F1, hbi⟩ := N.fn
  have pmk : PMk X (.Call (.Name x p) [e] [] pos) (tMkO (ca 5) (spIni (ca 5)) [] (tCons te tNil)) := pmk_oex N.T iC tI F1 hr hbi .nil passL hg c.g (pa_cons he.pe pa_nil hst) hdb hst hpl
  refine ⟨⟨fun pins s σ H Q I h => ?_⟩, fun G H ρ σ rep hns Q ok er => ?_⟩
  · refine attr_of hb (thn (pmk pins s σ H _ I h) fun u s1 hh => ?_)
    obtain ⟨a, oe, vs, sI, H', cls, d, rfl, J, kG, ga, ge, hz, hdat, hv1, na, hos, hbare, hR, dd, i, rfl, rfl, hdd, q⟩ := hh
    have J1 : Inv X pins σ H' s1 := J.call' (ch := []) hos (Un.kept kG) (J.hok.kept kG) hbare (fun b z => nomatch z)
    obtain ⟨mA, hns, hrr⟩ := (show ObjOk X.prog X.w H' s1.heap dd (.xd [(("place" : Str), .int i)]) from J1.hok dd _ hdd)
    obtain ⟨od, ho, hl⟩ := lookIn_ns hns
    have l : List.lookup ("place" : Str) [(("place" : Str), V.int i)] = some (V.int i) := by simp [List.lookup]
    obtain ⟨u, hu, ru⟩ := RelO.some_of (v := .int i) (o := mA "place") (by rw [← l]; exact hrr "place")
    have J2 : PySem.W.InstAt s1.heap a oe (ca 5) (some od) := ⟨ge, hz.1, by unfold PySem.W.notCls; rw [hdat] <;> rfl, by rw [hz.2]; exact ho⟩
    exact HandSPX.exc_get J1.kIn J2 c'.ga c'.gg c'.b (PySem.W.findObj_own c'.hd no rfl (by rw [hl, hu])) (handed_of ru) ⟨.int i, H', J1.tok _, ru, q⟩
  · refine he.sem.use rep hns er fun d ed e1 G1 H1 v n1 r1 q1 hk er1 => ?_
    cases d with
    | int i =>
      cases Dp.int_v q1
      refine ⟨(by show 1 ≤ 1000; decide), fun a ha => ⟨a, i, rfl, upd_same, fun dx h1 h2 => ⟨rfl, dx, [(("place" : Str), .int i)], upd_same, ?_, ?_, ?_⟩⟩⟩
      · rw [upd_ne h2, upd_same]
      · rw [upd_ne h2] at h1
        exact h1
      · have hdx : H1 dx = none := by
          rw [upd_ne h2] at h1
          exact h1
        have fe : upd (L2.del (upd (upd (upd H1 a (exo a (ca 5) none)) dx (exd dx [(("place" : Str), .int i)])) a (exo a (ca 5) (some dx))) a) dx (.xd [(("place" : Str), .int i)]) = upd H1 dx (.xd [(("place" : Str), .int i)]) := by
          funext b
          by_cases hb : b = dx
          · rw [hb, upd_same, upd_same]
          · rw [upd_ne hb, upd_ne hb]
            by_cases hba : b = a
            · rw [hba, L2.del_same, ha]
            · rw [L2.del_ne hba, upd_ne hba, upd_ne hb, upd_ne hba]
        rw [fe]
        exact ⟨dx, i, rfl, rfl, upd_same, ok (.int i) e1 G1 _ _ (n1.trans (Nx.hid n1.gh hdx)) (.int i)⟩
    | none => exact absurd rfl hk
    | bool i => exact absurd rfl hk
    | str i => exact absurd rfl hk
    | list i => exact absurd rfl hk
    | tuple i => exact absurd rfl hk
    | dict i => exact absurd rfl hk
end
end PF

namespace PF
open PySem L2
/-! ### the text by places -/
def topS (i : Nat) : Stmt := PySem.Challenge.pw_wallspace_k07_walls_looked_at.main.body.getD i (.Pass ⟨0, 0, 0, 0⟩)
structure Blt (mg : Str → Option Value) : Prop where
  b_ValueError : mg "ValueError" = none
  b_abs : mg "abs" = none
  b_any : mg "any" = none
  b_bool : mg "bool" = none
  b_int : mg "int" = none
  b_isinstance : mg "isinstance" = none
  b_len : mg "len" = none
  b_list : mg "list" = none
  b_min : mg "min" = none
  b_range : mg "range" = none
  b_tuple : mg "tuple" = none
abbrev s_divisor : Stmt := topS 8
theorem sc_divisor : FnScope ["one", "other"] ["one", "other"] (defScope s_divisor) := ⟨rfl, rfl, rfl, by decide +kernel, rfl, by decide +kernel, by decide +kernel⟩
abbrev s_plain_wall : Stmt := topS 10
theorem sc_plain_wall : FnScope ["numbers", "by", "number", "heads"] ["numbers"] (defScope s_plain_wall) := ⟨rfl, rfl, rfl, by decide +kernel, rfl, by decide +kernel, by decide +kernel⟩
abbrev s_looked : Stmt := topS 11
theorem sc_looked : FnScope ["ways", "walls", "place", "one"] ["ways", "walls"] (defScope s_looked) := ⟨rfl, rfl, rfl, by decide +kernel, rfl, by decide +kernel, by decide +kernel⟩
abbrev s__law_cell_at : Stmt := topS 13
theorem sc__law_cell_at : FnScope ["_law_script", "_law_k"] ["_law_script", "_law_k"] (defScope s__law_cell_at) := ⟨rfl, rfl, rfl, by decide +kernel, rfl, by decide +kernel, by decide +kernel⟩
abbrev s__law_whole : Stmt := topS 14
theorem sc__law_whole : FnScope ["_law_found"] ["_law_found"] (defScope s__law_whole) := ⟨rfl, rfl, rfl, by decide +kernel, rfl, by decide +kernel, by decide +kernel⟩
abbrev s__law_block : Stmt := topS 15
theorem sc__law_block : FnScope ["_law_script", "_law_k", "_law_cell", "_law_j"] ["_law_script", "_law_k"] (defScope s__law_block) := ⟨rfl, rfl, rfl, by decide +kernel, rfl, by decide +kernel, by decide +kernel⟩
abbrev s__law_mixed : Stmt := topS 16
theorem sc__law_mixed : FnScope ["_law_script", "_law_k", "_law_cell", "_law_number"] ["_law_script", "_law_k"] (defScope s__law_mixed) := ⟨rfl, rfl, rfl, by decide +kernel, rfl, by decide +kernel, by decide +kernel⟩
abbrev s__law_divisor : Stmt := topS 17
theorem sc__law_divisor : FnScope ["_law_one", "_law_other"] ["_law_one", "_law_other"] (defScope s__law_divisor) := ⟨rfl, rfl, rfl, by decide +kernel, rfl, by decide +kernel, by decide +kernel⟩
abbrev s__law_digits : Stmt := topS 18
theorem sc__law_digits : FnScope ["_law_script", "_law_start", "_law_many", "_law_base", "_law_found", "_law_number", "_law_k"] ["_law_script", "_law_start", "_law_many", "_law_base"] (defScope s__law_digits) := ⟨rfl, rfl, rfl, by decide +kernel, rfl, by decide +kernel, by decide +kernel⟩
abbrev s__law_plain : Stmt := topS 19
theorem sc__law_plain : FnScope ["_law_row", "_law_by", "_law_lead", "_law_number"] ["_law_row"] (defScope s__law_plain) := ⟨rfl, rfl, rfl, by decide +kernel, rfl, by decide +kernel, by decide +kernel⟩
abbrev s__law_fences : Stmt := topS 20
theorem sc__law_fences : FnScope ["_law_script", "_law_start", "_law_ways", "_law_many", "_law_digits_here", "_law_found", "_law_k", "_law_row", "_law_digit", "_law_one"] ["_law_script", "_law_start", "_law_ways", "_law_many"] (defScope s__law_fences) := ⟨rfl, rfl, rfl, by decide +kernel, rfl, by decide +kernel, by decide +kernel⟩
abbrev s__law_spoiled : Stmt := topS 21
theorem sc__law_spoiled : FnScope ["_law_shuts", "_law_number", "_law_at", "_law_one", "_law_way", "_law_part"] ["_law_shuts", "_law_number"] (defScope s__law_spoiled) := ⟨rfl, rfl, rfl, by decide +kernel, rfl, by decide +kernel, by decide +kernel⟩
abbrev s__law_due : Stmt := topS 22
theorem sc__law_due : FnScope ["_law_ways", "_law_shuts", "_law_place", "_law_one"] ["_law_ways", "_law_shuts"] (defScope s__law_due) := ⟨rfl, rfl, rfl, by decide +kernel, rfl, by decide +kernel, by decide +kernel⟩
abbrev s__law_caught : Stmt := topS 23
theorem sc__law_caught : FnScope ["_law_ways", "_law_shuts", "_law_caught_here", "e"] ["_law_ways", "_law_shuts"] (defScope s__law_caught) := ⟨rfl, rfl, rfl, by decide +kernel, rfl, by decide +kernel, by decide +kernel⟩
abbrev s_law : Stmt := topS 24
theorem sc_law : FnScope ["_law_script", "_law_ways", "_law_one", "_law_caught_here", "_law_shuts", "_law_k", "_law_due_here", "_law_handed"] ["_law_script"] (defScope s_law) := ⟨rfl, rfl, rfl, by decide +kernel, rfl, by decide +kernel, by decide +kernel⟩
abbrev s_NWi : Stmt := inClass (topS 6) 0
theorem sc_NWi : FnScope ["self", "place"] ["self", "place"] (defScope s_NWi) := ⟨rfl, rfl, rfl, by decide +kernel, rfl, by decide +kernel, by decide +kernel⟩
theorem ok_NWi {P : Program} {w : World} {K : PySem.W.Frag} {mg : Str → Option Value} {base : Heap} {C f : Addr} {fd : FuncData} (F : Fun K "__init__" "NoWall.__init__" s_NWi f fd) (T : OexC K C) (no : PySem.W.findIn K (.ref C) "place" = some none) : FnOk P w K mg base (L2.CX P w) 1 f fd ["self", "place"] (spIni C) :=
  ok_ini F sc_NWi rfl T no fun cdv A outer s H E => pss_one (ps_ost (pv 0) (pv 1))
/-! ### what each def computes -/
noncomputable def p1_divisor : Env → Rs Out :=
  (fFz 1 (fPar 0 1 (fCons (fVarS 1) (fCons (fOp modD (fVarB 0) (fVarB 1)) fNil))))
noncomputable def p2_divisor : Env → Rs Bool :=
  (fB (fOp gtD (fVarB 1) (fC (.int 0))))
noncomputable def b_divisor : Env → Rs Out :=
  (fSeq (fSet 0 (fV (fUn absD (fVarB 0))))
  (fSeq (fSet 1 (fV (fUn absD (fVarB 1))))
  (fSeq (whL p2_divisor
  p1_divisor)
  (fRetVar 0))))
noncomputable def f_divisor : List PyData → Rs Sl := fnOf 2 2 b_divisor
noncomputable def p1_plain_wall : Env → Rs Out :=
  (fFz 1 (fSet 1 (fCall f_divisor (fCons (fVarS 1) (fCons (fVarS 2) fNil)))))
noncomputable def b_plain_wall : Env → Rs Out :=
  (fSeq (fSet 1 (fV (fC (.int 0))))
  (fSeq (fFor (fIt itemsT (fVarS 0)) (tgN 2)
  p1_plain_wall)
  (fSeq (fSet 3 (fLcS (fIt itemsT (fSh (fSl (fVarB 0) fNone (fSome (fUn negD (fC (.int 1))))))) (tgN 2) (fB (fOp neD (fVarB 2) (fC (.int 0)))) (fVarS 2) [2]))
  (fSeq (fIf (fB (fOp ltD (fOp ixD (fVarB 3) (fC (.int 0))) (fC (.int 0))))
  (fSet 1 (fV (fOp subD (fC (.int 0)) (fVarB 1))))
  fSkip)
  (fRet (fV (fUn tupleD (fSh (fLcS (fIt itemsT (fVarS 0)) (tgN 2) fYes (fOp divD (fVarB 2) (fVarB 1)) [2])))))))))
noncomputable def f_plain_wall : List PyData → Rs Sl := fnOf 1 4 b_plain_wall
noncomputable def p1_looked : Env → Rs Out :=
  (fSeq (fSet 3 (fV (fOp ixD (fVarB 1) (fVarB 2))))
   (fFz 3 (fIf (fOr (fB (fOp neD (fUn lenD (fVarB 3)) (fSh (fOp addD (fVarB 0) (fC (.int 1)))))) (fOr (fNot (fB (fUn anyD (fSh (fSl (fVarB 3) fNone (fSome (fUn negD (fC (.int 1))))))))) (fOr (fB (fOp neD (fVarB 3) (fSh (fCall f_plain_wall (fCons (fVarS 3) fNil))))) (fB (fOp inD (fVarB 3) (fSh (fSl (fVarB 1) fNone (fSome (fVarB 2)))))))))
   (fun ρ => (fVarS 2) ρ >>= fun d => intOf d >>= fun i => .err ⟨5, some i⟩)
   fSkip)))
noncomputable def b_looked : Env → Rs Out :=
  (fFor (fIt rng1 (fCons (fUn lenD (fVarB 1)) fNil)) (tgN 2)
  p1_looked)
noncomputable def f_looked : List PyData → Rs Sl := fnOf 2 4 b_looked
noncomputable def b__law_cell_at : Env → Rs Out :=
  (fSeq (fIf (fB (fOp ltD (fVarB 1) (fUn lenD (fVarB 0))))
  (fRet (fV (fOp ixD (fVarB 0) (fVarB 1))))
  fSkip)
  (fRet (fV (fC (.int 0)))))
noncomputable def f__law_cell_at : List PyData → Rs Sl := fnOf 2 2 b__law_cell_at
noncomputable def b__law_whole : Env → Rs Out :=
  (fRet (fV (fAndV (fUn (isiD "int") (fVarB 0)) (fNotV (fUn (isiD "bool") (fVarB 0))))))
noncomputable def f__law_whole : List PyData → Rs Sl := fnOf 1 1 b__law_whole
noncomputable def p1__law_block : Env → Rs Out :=
  (fSet 2 (fV (fOp divD (fVarB 2) (fC (.int 2147483587)))))
noncomputable def q2__law_block : Env → Rs Out :=
  (fSeq (fFor (fIt rng1 (fCons (fOp modD (fVarB 1) (fC (.int 8))) fNil)) (tgN 3)
  p1__law_block)
  (fRetVar 2))
noncomputable def b__law_block : Env → Rs Out :=
  (fSeq (fSet 2 (fV (fC (.int 0))))
  (fSeq (fIf (fB (fOp ltD (fSh (fOp addD (fC (.int 1)) (fOp modD (fOp divD (fVarB 1) (fC (.int 8))) (fC (.int 62))))) (fUn lenD (fVarB 0))))
  (fSet 2 (fV (fOp divD (fOp ixD (fVarB 0) (fSh (fOp addD (fC (.int 1)) (fOp modD (fOp divD (fVarB 1) (fC (.int 8))) (fC (.int 62)))))) (fOp powD (fC (.int 10)) (fC (.int 64))))))
  fSkip)
  q2__law_block))
noncomputable def f__law_block : List PyData → Rs Sl := fnOf 2 4 b__law_block
noncomputable def q4__law_mixed : Env → Rs Out :=
  (fSeq (fSet 3 (fOp addD (fOp modD (fVarB 2) (fOp powD (fC (.int 10)) (fC (.int 18)))) (fOp mulD (fC (.int 48271)) (fSh (fOp addD (fVarB 1) (fC (.int 1)))))))
  (fSeq (fSet 3 (fOp addD (fOp modD (fOp mulD (fVarB 3) (fVarB 3)) (fC (.int 2147483629))) (fOp mulD (fC (.int 69621)) (fVarB 1))))
  (fRet (fV (fOp modD (fOp mulD (fVarB 3) (fVarB 3)) (fC (.int 2147483587)))))))
noncomputable def q2__law_mixed : Env → Rs Out :=
  (fSeq (fIf (fAnd (fB (fOp eqD (fOp modD (fOp divD (fVarB 2) (fOp powD (fC (.int 10)) (fC (.int 6)))) (fC (.int 2))) (fC (.int 1)))) (fB (fOp neD (fSh (fCall f__law_block (fCons (fVarS 0) (fCons (fVarS 1) fNil)))) (fC (.int 0)))))
  (fRet (fV (fOp modD (fSh (fCall f__law_block (fCons (fVarS 0) (fCons (fVarS 1) fNil)))) (fC (.int 2147483587)))))
  fSkip)
  (fSeq (fIf (fB (fOp gtD (fUn lenD (fVarB 0)) (fC (.int 0))))
  (fSet 2 (fV (fOp ixD (fVarB 0) (fOp modD (fVarB 1) (fOp min2D (fC (.int 63)) (fUn lenD (fVarB 0)))))))
  fSkip)
  q4__law_mixed))
noncomputable def b__law_mixed : Env → Rs Out :=
  (fSeq (fSet 2 (fV (fC (.int 0))))
  (fSeq (fIf (fB (fOp gtD (fUn lenD (fVarB 0)) (fC (.int 0))))
  (fSet 2 (fV (fOp ixD (fVarB 0) (fC (.int 0)))))
  fSkip)
  q2__law_mixed))
noncomputable def f__law_mixed : List PyData → Rs Sl := fnOf 2 4 b__law_mixed
noncomputable def p1__law_divisor : Env → Rs Out :=
  (fFz 1 (fPar 0 1 (fCons (fVarS 1) (fCons (fOp modD (fVarB 0) (fVarB 1)) fNil))))
noncomputable def p2__law_divisor : Env → Rs Bool :=
  (fB (fOp gtD (fVarB 1) (fC (.int 0))))
noncomputable def b__law_divisor : Env → Rs Out :=
  (fSeq (fSet 0 (fV (fUn absD (fVarB 0))))
  (fSeq (fSet 1 (fV (fUn absD (fVarB 1))))
  (fSeq (whL p2__law_divisor
  p1__law_divisor)
  (fRetVar 0))))
noncomputable def f__law_divisor : List PyData → Rs Sl := fnOf 2 2 b__law_divisor
noncomputable def p1__law_digits : Env → Rs Out :=
  (fIf (fB (fOp eqD (fOp modD (fSh (fCall f__law_cell_at (fCons (fVarS 0) (fCons (fC (.int 0)) fNil)))) (fC (.int 2))) (fC (.int 1))))
   (fSeq (fApp 4 (fOp modD (fVarB 5) (fVarB 3)))
    (fSet 5 (fV (fOp divD (fVarB 5) (fVarB 3)))))
   (fApp 4 (fOp modD (fSh (fCall f__law_mixed (fCons (fVarS 0) (fCons (fSh (fOp addD (fVarB 1) (fVarB 6))) fNil)))) (fVarB 3))))
noncomputable def b__law_digits : Env → Rs Out :=
  (fSeq (fSet 4 (fUn lstD fNil))
  (fSeq (fSet 5 (fCall f__law_cell_at (fCons (fVarS 0) (fCons (fC (.int 1)) fNil))))
  (fSeq (fFor (fIt rng1 (fCons (fVarS 2) fNil)) (tgN 6)
  p1__law_digits)
  (fRetVar 4))))
noncomputable def f__law_digits : List PyData → Rs Sl := fnOf 4 7 b__law_digits
noncomputable def p1__law_plain : Env → Rs Out :=
  (fSeq (fFz 1 (fSet 1 (fCall f__law_divisor (fCons (fVarS 1) (fCons (fVarS 3) fNil)))))
   (fIf (fB (fOp eqD (fVarB 2) (fC (.int 0))))
   (fSet 2 (fV (fVarS 3)))
   fSkip))
noncomputable def b__law_plain : Env → Rs Out :=
  (fSeq (fSet 1 (fV (fC (.int 0))))
  (fSeq (fSet 2 (fV (fC (.int 0))))
  (fSeq (fFor (fIt itemsM (fVarS 0)) (tgN 3)
  p1__law_plain)
  (fSeq (fIf (fB (fOp ltD (fVarB 2) (fC (.int 0))))
  (fSet 1 (fV (fOp subD (fC (.int 0)) (fVarB 1))))
  fSkip)
  (fRet (fV (fUn tupleD (fSh (fLcS (fIt itemsM (fVarS 0)) (tgN 3) fYes (fOp divD (fVarB 3) (fVarB 1)) [3])))))))))
noncomputable def f__law_plain : List PyData → Rs Sl := fnOf 1 4 b__law_plain
noncomputable def p1__law_fences : Env → Rs Out :=
  (fSeq (fSet 7 (fLcS (fIt itemsL (fSh (fSl (fVarB 4) (fSome (fOp mulD (fSh (fOp addD (fVarB 2) (fC (.int 1)))) (fVarB 6))) (fSome (fOp mulD (fSh (fOp addD (fVarB 2) (fC (.int 1)))) (fSh (fOp addD (fVarB 6) (fC (.int 1))))))))) (tgN 8) fYes (fOp subD (fVarB 8) (fC (.int 3))) [8]))
   (fIf (fB (fUn anyD (fSh (fSl (fVarB 7) fNone (fSome (fUn negD (fC (.int 1))))))))
   (fSeq (fFz 7 (fSet 9 (fCall f__law_plain (fCons (fVarS 7) fNil))))
    (fIf (fB (fOp ninD (fVarB 9) (fVarB 5)))
    (fApp 5 (fVarS 9))
    fSkip))
   fSkip))
noncomputable def b__law_fences : Env → Rs Out :=
  (fSeq (fSet 4 (fCall f__law_digits (fCons (fVarS 0) (fCons (fVarS 1) (fCons (fOp mulD (fSh (fOp addD (fVarB 2) (fC (.int 1)))) (fVarB 3)) (fCons (fC (.int 7)) fNil))))))
  (fSeq (fSet 5 (fUn lstD fNil))
  (fSeq (fFor (fIt rng1 (fCons (fVarS 3) fNil)) (tgN 6)
  p1__law_fences)
  (fRetVar 5))))
noncomputable def f__law_fences : List PyData → Rs Sl := fnOf 4 10 b__law_fences
noncomputable def b__law_spoiled : Env → Rs Out :=
  (fSeq (fSet 2 (fV (fOp modD (fVarB 1) (fUn lenD (fVarB 0)))))
  (fSeq (fSet 3 (fV (fOp ixD (fVarB 0) (fVarB 2))))
  (fSeq (fSet 4 (fV (fOp modD (fOp divD (fVarB 1) (fC (.int 16))) (fC (.int 7)))))
  (fSeq (fIf (fB (fOp eqD (fVarB 4) (fC (.int 0))))
  (fFz 3 (fIns 0 (fCons (fOp modD (fOp divD (fVarB 1) (fC (.int 112))) (fSh (fOp addD (fUn lenD (fVarB 0)) (fC (.int 1))))) (fCons (fVarS 3) fNil))))
  fSkip)
  (fSeq (fIf (fB (fOp eqD (fVarB 4) (fC (.int 1))))
  (fFz 3 (fSetIx 0 (fUn tupleD (fSh (fLcS (fIt itemsT (fVarS 3)) (tgN 5) fYes (fOp subD (fC (.int 0)) (fVarB 5)) [5]))) (fVarB 2)))
  fSkip)
  (fSeq (fIf (fB (fOp eqD (fVarB 4) (fC (.int 2))))
  (fFz 3 (fSetIx 0 (fUn tupleD (fSh (fLcS (fIt itemsT (fVarS 3)) (tgN 5) fYes (fOp mulD (fVarB 5) (fSh (fOp addD (fC (.int 2)) (fOp modD (fOp divD (fVarB 1) (fC (.int 112))) (fC (.int 8)))))) [5]))) (fVarB 2)))
  fSkip)
  (fSeq (fIf (fB (fOp eqD (fVarB 4) (fC (.int 3))))
  (fSetIx 0 (fSh (fOp addD (fUn tupleD (fSh (fRep (fUn lstD (fCons (fC (.int 0)) fNil)) (fOp subD (fUn lenD (fVarB 3)) (fC (.int 1)))))) (fUn tupD (fCons (fC (.int 1)) fNil)))) (fVarB 2))
  fSkip)
  (fSeq (fIf (fB (fOp eqD (fVarB 4) (fC (.int 4))))
  (fSetIx 0 (fSh (fSl (fVarB 3) fNone (fSome (fUn negD (fC (.int 1)))))) (fVarB 2))
  fSkip)
  (fSeq (fIf (fB (fOp eqD (fVarB 4) (fC (.int 5))))
  (fSetIx 0 (fSh (fOp addD (fVarB 3) (fUn tupD (fCons (fC (.int 0)) fNil)))) (fVarB 2))
  fSkip)
  (fIf (fB (fOp eqD (fVarB 4) (fC (.int 6))))
  (fSetIx 0 (fUn tupleD (fSh (fRep (fUn lstD (fCons (fC (.int 0)) fNil)) (fUn lenD (fVarB 3))))) (fVarB 2))
  fSkip))))))))))
noncomputable def f__law_spoiled : List PyData → List PyData → Rs (List PyData) := fnM 2 6 b__law_spoiled
noncomputable def p1__law_due : Env → Rs Out :=
  (fSeq (fSet 3 (fV (fOp ixD (fVarB 1) (fVarB 2))))
   (fIf (fOr (fB (fOp neD (fUn lenD (fVarB 3)) (fSh (fOp addD (fVarB 0) (fC (.int 1)))))) (fOr (fNot (fB (fUn anyD (fSh (fSl (fVarB 3) fNone (fSome (fUn negD (fC (.int 1))))))))) (fOr (fB (fOp neD (fSh (fCall f__law_plain (fCons (fSh (fUn listD (fVarB 3))) fNil))) (fVarB 3))) (fB (fOp inD (fVarB 3) (fSh (fSl (fVarB 1) fNone (fSome (fVarB 2)))))))))
   (fRetVar 2)
   fSkip))
noncomputable def b__law_due : Env → Rs Out :=
  (fSeq (fFor (fIt rng1 (fCons (fUn lenD (fVarB 1)) fNil)) (tgN 2)
  p1__law_due)
  (fRet (fV (fC .none))))
noncomputable def f__law_due : List PyData → Rs Sl := fnOf 2 4 b__law_due
noncomputable def b__law_caught : Env → Rs Out :=
  (fSeq (fSet 2 (fV (fC .none)))
  (fSeq (fTry 3 2 (fun ρ => fDrop (fCall f_looked (fCons (fVarS 0) (fCons (fVarS 1) fNil))) ρ >>= fun _ => (fun _ => .ok ()) ρ))
  (fRetVar 2)))
noncomputable def f__law_caught : List PyData → Rs Sl := fnOf 2 4 b__law_caught
noncomputable def p1_law : Env → Rs Out :=
  (fSeq (fSet 3 (fCall f__law_caught (fCons (fC (.int 0)) (fCons (fSh (fUn lstD (fCons (fVarS 2) fNil))) fNil))))
   (fIf (fOr (fNot (fB (fIsE 3 (fun k => eSub k 5)))) (fB (fOp neD (fPlace 3) (fC (.int 0)))))
   (fRet (fV (fC (.bool false))))
   fSkip))
noncomputable def p2_law : Env → Rs Out :=
  (fIf (fB (fOp neD (fVarB 4) (fSh (fUn lstD fNil))))
   (fCallM 4 f__law_spoiled (fCons (fSh (fCall f__law_mixed (fCons (fVarS 0) (fCons (fSh (fOp addD (fC (.int 80)) (fVarB 5))) fNil)))) fNil))
   fSkip)
noncomputable def q4_law : Env → Rs Out :=
  (fSeq (fFz 4 (fSet 6 (fCall f__law_due (fCons (fVarS 1) (fCons (fVarS 4) fNil)))))
  (fSeq (fSet 7 (fUn listD (fVarB 4)))
  (fSeq (fFz 7 (fSet 3 (fCall f__law_caught (fCons (fVarS 1) (fCons (fVarS 7) fNil)))))
  (fSeq (fIf (fOr (fB (fOp neD (fVarB 7) (fVarB 4))) (fB (fIsE 3 (fun k => ([4, 2, 1, 3] : List Nat).any fun j => eSub k j))))
  (fRet (fV (fC (.bool false))))
  fSkip)
  (fSeq (fIf (fB (fOp isND (fVarB 6) (fC .none)))
  (fFz 7 (fRet (fV (fAndV (fNoneV 3) (fOp isND (fSh (fCall f_looked (fCons (fVarS 1) (fCons (fVarS 7) fNil)))) (fC .none))))))
  fSkip)
  (fSeq (fIf (fOr (fNot (fB (fIsE 3 (fun k => eSub k 5)))) (fNot (fB (fIsE 3 (fun _ => true)))))
  (fRet (fV (fC (.bool false))))
  fSkip)
  (fRet (fV (fAndV (fSh (fCall f__law_whole (fCons (fPlace 3) fNil))) (fAndV (fOp eqD (fPlace 3) (fVarB 6)) (fOp eqD (fNewP (fSh (fOp addD (fVarB 6) (fC (.int 2))))) (fSh (fOp addD (fVarB 6) (fC (.int 2)))))))))))))))
noncomputable def q2_law : Env → Rs Out :=
  (fSeq (fSet 4 (fCall f__law_fences (fCons (fVarS 0) (fCons (fC (.int 3)) (fCons (fVarS 1) (fCons (fOp modD (fOp divD (fSh (fCall f__law_cell_at (fCons (fVarS 0) (fCons (fC (.int 0)) fNil)))) (fC (.int 10))) (fC (.int 9))) fNil))))))
  (fSeq (fFor (fIt rng1 (fCons (fOp modD (fSh (fCall f__law_mixed (fCons (fVarS 0) (fCons (fC (.int 2)) fNil)))) (fC (.int 3))) fNil)) (tgN 5)
  p2_law)
  q4_law))
noncomputable def b_law : Env → Rs Out :=
  (fSeq (fSet 1 (fV (fOp modD (fOp divD (fSh (fCall f__law_cell_at (fCons (fVarS 0) (fCons (fC (.int 0)) fNil)))) (fC (.int 2))) (fC (.int 5)))))
  (fSeq (fFor (fIt itemsL (fSh (fUn lstD (fCons (fUn tupD (fCons (fC (.int 1)) fNil)) (fCons (fUn tupD (fCons (fC (.int 0)) fNil)) (fCons (fUn tupD fNil) (fCons (fUn tupD (fCons (fUn negD (fC (.int 1))) fNil)) fNil))))))) (tgN 2)
  p1_law)
  q2_law))
noncomputable def f_law : List PyData → Rs Sl := fnOf 1 8 b_law
/-! ### each def keeps its promise -/
section
variable {P : Program} {w : World} {K : PySem.W.Frag} {mg : Str → Option Value} {base : Heap} {ca : Nat → Addr}
theorem ok_divisor {f : Addr} {fd : FuncData} (T : Blt mg)  (F : Fun K "divisor" "divisor" s_divisor f fd) : FnOk P w K mg base (L2.CX P w) 1 f fd ["one", "other"] (spF ⟨K, ca⟩ (fnOf 2 2 b_divisor) 2) :=
  fn_ok (k := 0) F sc_divisor b_divisor fun cdv A outer s H E hr o => ⟨_,
  (jps_cons (jp_set (i := 0) (jv_s (js_abs (jb_var 0 (pv 0)) T.b_abs)) o.nd rfl (by first | exact .inl rfl | exact .inr rfl))
  (jps_cons (jp_set (i := 1) (jv_s (js_abs (jb_var 1 (pv 1)) T.b_abs)) o.nd rfl (by first | exact .inl rfl | exact .inr rfl))
  (jps_cons (jp_while (jt_cmp op_gt opsem_gt (nomark _) (jb_var 1 (pv 1)) (jb_s js_int))
  (jps_one (jp_fzF 1 (jp_par (i := 0) (j := 1) (ja_cons (js_var 1 (pv 1)) (ja_cons (js_mod (jb_var 0 (pv 0)) (jb_var 1 (pv 1))) ja_nil)) o.calm o.nd rfl rfl (by decide) rfl rfl))) o.pas)
  (jps_one (jp_retVar 0 (pv 0))))))⟩
theorem ok_plain_wall {f : Addr} {fd : FuncData} (T : Blt mg) (C_divisor : Callee P w K mg base ca "divisor" 1 f_divisor 2) (F : Fun K "plain_wall" "plain_wall" s_plain_wall f fd) : FnOk P w K mg base (L2.CX P w) 2 f fd ["numbers"] (spF ⟨K, ca⟩ (fnOf 1 4 b_plain_wall) 1) :=
  fn_ok (k := 1) F sc_plain_wall b_plain_wall fun cdv A outer s H E hr o => ⟨_,
  (jps_cons (jp_set (i := 1) (jv_s js_int) o.nd rfl (by first | exact .inl rfl | exact .inr rfl))
  (jps_cons (jp_for (ji_tup (js_var 0 (pv 0))) (jg_name (i := 2) o.nd rfl (by first | exact .inl rfl | exact .inr rfl))
  (jps_one (jp_fzF 1 (jp_set (i := 1) (jv_call C_divisor (hr.mono (by decide)) o.call (ja_cons (js_var 1 (pv 1)) (ja_cons (js_var 2 (pv 2)) ja_nil))) o.nd rfl (by first | exact .inl rfl | exact .inr rfl)))) o.pas o.calm)
  (jps_cons (by first | exact (jp_setLc (i := 3) (own := [("number", 2)]) o.calm o.nd rfl rfl (sw_true rfl rfl rfl (by decide +kernel)) (ji_tup (js_v (jv_slice (jb_var 0 (pv 0)) jo_none (jo_some (jb_s (js_neg (jb_s js_int))))))) (blkOk_by (show blkC ["numbers", "by", "number", "heads"] (defScope s_plain_wall) _ _ = true by first | decide +kernel | rfl)) (fun _ _ _ _ _ => by exact (jg_name (i := 2) o.nd rfl (by first | exact .inl rfl | exact .inr rfl))) (fun _ _ _ _ _ => by exact (jc_one (by exact (jt_cmp (op_neD (by exact o.u64)) opsem_ne (nomark _) (jb_var 2 (pv 2)) (jb_s js_int))))) (fun _ _ _ _ _ => by exact (js_var 2 (pv 2))) (by decide) s H) | exact (jp_set (i := 3) (jv_lc (own := [("number", 2)]) o.calm o.nd (ji_tup (js_v (jv_slice (jb_var 0 (pv 0)) jo_none (jo_some (jb_s (js_neg (jb_s js_int))))))) (blkOk_by (show blkC ["numbers", "by", "number", "heads"] (defScope s_plain_wall) _ _ = true by first | decide +kernel | rfl)) (fun _ _ _ _ _ => by exact (jg_name (i := 2) o.nd rfl (by first | exact .inl rfl | exact .inr rfl))) (fun _ _ _ _ _ => by exact (jc_one (by exact (jt_cmp (op_neD (by exact o.u64)) opsem_ne (nomark _) (jb_var 2 (pv 2)) (jb_s js_int))))) (fun _ _ _ _ _ => by exact (js_var 2 (pv 2))) (by decide) s H) o.nd rfl (by first | exact .inl rfl | exact .inr rfl)))
  (jps_cons (jp_if (jt_cmp op_lt opsem_lt (nomark _) (jb_s (js_ix (jb_var 3 (pv 3)) (jb_s js_int))) (jb_s js_int))
  (jps_one (jp_set (i := 1) (jv_s (js_sub (jb_s js_int) (jb_var 1 (pv 1)))) o.nd rfl (by first | exact .inl rfl | exact .inr rfl)))
  jps_nil)
  (jps_one (jp_ret (jv_s (js_tuplec (jb_s (js_v (jv_lc (own := [("number", 2)]) o.calm o.nd (ji_tup (js_var 0 (pv 0))) (blkOk_by (show blkC ["numbers", "by", "number", "heads"] (defScope s_plain_wall) _ _ = true by first | decide +kernel | rfl)) (fun _ _ _ _ _ => by exact (jg_name (i := 2) o.nd rfl (by first | exact .inl rfl | exact .inr rfl))) (fun _ _ _ _ _ => by exact jc_nil) (fun _ _ _ _ _ => by exact (js_div (jb_var 2 (pv 2)) (jb_var 1 (pv 1)))) (by decide) s H))) T.b_tuple))))))))⟩
theorem ok_looked {f : Addr} {fd : FuncData} (T : Blt mg) (C_plain_wall : Callee P w K mg base ca "plain_wall" 2 f_plain_wall 1) (TX : EX K mg ca) (NX : NW P w K mg base ca) (F : Fun K "looked" "looked" s_looked f fd) : FnOk P w K mg base (L2.CX P w) 3 f fd ["ways", "walls"] (spF ⟨K, ca⟩ (fnOf 2 4 b_looked) 2) :=
  fn_ok (k := 2) F sc_looked b_looked fun cdv A outer s H E hr o => ⟨_,
  (jps_one (jp_for (ji_range1 (ja_cons (js_len (jb_var 1 (pv 1)) T.b_len) ja_nil) T.b_range) (jg_name (i := 2) o.nd rfl (by first | exact .inl rfl | exact .inr rfl))
  (jps_cons (jp_set (i := 3) (jv_s (js_ix (jb_var 1 (pv 1)) (jb_var 2 (pv 2)))) o.nd rfl (by first | exact .inl rfl | exact .inr rfl))
   (jps_one (jp_fzF 3 (jp_if (jt_w (jw_or (jt_cmp (op_neD (by exact o.u64)) opsem_ne (nomark _) (jb_s (js_len (jb_var 3 (pv 3)) T.b_len)) (jb_s (js_v (jv_add (jb_var 0 (pv 0)) (jb_s js_int))))) (jw_or (jt_not (jt_val (js_any (jb_s (js_v (jv_slice (jb_var 3 (pv 3)) jo_none (jo_some (jb_s (js_neg (jb_s js_int))))))) T.b_any o.calm))) (jw_or (jt_cmp (op_neD (by exact o.u64)) opsem_ne (nomark _) (jb_var 3 (pv 3)) (jb_s (js_v (jv_call C_plain_wall (hr.mono (by decide)) o.call (ja_cons (js_var 3 (pv 3)) ja_nil))))) (jw_or1 (jt_cmp (op_inD (by exact o.u65)) opsem_in (by with_unfolding_all rfl) (jb_var 3 (pv 3)) (jb_s (js_v (jv_slice (jb_var 1 (pv 1)) jo_none (jo_some (jb_var 2 (pv 2))))))))))))
   (jps_one (jp_raiseP TX NX (hr.mono (by decide)) o.calm o.tk (js_var 2 (pv 2))))
   jps_nil)))) o.pas o.calm))⟩
theorem ok__law_cell_at {f : Addr} {fd : FuncData} (T : Blt mg)  (F : Fun K "_law_cell_at" "_law_cell_at" s__law_cell_at f fd) : FnOk P w K mg base (L2.CX P w) 1 f fd ["_law_script", "_law_k"] (spF ⟨K, ca⟩ (fnOf 2 2 b__law_cell_at) 2) :=
  fn_ok (k := 0) F sc__law_cell_at b__law_cell_at fun cdv A outer s H E hr o => ⟨_,
  (jps_cons (jp_if (jt_cmp op_lt opsem_lt (nomark _) (jb_var 1 (pv 1)) (jb_s (js_len (jb_var 0 (pv 0)) T.b_len)))
  (jps_one (jp_ret (jv_s (js_ix (jb_var 0 (pv 0)) (jb_var 1 (pv 1))))))
  jps_nil)
  (jps_one (jp_ret (jv_s js_int))))⟩
theorem ok__law_whole {f : Addr} {fd : FuncData} (T : Blt mg)  (F : Fun K "_law_whole" "_law_whole" s__law_whole f fd) : FnOk P w K mg base (L2.CX P w) 1 f fd ["_law_found"] (spF ⟨K, ca⟩ (fnOf 1 1 b__law_whole) 1) :=
  fn_ok (k := 0) F sc__law_whole b__law_whole fun cdv A outer s H E hr o => ⟨_,
  (jps_one (jp_ret (jv_s (js_and (js_isi "int" (jb_var 0 (pv 0)) T.b_isinstance T.b_int (by decide +kernel)) (js_one (js_not (js_isi "bool" (jb_var 0 (pv 0)) T.b_isinstance T.b_bool (by decide +kernel))))))))⟩
theorem ok__law_block {f : Addr} {fd : FuncData} (T : Blt mg)  (F : Fun K "_law_block" "_law_block" s__law_block f fd) : FnOk P w K mg base (L2.CX P w) 1 f fd ["_law_script", "_law_k"] (spF ⟨K, ca⟩ (fnOf 2 4 b__law_block) 2) :=
  fn_ok (k := 0) F sc__law_block b__law_block fun cdv A outer s H E hr o => ⟨_,
  (jps_cons (jp_set (i := 2) (jv_s js_int) o.nd rfl (by first | exact .inl rfl | exact .inr rfl))
  (jps_cons (jp_if (jt_cmp op_lt opsem_lt (nomark _) (jb_s (js_v (jv_add (jb_s js_int) (jb_s (js_mod (jb_s (js_div (jb_var 1 (pv 1)) (jb_s js_int))) (jb_s js_int)))))) (jb_s (js_len (jb_var 0 (pv 0)) T.b_len)))
  (jps_one (jp_set (i := 2) (jv_s (js_div (jb_s (js_ix (jb_var 0 (pv 0)) (jb_s (js_v (jv_add (jb_s js_int) (jb_s (js_mod (jb_s (js_div (jb_var 1 (pv 1)) (jb_s js_int))) (jb_s js_int)))))))) (jb_s (js_pow (jb_s js_int) (jb_s js_int))))) o.nd rfl (by first | exact .inl rfl | exact .inr rfl)))
  jps_nil)
  (jps_cons (jp_for (ji_range1 (ja_cons (js_mod (jb_var 1 (pv 1)) (jb_s js_int)) ja_nil) T.b_range) (jg_name (i := 3) o.nd rfl (by first | exact .inl rfl | exact .inr rfl))
  (jps_one (jp_set (i := 2) (jv_s (js_div (jb_var 2 (pv 2)) (jb_s js_int))) o.nd rfl (by first | exact .inl rfl | exact .inr rfl))) o.pas o.calm)
  (jps_one (jp_retVar 2 (pv 2))))))⟩
theorem ok__law_mixed {f : Addr} {fd : FuncData} (T : Blt mg) (C__law_block : Callee P w K mg base ca "_law_block" 1 f__law_block 2) (F : Fun K "_law_mixed" "_law_mixed" s__law_mixed f fd) : FnOk P w K mg base (L2.CX P w) 2 f fd ["_law_script", "_law_k"] (spF ⟨K, ca⟩ (fnOf 2 4 b__law_mixed) 2) :=
  fn_ok (k := 1) F sc__law_mixed b__law_mixed fun cdv A outer s H E hr o => ⟨_,
  (jps_cons (jp_set (i := 2) (jv_s js_int) o.nd rfl (by first | exact .inl rfl | exact .inr rfl))
  (jps_cons (jp_if (jt_cmp op_gt opsem_gt (nomark _) (jb_s (js_len (jb_var 0 (pv 0)) T.b_len)) (jb_s js_int))
  (jps_one (jp_set (i := 2) (jv_s (js_ix (jb_var 0 (pv 0)) (jb_s js_int))) o.nd rfl (by first | exact .inl rfl | exact .inr rfl)))
  jps_nil)
  (jps_cons (jp_if (jt_w (jw_and (jt_cmp (op_eqD (by exact o.u64)) opsem_eq (nomark _) (jb_s (js_mod (jb_s (js_div (jb_var 2 (pv 2)) (jb_s (js_pow (jb_s js_int) (jb_s js_int))))) (jb_s js_int))) (jb_s js_int)) (jw_and1 (jt_cmp (op_neD (by exact o.u64)) opsem_ne (nomark _) (jb_s (js_v (jv_call C__law_block (hr.mono (by decide)) o.call (ja_cons (js_var 0 (pv 0)) (ja_cons (js_var 1 (pv 1)) ja_nil))))) (jb_s js_int)))))
  (jps_one (jp_ret (jv_s (js_mod (jb_s (js_v (jv_call C__law_block (hr.mono (by decide)) o.call (ja_cons (js_var 0 (pv 0)) (ja_cons (js_var 1 (pv 1)) ja_nil))))) (jb_s js_int)))))
  jps_nil)
  (jps_cons (jp_if (jt_cmp op_gt opsem_gt (nomark _) (jb_s (js_len (jb_var 0 (pv 0)) T.b_len)) (jb_s js_int))
  (jps_one (jp_set (i := 2) (jv_s (js_ix (jb_var 0 (pv 0)) (jb_s (js_mod (jb_var 1 (pv 1)) (jb_s (js_min (jb_s js_int) (jb_s (js_len (jb_var 0 (pv 0)) T.b_len)) T.b_min o.calm)))))) o.nd rfl (by first | exact .inl rfl | exact .inr rfl)))
  jps_nil)
  (jps_cons (jp_set (i := 3) (jv_add (jb_s (js_mod (jb_var 2 (pv 2)) (jb_s (js_pow (jb_s js_int) (jb_s js_int))))) (jb_s (js_mul (jb_s js_int) (jb_s (js_v (jv_add (jb_var 1 (pv 1)) (jb_s js_int))))))) o.nd rfl (by first | exact .inl rfl | exact .inr rfl))
  (jps_cons (jp_set (i := 3) (jv_add (jb_s (js_mod (jb_s (js_mul (jb_var 3 (pv 3)) (jb_var 3 (pv 3)))) (jb_s js_int))) (jb_s (js_mul (jb_s js_int) (jb_var 1 (pv 1))))) o.nd rfl (by first | exact .inl rfl | exact .inr rfl))
  (jps_one (jp_ret (jv_s (js_mod (jb_s (js_mul (jb_var 3 (pv 3)) (jb_var 3 (pv 3)))) (jb_s js_int)))))))))))⟩
theorem ok__law_divisor {f : Addr} {fd : FuncData} (T : Blt mg)  (F : Fun K "_law_divisor" "_law_divisor" s__law_divisor f fd) : FnOk P w K mg base (L2.CX P w) 1 f fd ["_law_one", "_law_other"] (spF ⟨K, ca⟩ (fnOf 2 2 b__law_divisor) 2) :=
  fn_ok (k := 0) F sc__law_divisor b__law_divisor fun cdv A outer s H E hr o => ⟨_,
  (jps_cons (jp_set (i := 0) (jv_s (js_abs (jb_var 0 (pv 0)) T.b_abs)) o.nd rfl (by first | exact .inl rfl | exact .inr rfl))
  (jps_cons (jp_set (i := 1) (jv_s (js_abs (jb_var 1 (pv 1)) T.b_abs)) o.nd rfl (by first | exact .inl rfl | exact .inr rfl))
  (jps_cons (jp_while (jt_cmp op_gt opsem_gt (nomark _) (jb_var 1 (pv 1)) (jb_s js_int))
  (jps_one (jp_fzF 1 (jp_par (i := 0) (j := 1) (ja_cons (js_var 1 (pv 1)) (ja_cons (js_mod (jb_var 0 (pv 0)) (jb_var 1 (pv 1))) ja_nil)) o.calm o.nd rfl rfl (by decide) rfl rfl))) o.pas)
  (jps_one (jp_retVar 0 (pv 0))))))⟩
theorem ok__law_digits {f : Addr} {fd : FuncData} (T : Blt mg) (C__law_cell_at : Callee P w K mg base ca "_law_cell_at" 1 f__law_cell_at 2) (C__law_mixed : Callee P w K mg base ca "_law_mixed" 2 f__law_mixed 2) (F : Fun K "_law_digits" "_law_digits" s__law_digits f fd) : FnOk P w K mg base (L2.CX P w) 3 f fd ["_law_script", "_law_start", "_law_many", "_law_base"] (spF ⟨K, ca⟩ (fnOf 4 7 b__law_digits) 4) :=
  fn_ok (k := 2) F sc__law_digits b__law_digits fun cdv A outer s H E hr o => ⟨_,
  (jps_cons (jp_set (i := 4) (jv_lst ja_nil) o.nd rfl (by first | exact .inl rfl | exact .inr rfl))
  (jps_cons (jp_set (i := 5) (jv_call C__law_cell_at (hr.mono (by decide)) o.call (ja_cons (js_var 0 (pv 0)) (ja_cons js_int ja_nil))) o.nd rfl (by first | exact .inl rfl | exact .inr rfl))
  (jps_cons (jp_for (ji_range1 (ja_cons (js_var 2 (pv 2)) ja_nil) T.b_range) (jg_name (i := 6) o.nd rfl (by first | exact .inl rfl | exact .inr rfl))
  (jps_one (jp_if (jt_cmp (op_eqD (by exact o.u64)) opsem_eq (nomark _) (jb_s (js_mod (jb_s (js_v (jv_call C__law_cell_at (hr.mono (by decide)) o.call (ja_cons (js_var 0 (pv 0)) (ja_cons js_int ja_nil))))) (jb_s js_int))) (jb_s js_int))
   (jps_cons (jp_append 4 (pv 4) (js_mod (jb_var 5 (pv 5)) (jb_var 3 (pv 3))))
    (jps_one (jp_set (i := 5) (jv_s (js_div (jb_var 5 (pv 5)) (jb_var 3 (pv 3)))) o.nd rfl (by first | exact .inl rfl | exact .inr rfl))))
   (jps_one (jp_append 4 (pv 4) (js_mod (jb_s (js_v (jv_call C__law_mixed (hr.mono (by decide)) o.call (ja_cons (js_var 0 (pv 0)) (ja_cons (js_v (jv_add (jb_var 1 (pv 1)) (jb_var 6 (pv 6)))) ja_nil))))) (jb_var 3 (pv 3))))))) o.pas o.calm)
  (jps_one (jp_retVar 4 (pv 4))))))⟩
theorem ok__law_plain {f : Addr} {fd : FuncData} (T : Blt mg) (C__law_divisor : Callee P w K mg base ca "_law_divisor" 1 f__law_divisor 2) (F : Fun K "_law_plain" "_law_plain" s__law_plain f fd) : FnOk P w K mg base (L2.CX P w) 2 f fd ["_law_row"] (spF ⟨K, ca⟩ (fnOf 1 4 b__law_plain) 1) :=
  fn_ok (k := 1) F sc__law_plain b__law_plain fun cdv A outer s H E hr o => ⟨_,
  (jps_cons (jp_set (i := 1) (jv_s js_int) o.nd rfl (by first | exact .inl rfl | exact .inr rfl))
  (jps_cons (jp_set (i := 2) (jv_s js_int) o.nd rfl (by first | exact .inl rfl | exact .inr rfl))
  (jps_cons (jp_for (ji_mix (js_var 0 (pv 0))) (jg_name (i := 3) o.nd rfl (by first | exact .inl rfl | exact .inr rfl))
  (jps_cons (jp_fzF 1 (jp_set (i := 1) (jv_call C__law_divisor (hr.mono (by decide)) o.call (ja_cons (js_var 1 (pv 1)) (ja_cons (js_var 3 (pv 3)) ja_nil))) o.nd rfl (by first | exact .inl rfl | exact .inr rfl)))
   (jps_one (jp_if (jt_cmp (op_eqD (by exact o.u64)) opsem_eq (nomark _) (jb_var 2 (pv 2)) (jb_s js_int))
   (jps_one (jp_set (i := 2) (jv_s (js_var 3 (pv 3))) o.nd rfl (by first | exact .inl rfl | exact .inr rfl)))
   jps_nil))) o.pas o.calm)
  (jps_cons (jp_if (jt_cmp op_lt opsem_lt (nomark _) (jb_var 2 (pv 2)) (jb_s js_int))
  (jps_one (jp_set (i := 1) (jv_s (js_sub (jb_s js_int) (jb_var 1 (pv 1)))) o.nd rfl (by first | exact .inl rfl | exact .inr rfl)))
  jps_nil)
  (jps_one (jp_ret (jv_s (js_tuplec (jb_s (js_v (jv_lc (own := [("_law_number", 3)]) o.calm o.nd (ji_mix (js_var 0 (pv 0))) (blkOk_by (show blkC ["_law_row", "_law_by", "_law_lead", "_law_number"] (defScope s__law_plain) _ _ = true by first | decide +kernel | rfl)) (fun _ _ _ _ _ => by exact (jg_name (i := 3) o.nd rfl (by first | exact .inl rfl | exact .inr rfl))) (fun _ _ _ _ _ => by exact jc_nil) (fun _ _ _ _ _ => by exact (js_div (jb_var 3 (pv 3)) (jb_var 1 (pv 1)))) (by decide) s H))) T.b_tuple))))))))⟩
theorem ok__law_fences {f : Addr} {fd : FuncData} (T : Blt mg) (C__law_digits : Callee P w K mg base ca "_law_digits" 3 f__law_digits 4) (C__law_plain : Callee P w K mg base ca "_law_plain" 2 f__law_plain 1) (F : Fun K "_law_fences" "_law_fences" s__law_fences f fd) : FnOk P w K mg base (L2.CX P w) 4 f fd ["_law_script", "_law_start", "_law_ways", "_law_many"] (spF ⟨K, ca⟩ (fnOf 4 10 b__law_fences) 4) :=
  fn_ok (k := 3) F sc__law_fences b__law_fences fun cdv A outer s H E hr o => ⟨_,
  (jps_cons (jp_set (i := 4) (jv_call C__law_digits (hr.mono (by decide)) o.call (ja_cons (js_var 0 (pv 0)) (ja_cons (js_var 1 (pv 1)) (ja_cons (js_mul (jb_s (js_v (jv_add (jb_var 2 (pv 2)) (jb_s js_int)))) (jb_var 3 (pv 3))) (ja_cons js_int ja_nil))))) o.nd rfl (by first | exact .inl rfl | exact .inr rfl))
  (jps_cons (jp_set (i := 5) (jv_lst ja_nil) o.nd rfl (by first | exact .inl rfl | exact .inr rfl))
  (jps_cons (jp_for (ji_range1 (ja_cons (js_var 3 (pv 3)) ja_nil) T.b_range) (jg_name (i := 6) o.nd rfl (by first | exact .inl rfl | exact .inr rfl))
  (jps_cons (by first | exact (jp_setLc (i := 7) (own := [("_law_digit", 8)]) o.calm o.nd rfl rfl (sw_true rfl rfl rfl (by decide +kernel)) (ji_listB (jb_s (js_v (jv_slice (jb_var 4 (pv 4)) (jo_some (jb_s (js_mul (jb_s (js_v (jv_add (jb_var 2 (pv 2)) (jb_s js_int)))) (jb_var 6 (pv 6))))) (jo_some (jb_s (js_mul (jb_s (js_v (jv_add (jb_var 2 (pv 2)) (jb_s js_int)))) (jb_s (js_v (jv_add (jb_var 6 (pv 6)) (jb_s js_int))))))))))) (blkOk_by (show blkC ["_law_script", "_law_start", "_law_ways", "_law_many", "_law_digits_here", "_law_found", "_law_k", "_law_row", "_law_digit", "_law_one"] (defScope s__law_fences) _ _ = true by first | decide +kernel | rfl)) (fun _ _ _ _ _ => by exact (jg_name (i := 8) o.nd rfl (by first | exact .inl rfl | exact .inr rfl))) (fun _ _ _ _ _ => by exact jc_nil) (fun _ _ _ _ _ => by exact (js_sub (jb_var 8 (pv 8)) (jb_s js_int))) (by decide) s H) | exact (jp_set (i := 7) (jv_lc (own := [("_law_digit", 8)]) o.calm o.nd (ji_listB (jb_s (js_v (jv_slice (jb_var 4 (pv 4)) (jo_some (jb_s (js_mul (jb_s (js_v (jv_add (jb_var 2 (pv 2)) (jb_s js_int)))) (jb_var 6 (pv 6))))) (jo_some (jb_s (js_mul (jb_s (js_v (jv_add (jb_var 2 (pv 2)) (jb_s js_int)))) (jb_s (js_v (jv_add (jb_var 6 (pv 6)) (jb_s js_int))))))))))) (blkOk_by (show blkC ["_law_script", "_law_start", "_law_ways", "_law_many", "_law_digits_here", "_law_found", "_law_k", "_law_row", "_law_digit", "_law_one"] (defScope s__law_fences) _ _ = true by first | decide +kernel | rfl)) (fun _ _ _ _ _ => by exact (jg_name (i := 8) o.nd rfl (by first | exact .inl rfl | exact .inr rfl))) (fun _ _ _ _ _ => by exact jc_nil) (fun _ _ _ _ _ => by exact (js_sub (jb_var 8 (pv 8)) (jb_s js_int))) (by decide) s H) o.nd rfl (by first | exact .inl rfl | exact .inr rfl)))
   (jps_one (jp_if (jt_val (js_any (jb_s (js_v (jv_slice (jb_var 7 (pv 7)) jo_none (jo_some (jb_s (js_neg (jb_s js_int))))))) T.b_any o.calm))
   (jps_cons (jp_fzF 7 (jp_set (i := 9) (jv_call C__law_plain (hr.mono (by decide)) o.call (ja_cons (js_var 7 (pv 7)) ja_nil)) o.nd rfl (by first | exact .inl rfl | exact .inr rfl)))
    (jps_one (jp_if (jt_cmp (op_notInD (by exact o.u65)) opsem_nin (by with_unfolding_all rfl) (jb_var 9 (pv 9)) (jb_var 5 (pv 5)))
    (jps_one (jp_append 5 (pv 5) (js_var 9 (pv 9))))
    jps_nil)))
   jps_nil))) o.pas o.calm)
  (jps_one (jp_retVar 5 (pv 5))))))⟩
theorem ok__law_spoiled {f : Addr} {fd : FuncData} (T : Blt mg)  (F : Fun K "_law_spoiled" "_law_spoiled" s__law_spoiled f fd) : FnOk P w K mg base (L2.CX P w) 1 f fd ["_law_shuts", "_law_number"] (spM ⟨K, ca⟩ (fnM 2 6 b__law_spoiled) 2) :=
  fn_okM (k := 0) F sc__law_spoiled b__law_spoiled fun cdv A outer s H E hr o => ⟨_,
  (jps_cons (jp_set (i := 2) (jv_s (js_mod (jb_var 1 (pv 1)) (jb_s (js_len (jb_var 0 (pv 0)) T.b_len)))) o.nd rfl (by first | exact .inl rfl | exact .inr rfl))
  (jps_cons (jp_set (i := 3) (jv_s (js_ix (jb_var 0 (pv 0)) (jb_var 2 (pv 2)))) o.nd rfl (by first | exact .inl rfl | exact .inr rfl))
  (jps_cons (jp_set (i := 4) (jv_s (js_mod (jb_s (js_div (jb_var 1 (pv 1)) (jb_s js_int))) (jb_s js_int))) o.nd rfl (by first | exact .inl rfl | exact .inr rfl))
  (jps_cons (jp_if (jt_cmp (op_eqD (by exact o.u64)) opsem_eq (nomark _) (jb_var 4 (pv 4)) (jb_s js_int))
  (jps_one (jp_fzF 3 (jp_insert 0 (pv 0) (ja_cons (js_mod (jb_s (js_div (jb_var 1 (pv 1)) (jb_s js_int))) (jb_s (js_v (jv_add (jb_s (js_len (jb_var 0 (pv 0)) T.b_len)) (jb_s js_int))))) (ja_cons (js_var 3 (pv 3)) ja_nil)))))
  jps_nil)
  (jps_cons (jp_if (jt_cmp (op_eqD (by exact o.u64)) opsem_eq (nomark _) (jb_var 4 (pv 4)) (jb_s js_int))
  (jps_one (jp_fzF 3 (jp_setIx 0 (js_tuplec (jb_s (js_v (jv_lc (own := [("_law_part", 5)]) o.calm o.nd (ji_tup (js_var 3 (pv 3))) (blkOk_by (show blkC ["_law_shuts", "_law_number", "_law_at", "_law_one", "_law_way", "_law_part"] (defScope s__law_spoiled) _ _ = true by first | decide +kernel | rfl)) (fun _ _ _ _ _ => by exact (jg_name (i := 5) o.nd rfl (by first | exact .inl rfl | exact .inr rfl))) (fun _ _ _ _ _ => by exact jc_nil) (fun _ _ _ _ _ => by exact (js_sub (jb_s js_int) (jb_var 5 (pv 5)))) (by decide) s H))) T.b_tuple) (pv 0) (jb_var 2 (pv 2)))))
  jps_nil)
  (jps_cons (jp_if (jt_cmp (op_eqD (by exact o.u64)) opsem_eq (nomark _) (jb_var 4 (pv 4)) (jb_s js_int))
  (jps_one (jp_fzF 3 (jp_setIx 0 (js_tuplec (jb_s (js_v (jv_lc (own := [("_law_part", 5)]) o.calm o.nd (ji_tup (js_var 3 (pv 3))) (blkOk_by (show blkC ["_law_shuts", "_law_number", "_law_at", "_law_one", "_law_way", "_law_part"] (defScope s__law_spoiled) _ _ = true by first | decide +kernel | rfl)) (fun _ _ _ _ _ => by exact (jg_name (i := 5) o.nd rfl (by first | exact .inl rfl | exact .inr rfl))) (fun _ _ _ _ _ => by exact jc_nil) (fun _ _ _ _ _ => by exact (js_mul (jb_var 5 (pv 5)) (jb_s (js_v (jv_add (jb_s js_int) (jb_s (js_mod (jb_s (js_div (jb_var 1 (pv 1)) (jb_s js_int))) (jb_s js_int)))))))) (by decide) s H))) T.b_tuple) (pv 0) (jb_var 2 (pv 2)))))
  jps_nil)
  (jps_cons (jp_if (jt_cmp (op_eqD (by exact o.u64)) opsem_eq (nomark _) (jb_var 4 (pv 4)) (jb_s js_int))
  (jps_one (jp_setIx 0 (js_v (jv_add (jb_s (js_tuplec (jb_s (js_v (jv_rep (jv_lst (ja_cons js_int ja_nil)) (jb_s (js_sub (jb_s (js_len (jb_var 3 (pv 3)) T.b_len)) (jb_s js_int)))))) T.b_tuple)) (jb_s (js_tup (ja_cons js_int ja_nil))))) (pv 0) (jb_var 2 (pv 2))))
  jps_nil)
  (jps_cons (jp_if (jt_cmp (op_eqD (by exact o.u64)) opsem_eq (nomark _) (jb_var 4 (pv 4)) (jb_s js_int))
  (jps_one (jp_setIx 0 (js_v (jv_slice (jb_var 3 (pv 3)) jo_none (jo_some (jb_s (js_neg (jb_s js_int)))))) (pv 0) (jb_var 2 (pv 2))))
  jps_nil)
  (jps_cons (jp_if (jt_cmp (op_eqD (by exact o.u64)) opsem_eq (nomark _) (jb_var 4 (pv 4)) (jb_s js_int))
  (jps_one (jp_setIx 0 (js_v (jv_add (jb_var 3 (pv 3)) (jb_s (js_tup (ja_cons js_int ja_nil))))) (pv 0) (jb_var 2 (pv 2))))
  jps_nil)
  (jps_one (jp_if (jt_cmp (op_eqD (by exact o.u64)) opsem_eq (nomark _) (jb_var 4 (pv 4)) (jb_s js_int))
  (jps_one (jp_setIx 0 (js_tuplec (jb_s (js_v (jv_rep (jv_lst (ja_cons js_int ja_nil)) (jb_s (js_len (jb_var 3 (pv 3)) T.b_len))))) T.b_tuple) (pv 0) (jb_var 2 (pv 2))))
  jps_nil))))))))))), (by repeat (first | with_reducible exact keeps_next | with_reducible exact keeps_never | with_reducible exact keeps_ret | with_reducible exact keeps_drop | with_reducible exact keepsG_sub | with_reducible exact keepsG_name (by decide) | with_reducible apply keeps_asg | with_reducible apply keeps_if | with_reducible apply keeps_seq))⟩
theorem ok__law_due {f : Addr} {fd : FuncData} (T : Blt mg) (C__law_plain : Callee P w K mg base ca "_law_plain" 2 f__law_plain 1) (F : Fun K "_law_due" "_law_due" s__law_due f fd) : FnOk P w K mg base (L2.CX P w) 3 f fd ["_law_ways", "_law_shuts"] (spF ⟨K, ca⟩ (fnOf 2 4 b__law_due) 2) :=
  fn_ok (k := 2) F sc__law_due b__law_due fun cdv A outer s H E hr o => ⟨_,
  (jps_cons (jp_for (ji_range1 (ja_cons (js_len (jb_var 1 (pv 1)) T.b_len) ja_nil) T.b_range) (jg_name (i := 2) o.nd rfl (by first | exact .inl rfl | exact .inr rfl))
  (jps_cons (jp_set (i := 3) (jv_s (js_ix (jb_var 1 (pv 1)) (jb_var 2 (pv 2)))) o.nd rfl (by first | exact .inl rfl | exact .inr rfl))
   (jps_one (jp_if (jt_w (jw_or (jt_cmp (op_neD (by exact o.u64)) opsem_ne (nomark _) (jb_s (js_len (jb_var 3 (pv 3)) T.b_len)) (jb_s (js_v (jv_add (jb_var 0 (pv 0)) (jb_s js_int))))) (jw_or (jt_not (jt_val (js_any (jb_s (js_v (jv_slice (jb_var 3 (pv 3)) jo_none (jo_some (jb_s (js_neg (jb_s js_int))))))) T.b_any o.calm))) (jw_or (jt_cmp (op_neD (by exact o.u64)) opsem_ne (nomark _) (jb_s (js_v (jv_call C__law_plain (hr.mono (by decide)) o.call (ja_cons (js_v (jv_list (jb_var 3 (pv 3)) T.b_list)) ja_nil)))) (jb_var 3 (pv 3))) (jw_or1 (jt_cmp (op_inD (by exact o.u65)) opsem_in (by with_unfolding_all rfl) (jb_var 3 (pv 3)) (jb_s (js_v (jv_slice (jb_var 1 (pv 1)) jo_none (jo_some (jb_var 2 (pv 2))))))))))))
   (jps_one (jp_retVar 2 (pv 2)))
   jps_nil))) o.pas o.calm)
  (jps_one (jp_ret (jv_s js_non))))⟩
theorem ok__law_caught {f : Addr} {fd : FuncData} (T : Blt mg) (C_looked : Callee P w K mg base ca "looked" 3 f_looked 2) (TX : EX K mg ca) (F : Fun K "_law_caught" "_law_caught" s__law_caught f fd) : FnOk P w K mg base (L2.CX P w) 4 f fd ["_law_ways", "_law_shuts"] (spF ⟨K, ca⟩ (fnOf 2 4 b__law_caught) 2) :=
  fn_ok (k := 3) F sc__law_caught b__law_caught fun cdv A outer s H E hr o => ⟨_,
  (jps_cons (jp_set (i := 2) (jv_s js_non) o.nd rfl (by first | exact .inl rfl | exact .inr rfl))
  (jps_cons (jp_try 3 2 TX (jtb_call C_looked (hr.mono (by decide)) (fun _ _ _ => (ja_cons (js_var 0 (pv 0)) (ja_cons (js_var 1 (pv 1)) ja_nil))) jtb_nil) o.nd rfl rfl rfl rfl)
  (jps_one (jp_retVar 2 (pv 2)))))⟩
theorem ok_law {f : Addr} {fd : FuncData} (T : Blt mg) (C_looked : Callee P w K mg base ca "looked" 3 f_looked 2) (C__law_cell_at : Callee P w K mg base ca "_law_cell_at" 1 f__law_cell_at 2) (C__law_whole : Callee P w K mg base ca "_law_whole" 1 f__law_whole 1) (C__law_mixed : Callee P w K mg base ca "_law_mixed" 2 f__law_mixed 2) (C__law_fences : Callee P w K mg base ca "_law_fences" 4 f__law_fences 4) (C__law_spoiled : CalleeM P w K mg base ca "_law_spoiled" 1 f__law_spoiled 2) (C__law_due : Callee P w K mg base ca "_law_due" 3 f__law_due 2) (C__law_caught : Callee P w K mg base ca "_law_caught" 4 f__law_caught 2) (TX : EX K mg ca) (NX : NW P w K mg base ca) (noP : PySem.W.findIn K (.ref (ca 5)) "place" = some none) (F : Fun K "law" "law" s_law f fd) : FnOk P w K mg base (L2.CX P w) 5 f fd ["_law_script"] (spF ⟨K, ca⟩ (fnOf 1 8 b_law) 1) :=
  fn_ok (k := 4) F sc_law b_law fun cdv A outer s H E hr o => ⟨_,
  (jps_cons (jp_set (i := 1) (jv_s (js_mod (jb_s (js_div (jb_s (js_v (jv_call C__law_cell_at (hr.mono (by decide)) o.call (ja_cons (js_var 0 (pv 0)) (ja_cons js_int ja_nil))))) (jb_s js_int))) (jb_s js_int))) o.nd rfl (by first | exact .inl rfl | exact .inr rfl))
  (jps_cons (jp_for (ji_list (js_v (jv_lst (ja_cons (js_tup (ja_cons js_int ja_nil)) (ja_cons (js_tup (ja_cons js_int ja_nil)) (ja_cons (js_tup ja_nil) (ja_cons (js_tup (ja_cons (js_neg (jb_s js_int)) ja_nil)) ja_nil))))))) (jg_name (i := 2) o.nd rfl (by first | exact .inl rfl | exact .inr rfl))
  (jps_cons (jp_set (i := 3) (jv_call C__law_caught (hr.mono (by decide)) o.call (ja_cons js_int (ja_cons (js_v (jv_lst (ja_cons (js_var 2 (pv 2)) ja_nil))) ja_nil))) o.nd rfl (by first | exact .inl rfl | exact .inr rfl))
   (jps_one (jp_if (jt_w (jw_or (jt_not (jt_val (js_isE 3 5 TX (pv 3) T.b_isinstance))) (jw_or1 (jt_cmp (op_neD (by exact o.u64)) opsem_ne (nomark _) (jb_s (js_place 3 TX noP (pv 3))) (jb_s js_int)))))
   (jps_one (jp_ret (jv_s js_bl)))
   jps_nil))) o.pas o.calm)
  (jps_cons (jp_set (i := 4) (jv_call C__law_fences (hr.mono (by decide)) o.call (ja_cons (js_var 0 (pv 0)) (ja_cons js_int (ja_cons (js_var 1 (pv 1)) (ja_cons (js_mod (jb_s (js_div (jb_s (js_v (jv_call C__law_cell_at (hr.mono (by decide)) o.call (ja_cons (js_var 0 (pv 0)) (ja_cons js_int ja_nil))))) (jb_s js_int))) (jb_s js_int)) ja_nil))))) o.nd rfl (by first | exact .inl rfl | exact .inr rfl))
  (jps_cons (jp_for (ji_range1 (ja_cons (js_mod (jb_s (js_v (jv_call C__law_mixed (hr.mono (by decide)) o.call (ja_cons (js_var 0 (pv 0)) (ja_cons js_int ja_nil))))) (jb_s js_int)) ja_nil) T.b_range) (jg_name (i := 5) o.nd rfl (by first | exact .inl rfl | exact .inr rfl))
  (jps_one (jp_if (jt_cmp (op_neD (by exact o.u64)) opsem_ne (nomark _) (jb_var 4 (pv 4)) (jb_s (js_v (jv_lst ja_nil))))
   (jps_one (jp_callM 4 C__law_spoiled (hr.mono (by decide)) o.call (pv 4) (ja_cons (js_v (jv_call C__law_mixed (hr.mono (by decide)) o.call (ja_cons (js_var 0 (pv 0)) (ja_cons (js_v (jv_add (jb_s js_int) (jb_var 5 (pv 5)))) ja_nil)))) ja_nil)))
   jps_nil)) o.pas o.calm)
  (jps_cons (jp_fzF 4 (jp_set (i := 6) (jv_call C__law_due (hr.mono (by decide)) o.call (ja_cons (js_var 1 (pv 1)) (ja_cons (js_var 4 (pv 4)) ja_nil))) o.nd rfl (by first | exact .inl rfl | exact .inr rfl)))
  (jps_cons (jp_set (i := 7) (jv_list (jb_var 4 (pv 4)) T.b_list) o.nd rfl (by first | exact .inl rfl | exact .inr rfl))
  (jps_cons (jp_fzF 7 (jp_set (i := 3) (jv_call C__law_caught (hr.mono (by decide)) o.call (ja_cons (js_var 1 (pv 1)) (ja_cons (js_var 7 (pv 7)) ja_nil))) o.nd rfl (by first | exact .inl rfl | exact .inr rfl)))
  (jps_cons (jp_if (jt_w (jw_or (jt_cmp (op_neD (by exact o.u64)) opsem_ne (nomark _) (jb_var 7 (pv 7)) (jb_var 4 (pv 4))) (jw_or1 (jt_val (js_isET 3 (js := [4, 2, 1, 3]) TX (pv 3) (jn_cons 4 TX (jn_cons 2 TX (jn_cons 1 TX (jn_cons 3 TX jn_nil)))) T.b_isinstance)))))
  (jps_one (jp_ret (jv_s js_bl)))
  jps_nil)
  (jps_cons (jp_if (jt_cmp op_isN opsem_isN (nomark _) (jb_var 6 (pv 6)) (jb_s js_non))
  (jps_one (jp_fzF 7 (jp_ret (jv_s (js_and (js_noneV 3 (pv 3)) (js_one (js_cmp op_isN opsem_isN (nomark _) (jb_s (js_v (jv_call C_looked (hr.mono (by decide)) o.call (ja_cons (js_var 1 (pv 1)) (ja_cons (js_var 7 (pv 7)) ja_nil))))) (jb_s js_non))))))))
  jps_nil)
  (jps_cons (jp_if (jt_w (jw_or (jt_not (jt_val (js_isE 3 5 TX (pv 3) T.b_isinstance))) (jw_or1 (jt_not (jt_val (js_isVE 3 TX (pv 3) T.b_isinstance T.b_ValueError))))))
  (jps_one (jp_ret (jv_s js_bl)))
  jps_nil)
  (jps_one (jp_ret (jv_s (js_and (js_v (jv_call C__law_whole (hr.mono (by decide)) o.call (ja_cons (js_place 3 TX noP (pv 3)) ja_nil))) (js_and (js_cmp (op_eqD (by exact o.u64)) opsem_eq (nomark _) (jb_s (js_place 3 TX noP (pv 3))) (jb_var 6 (pv 6))) (js_one (js_cmp (op_eqD (by exact o.u64)) opsem_eq (nomark _) (jb_s (js_newP TX NX noP (hr.mono (by decide)) (js_v (jv_add (jb_var 6 (pv 6)) (jb_s js_int))))) (jb_s (js_v (jv_add (jb_var 6 (pv 6)) (jb_s js_int)))))))))))))))))))))⟩
end
/-! ### the end -/
theorem all_mk {l : PySem.W.OpenLaw} {w : World} {K : PySem.W.Frag} {h : Heap} {mg : Str → Option Value} {fa : Addr} (X : K.In h) (G : h.Ns mainGlobals mg) (hfa : mg "law" = some (.ref fa))
    {g0 g1 g2 g3 g4 g5 g6 g7 g8 g9 g10 g11 g12 g13 g14 : Addr} {od0 an0 od1 an1 od2 an2 od3 an3 od4 an4 od5 an5 od6 an6 od7 an7 od8 an8 od9 an9 od10 an10 od11 an11 od12 an12 od13 an13 od14 an14 : Option Addr} {sl0 sl1 sl2 sl3 sl4 sl5 sl6 sl7 sl8 sl9 sl10 sl11 sl12 sl13 sl14 : Array (Option Value)} {oc0 kV0 dc0 pm0 cd0 ct0 oc1 kV1 dc1 pm1 cd1 ct1 oc2 kV2 dc2 pm2 cd2 ct2 oc3 kV3 dc3 pm3 cd3 ct3 oc4 kV4 dc4 pm4 cd4 ct4 oc5 kV5 dc5 pm5 cd5 ct5 oc6 kV6 dc6 pm6 cd6 ct6 oc7 kV7 dc7 pm7 cd7 ct7 oc8 kV8 dc8 pm8 cd8 ct8 oc9 kV9 dc9 pm9 cd9 ct9 oc10 kV10 dc10 pm10 cd10 ct10 oc11 kV11 dc11 pm11 cd11 ct11 oc12 kV12 dc12 pm12 cd12 ct12 oc13 kV13 dc13 pm13 cd13 ct13 oc14 kV14 dc14 pm14 cd14 ct14 : Value}
    {e0 e1 e2 e3 e4 e5 : Addr}
    {gI : Addr} {nmW qW : Str} {NW_ : Addr} {bsW : List Value} {snW : List Str} {subW : List Value} {abW : Bool} {colW : Option Bool} {ddW : Option Addr} {w0 w1 w2 w3 w5 : Option Value} {odI anI : Option Addr} {slI : Array (Option Value)} {ocI kVI dcI pmI cdI ctI : Value}
    (a0 : PySem.W.nsIn K mainGlobals "divisor" = some (some (.ref g0))) (l0 : K.lookup g0 = some ⟨oc0, od0, .func (PySem.W.fnOf "divisor" "divisor" (defArgs s_divisor) (defBody s_divisor) (defScope s_divisor) .none kV0 dc0 pm0 an0 cd0 ct0), sl0⟩) (c0 : PySem.W.codeIn K cd0 "divisor" = true) (k0 : PySem.W.keepIn K (.ref g0) = true)
    (a1 : PySem.W.nsIn K mainGlobals "plain_wall" = some (some (.ref g1))) (l1 : K.lookup g1 = some ⟨oc1, od1, .func (PySem.W.fnOf "plain_wall" "plain_wall" (defArgs s_plain_wall) (defBody s_plain_wall) (defScope s_plain_wall) .none kV1 dc1 pm1 an1 cd1 ct1), sl1⟩) (c1 : PySem.W.codeIn K cd1 "plain_wall" = true) (k1 : PySem.W.keepIn K (.ref g1) = true)
    (a2 : PySem.W.nsIn K mainGlobals "looked" = some (some (.ref g2))) (l2 : K.lookup g2 = some ⟨oc2, od2, .func (PySem.W.fnOf "looked" "looked" (defArgs s_looked) (defBody s_looked) (defScope s_looked) .none kV2 dc2 pm2 an2 cd2 ct2), sl2⟩) (c2 : PySem.W.codeIn K cd2 "looked" = true) (k2 : PySem.W.keepIn K (.ref g2) = true)
    (a3 : PySem.W.nsIn K mainGlobals "_law_cell_at" = some (some (.ref g3))) (l3 : K.lookup g3 = some ⟨oc3, od3, .func (PySem.W.fnOf "_law_cell_at" "_law_cell_at" (defArgs s__law_cell_at) (defBody s__law_cell_at) (defScope s__law_cell_at) .none kV3 dc3 pm3 an3 cd3 ct3), sl3⟩) (c3 : PySem.W.codeIn K cd3 "_law_cell_at" = true) (k3 : PySem.W.keepIn K (.ref g3) = true)
    (a4 : PySem.W.nsIn K mainGlobals "_law_whole" = some (some (.ref g4))) (l4 : K.lookup g4 = some ⟨oc4, od4, .func (PySem.W.fnOf "_law_whole" "_law_whole" (defArgs s__law_whole) (defBody s__law_whole) (defScope s__law_whole) .none kV4 dc4 pm4 an4 cd4 ct4), sl4⟩) (c4 : PySem.W.codeIn K cd4 "_law_whole" = true) (k4 : PySem.W.keepIn K (.ref g4) = true)
    (a5 : PySem.W.nsIn K mainGlobals "_law_block" = some (some (.ref g5))) (l5 : K.lookup g5 = some ⟨oc5, od5, .func (PySem.W.fnOf "_law_block" "_law_block" (defArgs s__law_block) (defBody s__law_block) (defScope s__law_block) .none kV5 dc5 pm5 an5 cd5 ct5), sl5⟩) (c5 : PySem.W.codeIn K cd5 "_law_block" = true) (k5 : PySem.W.keepIn K (.ref g5) = true)
    (a6 : PySem.W.nsIn K mainGlobals "_law_mixed" = some (some (.ref g6))) (l6 : K.lookup g6 = some ⟨oc6, od6, .func (PySem.W.fnOf "_law_mixed" "_law_mixed" (defArgs s__law_mixed) (defBody s__law_mixed) (defScope s__law_mixed) .none kV6 dc6 pm6 an6 cd6 ct6), sl6⟩) (c6 : PySem.W.codeIn K cd6 "_law_mixed" = true) (k6 : PySem.W.keepIn K (.ref g6) = true)
    (a7 : PySem.W.nsIn K mainGlobals "_law_divisor" = some (some (.ref g7))) (l7 : K.lookup g7 = some ⟨oc7, od7, .func (PySem.W.fnOf "_law_divisor" "_law_divisor" (defArgs s__law_divisor) (defBody s__law_divisor) (defScope s__law_divisor) .none kV7 dc7 pm7 an7 cd7 ct7), sl7⟩) (c7 : PySem.W.codeIn K cd7 "_law_divisor" = true) (k7 : PySem.W.keepIn K (.ref g7) = true)
    (a8 : PySem.W.nsIn K mainGlobals "_law_digits" = some (some (.ref g8))) (l8 : K.lookup g8 = some ⟨oc8, od8, .func (PySem.W.fnOf "_law_digits" "_law_digits" (defArgs s__law_digits) (defBody s__law_digits) (defScope s__law_digits) .none kV8 dc8 pm8 an8 cd8 ct8), sl8⟩) (c8 : PySem.W.codeIn K cd8 "_law_digits" = true) (k8 : PySem.W.keepIn K (.ref g8) = true)
    (a9 : PySem.W.nsIn K mainGlobals "_law_plain" = some (some (.ref g9))) (l9 : K.lookup g9 = some ⟨oc9, od9, .func (PySem.W.fnOf "_law_plain" "_law_plain" (defArgs s__law_plain) (defBody s__law_plain) (defScope s__law_plain) .none kV9 dc9 pm9 an9 cd9 ct9), sl9⟩) (c9 : PySem.W.codeIn K cd9 "_law_plain" = true) (k9 : PySem.W.keepIn K (.ref g9) = true)
    (a10 : PySem.W.nsIn K mainGlobals "_law_fences" = some (some (.ref g10))) (l10 : K.lookup g10 = some ⟨oc10, od10, .func (PySem.W.fnOf "_law_fences" "_law_fences" (defArgs s__law_fences) (defBody s__law_fences) (defScope s__law_fences) .none kV10 dc10 pm10 an10 cd10 ct10), sl10⟩) (c10 : PySem.W.codeIn K cd10 "_law_fences" = true) (k10 : PySem.W.keepIn K (.ref g10) = true)
    (a11 : PySem.W.nsIn K mainGlobals "_law_spoiled" = some (some (.ref g11))) (l11 : K.lookup g11 = some ⟨oc11, od11, .func (PySem.W.fnOf "_law_spoiled" "_law_spoiled" (defArgs s__law_spoiled) (defBody s__law_spoiled) (defScope s__law_spoiled) .none kV11 dc11 pm11 an11 cd11 ct11), sl11⟩) (c11 : PySem.W.codeIn K cd11 "_law_spoiled" = true) (k11 : PySem.W.keepIn K (.ref g11) = true)
    (a12 : PySem.W.nsIn K mainGlobals "_law_due" = some (some (.ref g12))) (l12 : K.lookup g12 = some ⟨oc12, od12, .func (PySem.W.fnOf "_law_due" "_law_due" (defArgs s__law_due) (defBody s__law_due) (defScope s__law_due) .none kV12 dc12 pm12 an12 cd12 ct12), sl12⟩) (c12 : PySem.W.codeIn K cd12 "_law_due" = true) (k12 : PySem.W.keepIn K (.ref g12) = true)
    (a13 : PySem.W.nsIn K mainGlobals "_law_caught" = some (some (.ref g13))) (l13 : K.lookup g13 = some ⟨oc13, od13, .func (PySem.W.fnOf "_law_caught" "_law_caught" (defArgs s__law_caught) (defBody s__law_caught) (defScope s__law_caught) .none kV13 dc13 pm13 an13 cd13 ct13), sl13⟩) (c13 : PySem.W.codeIn K cd13 "_law_caught" = true) (k13 : PySem.W.keepIn K (.ref g13) = true)
    (a14 : PySem.W.nsIn K mainGlobals "law" = some (some (.ref g14))) (l14 : K.lookup g14 = some ⟨oc14, od14, .func (PySem.W.fnOf "law" "law" (defArgs s_law) (defBody s_law) (defScope s_law) .none kV14 dc14 pm14 an14 cd14 ct14), sl14⟩) (c14 : PySem.W.codeIn K cd14 "law" = true) (k14 : PySem.W.keepIn K (.ref g14) = true)
    (xa0 : PySem.W.nsIn K mainGlobals "WallError" = some (some (.ref e0)))
    (xa1 : PySem.W.nsIn K mainGlobals "NoNumber" = some (some (.ref e1)))
    (xa2 : PySem.W.nsIn K mainGlobals "NoLand" = some (some (.ref e2)))
    (xa3 : PySem.W.nsIn K mainGlobals "NoPlace" = some (some (.ref e3)))
    (xa4 : PySem.W.nsIn K mainGlobals "NoFace" = some (some (.ref e4)))
    (xa5 : PySem.W.nsIn K mainGlobals "NoWall" = some (some (.ref e5)))
    (xk0 : PySem.W.keepIn K (.ref e0) = true)
    (xb0 : PySem.W.subIn K (.ref e0) (.type "BaseException") = some true)
    (xt0 : PySem.W.typeIn K (.ref e0) = some (.type "type"))
    (xi0 : PySem.W.isClsIn K e0 = true)
    (xga0 : PySem.W.findIn K (.ref e0) "__getattribute__" = some (some (.builtin "BaseException.__getattribute__")))
    (xgg0 : PySem.W.findIn K (.ref e0) "__getattr__" = some none)
    (xha0 : PySem.W.findIn K (.ref e0) "__class__" = some (some (.builtin "object.__class__")))
    (xhd0 : PySem.W.hasDictIn K e0 = true)
    (xhm0 : PySem.W.mroIn K e0 (.type "object") = some true)
    (xsv0 : PySem.W.subIn K (.ref e0) (.type "ValueError") = some true)
    (xsn0 : PySem.W.subIn K (.type "NoneType") (.ref e0) = some false)
    (xx0 : PySem.W.excIn K e0 [.type "ValueError", .type "Exception", .type "BaseException", .type "object"] "ValueError.__new__" = true)
    (xk1 : PySem.W.keepIn K (.ref e1) = true)
    (xb1 : PySem.W.subIn K (.ref e1) (.type "BaseException") = some true)
    (xt1 : PySem.W.typeIn K (.ref e1) = some (.type "type"))
    (xi1 : PySem.W.isClsIn K e1 = true)
    (xga1 : PySem.W.findIn K (.ref e1) "__getattribute__" = some (some (.builtin "BaseException.__getattribute__")))
    (xgg1 : PySem.W.findIn K (.ref e1) "__getattr__" = some none)
    (xha1 : PySem.W.findIn K (.ref e1) "__class__" = some (some (.builtin "object.__class__")))
    (xhd1 : PySem.W.hasDictIn K e1 = true)
    (xhm1 : PySem.W.mroIn K e1 (.type "object") = some true)
    (xsv1 : PySem.W.subIn K (.ref e1) (.type "ValueError") = some true)
    (xsn1 : PySem.W.subIn K (.type "NoneType") (.ref e1) = some false)
    (xx1 : PySem.W.excIn K e1 [.type "ValueError", .type "Exception", .type "BaseException", .type "object"] "ValueError.__new__" = true)
    (xk2 : PySem.W.keepIn K (.ref e2) = true)
    (xb2 : PySem.W.subIn K (.ref e2) (.type "BaseException") = some true)
    (xt2 : PySem.W.typeIn K (.ref e2) = some (.type "type"))
    (xi2 : PySem.W.isClsIn K e2 = true)
    (xga2 : PySem.W.findIn K (.ref e2) "__getattribute__" = some (some (.builtin "BaseException.__getattribute__")))
    (xgg2 : PySem.W.findIn K (.ref e2) "__getattr__" = some none)
    (xha2 : PySem.W.findIn K (.ref e2) "__class__" = some (some (.builtin "object.__class__")))
    (xhd2 : PySem.W.hasDictIn K e2 = true)
    (xhm2 : PySem.W.mroIn K e2 (.type "object") = some true)
    (xsv2 : PySem.W.subIn K (.ref e2) (.type "ValueError") = some true)
    (xsn2 : PySem.W.subIn K (.type "NoneType") (.ref e2) = some false)
    (xx2 : PySem.W.excIn K e2 [.type "ValueError", .type "Exception", .type "BaseException", .type "object"] "ValueError.__new__" = true)
    (xk3 : PySem.W.keepIn K (.ref e3) = true)
    (xb3 : PySem.W.subIn K (.ref e3) (.type "BaseException") = some true)
    (xt3 : PySem.W.typeIn K (.ref e3) = some (.type "type"))
    (xi3 : PySem.W.isClsIn K e3 = true)
    (xga3 : PySem.W.findIn K (.ref e3) "__getattribute__" = some (some (.builtin "BaseException.__getattribute__")))
    (xgg3 : PySem.W.findIn K (.ref e3) "__getattr__" = some none)
    (xha3 : PySem.W.findIn K (.ref e3) "__class__" = some (some (.builtin "object.__class__")))
    (xhd3 : PySem.W.hasDictIn K e3 = true)
    (xhm3 : PySem.W.mroIn K e3 (.type "object") = some true)
    (xsv3 : PySem.W.subIn K (.ref e3) (.type "ValueError") = some true)
    (xsn3 : PySem.W.subIn K (.type "NoneType") (.ref e3) = some false)
    (xx3 : PySem.W.excIn K e3 [.type "ValueError", .type "Exception", .type "BaseException", .type "object"] "ValueError.__new__" = true)
    (xk4 : PySem.W.keepIn K (.ref e4) = true)
    (xb4 : PySem.W.subIn K (.ref e4) (.type "BaseException") = some true)
    (xt4 : PySem.W.typeIn K (.ref e4) = some (.type "type"))
    (xi4 : PySem.W.isClsIn K e4 = true)
    (xga4 : PySem.W.findIn K (.ref e4) "__getattribute__" = some (some (.builtin "BaseException.__getattribute__")))
    (xgg4 : PySem.W.findIn K (.ref e4) "__getattr__" = some none)
    (xha4 : PySem.W.findIn K (.ref e4) "__class__" = some (some (.builtin "object.__class__")))
    (xhd4 : PySem.W.hasDictIn K e4 = true)
    (xhm4 : PySem.W.mroIn K e4 (.type "object") = some true)
    (xsv4 : PySem.W.subIn K (.ref e4) (.type "ValueError") = some true)
    (xsn4 : PySem.W.subIn K (.type "NoneType") (.ref e4) = some false)
    (xx4 : PySem.W.excIn K e4 [.type "ValueError", .type "Exception", .type "BaseException", .type "object"] "ValueError.__new__" = true)
    (xk5 : PySem.W.keepIn K (.ref e5) = true)
    (xb5 : PySem.W.subIn K (.ref e5) (.type "BaseException") = some true)
    (xt5 : PySem.W.typeIn K (.ref e5) = some (.type "type"))
    (xi5 : PySem.W.isClsIn K e5 = true)
    (xga5 : PySem.W.findIn K (.ref e5) "__getattribute__" = some (some (.builtin "BaseException.__getattribute__")))
    (xgg5 : PySem.W.findIn K (.ref e5) "__getattr__" = some none)
    (xha5 : PySem.W.findIn K (.ref e5) "__class__" = some (some (.builtin "object.__class__")))
    (xhd5 : PySem.W.hasDictIn K e5 = true)
    (xhm5 : PySem.W.mroIn K e5 (.type "object") = some true)
    (xsv5 : PySem.W.subIn K (.ref e5) (.type "ValueError") = some true)
    (xsn5 : PySem.W.subIn K (.type "NoneType") (.ref e5) = some false)
    (xs00 : PySem.W.subIn K (.ref e0) (.ref e0) = some true)
    (xs01 : PySem.W.subIn K (.ref e0) (.ref e1) = some false)
    (xs02 : PySem.W.subIn K (.ref e0) (.ref e2) = some false)
    (xs03 : PySem.W.subIn K (.ref e0) (.ref e3) = some false)
    (xs04 : PySem.W.subIn K (.ref e0) (.ref e4) = some false)
    (xs05 : PySem.W.subIn K (.ref e0) (.ref e5) = some false)
    (xs10 : PySem.W.subIn K (.ref e1) (.ref e0) = some true)
    (xs11 : PySem.W.subIn K (.ref e1) (.ref e1) = some true)
    (xs12 : PySem.W.subIn K (.ref e1) (.ref e2) = some false)
    (xs13 : PySem.W.subIn K (.ref e1) (.ref e3) = some false)
    (xs14 : PySem.W.subIn K (.ref e1) (.ref e4) = some false)
    (xs15 : PySem.W.subIn K (.ref e1) (.ref e5) = some false)
    (xs20 : PySem.W.subIn K (.ref e2) (.ref e0) = some true)
    (xs21 : PySem.W.subIn K (.ref e2) (.ref e1) = some false)
    (xs22 : PySem.W.subIn K (.ref e2) (.ref e2) = some true)
    (xs23 : PySem.W.subIn K (.ref e2) (.ref e3) = some false)
    (xs24 : PySem.W.subIn K (.ref e2) (.ref e4) = some false)
    (xs25 : PySem.W.subIn K (.ref e2) (.ref e5) = some false)
    (xs30 : PySem.W.subIn K (.ref e3) (.ref e0) = some true)
    (xs31 : PySem.W.subIn K (.ref e3) (.ref e1) = some false)
    (xs32 : PySem.W.subIn K (.ref e3) (.ref e2) = some false)
    (xs33 : PySem.W.subIn K (.ref e3) (.ref e3) = some true)
    (xs34 : PySem.W.subIn K (.ref e3) (.ref e4) = some false)
    (xs35 : PySem.W.subIn K (.ref e3) (.ref e5) = some false)
    (xs40 : PySem.W.subIn K (.ref e4) (.ref e0) = some true)
    (xs41 : PySem.W.subIn K (.ref e4) (.ref e1) = some false)
    (xs42 : PySem.W.subIn K (.ref e4) (.ref e2) = some false)
    (xs43 : PySem.W.subIn K (.ref e4) (.ref e3) = some false)
    (xs44 : PySem.W.subIn K (.ref e4) (.ref e4) = some true)
    (xs45 : PySem.W.subIn K (.ref e4) (.ref e5) = some false)
    (xs50 : PySem.W.subIn K (.ref e5) (.ref e0) = some true)
    (xs51 : PySem.W.subIn K (.ref e5) (.ref e1) = some false)
    (xs52 : PySem.W.subIn K (.ref e5) (.ref e2) = some false)
    (xs53 : PySem.W.subIn K (.ref e5) (.ref e3) = some false)
    (xs54 : PySem.W.subIn K (.ref e5) (.ref e4) = some false)
    (xs55 : PySem.W.subIn K (.ref e5) (.ref e5) = some true)
    (xhn : PySem.W.specialIn K (.builtin "object.__class__") "__get__" = some (some (.builtin "getset_descriptor.__get__")))
    (xht : PySem.W.takesIn K (.builtin "object.__class__") = some true)
    (xL : K.lookup e5 = some (excClassObj nmW qW e5 NW_ bsW [.ref e0, .type "ValueError", .type "Exception", .type "BaseException", .type "object"] true snW subW abW colW ddW w0 w1 w2 w3 w5 "ValueError.__new__"))
    (xsa : PySem.W.findIn K (.ref e5) "__setattr__" = some (some (.builtin "object.__setattr__")))
    (xno : PySem.W.findIn K (.ref e5) "place" = some none)
    (xI : PySem.W.findIn K (.ref e5) "__init__" = some (some (.ref gI)))
    (xtI : PySem.W.typeIn K (.ref gI) = some (.type "function"))
    (xlI : K.lookup gI = some ⟨ocI, odI, .func (PySem.W.fnOf "__init__" "NoWall.__init__" (defArgs s_NWi) (defBody s_NWi) (defScope s_NWi) .none kVI dcI pmI anI cdI ctI), slI⟩)
    (xcI : PySem.W.codeIn K cdI "NoWall.__init__" = true)
    (xkI : PySem.W.keepIn K (.ref gI) = true)
    (z_ValueError : PySem.W.nsIn K mainGlobals "ValueError" = some none)
    (z_abs : PySem.W.nsIn K mainGlobals "abs" = some none)
    (z_any : PySem.W.nsIn K mainGlobals "any" = some none)
    (z_bool : PySem.W.nsIn K mainGlobals "bool" = some none)
    (z_int : PySem.W.nsIn K mainGlobals "int" = some none)
    (z_isinstance : PySem.W.nsIn K mainGlobals "isinstance" = some none)
    (z_len : PySem.W.nsIn K mainGlobals "len" = some none)
    (z_list : PySem.W.nsIn K mainGlobals "list" = some none)
    (z_min : PySem.W.nsIn K mainGlobals "min" = some none)
    (z_range : PySem.W.nsIn K mainGlobals "range" = some none)
    (z_tuple : PySem.W.nsIn K mainGlobals "tuple" = some none)
    (ht : ∀ ns : List Int, ns.length ≤ 63 → f_law [.list (ns.map .int)] = .ok (.sh (.bool true))) :
    ∃ fd : FuncData, (∀ (s : Shared) (v : Value), BindsTo s fd ⟨[v], []⟩ [("_law_script", v)]) ∧ ∀ base : Heap, K.In base → base.Ns mainGlobals mg → FnOk l.prog w K mg base (L2.CX l.prog w) 5 fa fd ["_law_script"] (spTrue K) := by
  have e := hfa.symm.trans (PySem.W.mg_of X G a14)
  cases e
  have T : Blt mg := ⟨PySem.W.mg_none_of X G z_ValueError, PySem.W.mg_none_of X G z_abs, PySem.W.mg_none_of X G z_any, PySem.W.mg_none_of X G z_bool, PySem.W.mg_none_of X G z_int, PySem.W.mg_none_of X G z_isinstance, PySem.W.mg_none_of X G z_len, PySem.W.mg_none_of X G z_list, PySem.W.mg_none_of X G z_min, PySem.W.mg_none_of X G z_range, PySem.W.mg_none_of X G z_tuple⟩
  have F0 := fun_mk (st := s_divisor) l0 c0 k0
  have b0 := F0.binds (ps := ["one", "other"]) fun _ _ _ _ _ _ us hl => match us, hl with | [_, _], _ => rfl
  have F1 := fun_mk (st := s_plain_wall) l1 c1 k1
  have b1 := F1.binds (ps := ["numbers"]) fun _ _ _ _ _ _ us hl => match us, hl with | [_], _ => rfl
  have F2 := fun_mk (st := s_looked) l2 c2 k2
  have b2 := F2.binds (ps := ["ways", "walls"]) fun _ _ _ _ _ _ us hl => match us, hl with | [_, _], _ => rfl
  have F3 := fun_mk (st := s__law_cell_at) l3 c3 k3
  have b3 := F3.binds (ps := ["_law_script", "_law_k"]) fun _ _ _ _ _ _ us hl => match us, hl with | [_, _], _ => rfl
  have F4 := fun_mk (st := s__law_whole) l4 c4 k4
  have b4 := F4.binds (ps := ["_law_found"]) fun _ _ _ _ _ _ us hl => match us, hl with | [_], _ => rfl
  have F5 := fun_mk (st := s__law_block) l5 c5 k5
  have b5 := F5.binds (ps := ["_law_script", "_law_k"]) fun _ _ _ _ _ _ us hl => match us, hl with | [_, _], _ => rfl
  have F6 := fun_mk (st := s__law_mixed) l6 c6 k6
  have b6 := F6.binds (ps := ["_law_script", "_law_k"]) fun _ _ _ _ _ _ us hl => match us, hl with | [_, _], _ => rfl
  have F7 := fun_mk (st := s__law_divisor) l7 c7 k7
  have b7 := F7.binds (ps := ["_law_one", "_law_other"]) fun _ _ _ _ _ _ us hl => match us, hl with | [_, _], _ => rfl
  have F8 := fun_mk (st := s__law_digits) l8 c8 k8
  have b8 := F8.binds (ps := ["_law_script", "_law_start", "_law_many", "_law_base"]) fun _ _ _ _ _ _ us hl => match us, hl with | [_, _, _, _], _ => rfl
  have F9 := fun_mk (st := s__law_plain) l9 c9 k9
  have b9 := F9.binds (ps := ["_law_row"]) fun _ _ _ _ _ _ us hl => match us, hl with | [_], _ => rfl
  have F10 := fun_mk (st := s__law_fences) l10 c10 k10
  have b10 := F10.binds (ps := ["_law_script", "_law_start", "_law_ways", "_law_many"]) fun _ _ _ _ _ _ us hl => match us, hl with | [_, _, _, _], _ => rfl
  have F11 := fun_mk (st := s__law_spoiled) l11 c11 k11
  have b11 := F11.binds (ps := ["_law_shuts", "_law_number"]) fun _ _ _ _ _ _ us hl => match us, hl with | [_, _], _ => rfl
  have F12 := fun_mk (st := s__law_due) l12 c12 k12
  have b12 := F12.binds (ps := ["_law_ways", "_law_shuts"]) fun _ _ _ _ _ _ us hl => match us, hl with | [_, _], _ => rfl
  have F13 := fun_mk (st := s__law_caught) l13 c13 k13
  have b13 := F13.binds (ps := ["_law_ways", "_law_shuts"]) fun _ _ _ _ _ _ us hl => match us, hl with | [_, _], _ => rfl
  have F14 := fun_mk (st := s_law) l14 c14 k14
  have b14 := F14.binds (ps := ["_law_script"]) fun _ _ _ _ _ _ us hl => match us, hl with | [_], _ => rfl
  refine ⟨PySem.W.fnOf "law" "law" (defArgs s_law) (defBody s_law) (defScope s_law) .none kV14 dc14 pm14 an14 cd14 ct14, fun s v => .of_eq rfl, fun base _ _ => ?_⟩
  have TX : EX K mg (caL [e0, e1, e2, e3, e4, e5]) := ⟨fun i hi => match i, hi with
      | 0, _ => ⟨PySem.W.mg_of X G xa0, xk0, xb0, xt0, xi0, xga0, xgg0, xha0, xhd0, xhm0, xsv0, xsn0⟩
      | 1, _ => ⟨PySem.W.mg_of X G xa1, xk1, xb1, xt1, xi1, xga1, xgg1, xha1, xhd1, xhm1, xsv1, xsn1⟩
      | 2, _ => ⟨PySem.W.mg_of X G xa2, xk2, xb2, xt2, xi2, xga2, xgg2, xha2, xhd2, xhm2, xsv2, xsn2⟩
      | 3, _ => ⟨PySem.W.mg_of X G xa3, xk3, xb3, xt3, xi3, xga3, xgg3, xha3, xhd3, xhm3, xsv3, xsn3⟩
      | 4, _ => ⟨PySem.W.mg_of X G xa4, xk4, xb4, xt4, xi4, xga4, xgg4, xha4, xhd4, xhm4, xsv4, xsn4⟩
      | 5, _ => ⟨PySem.W.mg_of X G xa5, xk5, xb5, xt5, xi5, xga5, xgg5, xha5, xhd5, xhm5, xsv5, xsn5⟩
      | n + 6, h => absurd h (by unfold eOk; omega), fun i j hi hj => match i, j, hi, hj with
      | 0, 0, _, _ => xs00
      | 0, 1, _, _ => xs01
      | 0, 2, _, _ => xs02
      | 0, 3, _, _ => xs03
      | 0, 4, _, _ => xs04
      | 0, 5, _, _ => xs05
      | 1, 0, _, _ => xs10
      | 1, 1, _, _ => xs11
      | 1, 2, _, _ => xs12
      | 1, 3, _, _ => xs13
      | 1, 4, _, _ => xs14
      | 1, 5, _, _ => xs15
      | 2, 0, _, _ => xs20
      | 2, 1, _, _ => xs21
      | 2, 2, _, _ => xs22
      | 2, 3, _, _ => xs23
      | 2, 4, _, _ => xs24
      | 2, 5, _, _ => xs25
      | 3, 0, _, _ => xs30
      | 3, 1, _, _ => xs31
      | 3, 2, _, _ => xs32
      | 3, 3, _, _ => xs33
      | 3, 4, _, _ => xs34
      | 3, 5, _, _ => xs35
      | 4, 0, _, _ => xs40
      | 4, 1, _, _ => xs41
      | 4, 2, _, _ => xs42
      | 4, 3, _, _ => xs43
      | 4, 4, _, _ => xs44
      | 4, 5, _, _ => xs45
      | 5, 0, _, _ => xs50
      | 5, 1, _, _ => xs51
      | 5, 2, _, _ => xs52
      | 5, 3, _, _ => xs53
      | 5, 4, _, _ => xs54
      | 5, 5, _, _ => xs55
      | n + 6, _, h, _ => absurd h (by unfold eOk; omega)
      | _, n + 6, _, h => absurd h (by unfold eOk; omega), xhn, xht, fun i hi h5 => match i, hi, h5 with
      | 0, _, _ => xx0
      | 1, _, _ => xx1
      | 2, _, _ => xx2
      | 3, _, _ => xx3
      | 4, _, _ => xx4
      | n + 5, _, h => absurd h (by omega)⟩
  have exNo : PySem.W.findIn K (.ref (caL [e0, e1, e2, e3, e4, e5] 5)) "place" = some none := xno
  have FI := fun_mk (st := s_NWi) xlI xcI xkI
  have bI := FI.binds (ps := ["self", "place"]) fun _ _ _ _ _ _ us hl => match us, hl with | [_, _], _ => rfl
  have TO : OexC K (caL [e0, e1, e2, e3, e4, e5] 5) := ⟨⟨nmW, qW, NW_, bsW, _, snW, subW, abW, colW, ddW, w0, w1, w2, w3, w5, xL, (show HandSPX.refsVE [.type "ValueError", .type "Exception", .type "BaseException", .type "object"] = true by decide +kernel)⟩, xsa, xb5, xt5, xk5⟩
  have NX : NW l.prog w K mg base (caL [e0, e1, e2, e3, e4, e5]) := ⟨TO, ⟨gI, _, xI, xtI, ok_NWi FI TO xno, bI⟩⟩
  have C_divisor : Callee l.prog w K mg base (caL [e0, e1, e2, e3, e4, e5]) "divisor" 1 f_divisor 2 := callee_of F0 (ok_divisor T  F0) (PySem.W.mg_of X G a0) b0
  have C__law_cell_at : Callee l.prog w K mg base (caL [e0, e1, e2, e3, e4, e5]) "_law_cell_at" 1 f__law_cell_at 2 := callee_of F3 (ok__law_cell_at T  F3) (PySem.W.mg_of X G a3) b3
  have C__law_whole : Callee l.prog w K mg base (caL [e0, e1, e2, e3, e4, e5]) "_law_whole" 1 f__law_whole 1 := callee_of F4 (ok__law_whole T  F4) (PySem.W.mg_of X G a4) b4
  have C__law_block : Callee l.prog w K mg base (caL [e0, e1, e2, e3, e4, e5]) "_law_block" 1 f__law_block 2 := callee_of F5 (ok__law_block T  F5) (PySem.W.mg_of X G a5) b5
  have C__law_divisor : Callee l.prog w K mg base (caL [e0, e1, e2, e3, e4, e5]) "_law_divisor" 1 f__law_divisor 2 := callee_of F7 (ok__law_divisor T  F7) (PySem.W.mg_of X G a7) b7
  have C__law_spoiled : CalleeM l.prog w K mg base (caL [e0, e1, e2, e3, e4, e5]) "_law_spoiled" 1 f__law_spoiled 2 := calleeM_of F11 (ok__law_spoiled T  F11) (PySem.W.mg_of X G a11) b11
  have C_plain_wall : Callee l.prog w K mg base (caL [e0, e1, e2, e3, e4, e5]) "plain_wall" 2 f_plain_wall 1 := callee_of F1 (ok_plain_wall T C_divisor F1) (PySem.W.mg_of X G a1) b1
  have C__law_mixed : Callee l.prog w K mg base (caL [e0, e1, e2, e3, e4, e5]) "_law_mixed" 2 f__law_mixed 2 := callee_of F6 (ok__law_mixed T C__law_block F6) (PySem.W.mg_of X G a6) b6
  have C__law_plain : Callee l.prog w K mg base (caL [e0, e1, e2, e3, e4, e5]) "_law_plain" 2 f__law_plain 1 := callee_of F9 (ok__law_plain T C__law_divisor F9) (PySem.W.mg_of X G a9) b9
  have C_looked : Callee l.prog w K mg base (caL [e0, e1, e2, e3, e4, e5]) "looked" 3 f_looked 2 := callee_of F2 (ok_looked T C_plain_wall TX NX F2) (PySem.W.mg_of X G a2) b2
  have C__law_digits : Callee l.prog w K mg base (caL [e0, e1, e2, e3, e4, e5]) "_law_digits" 3 f__law_digits 4 := callee_of F8 (ok__law_digits T C__law_cell_at C__law_mixed F8) (PySem.W.mg_of X G a8) b8
  have C__law_due : Callee l.prog w K mg base (caL [e0, e1, e2, e3, e4, e5]) "_law_due" 3 f__law_due 2 := callee_of F12 (ok__law_due T C__law_plain F12) (PySem.W.mg_of X G a12) b12
  have C__law_fences : Callee l.prog w K mg base (caL [e0, e1, e2, e3, e4, e5]) "_law_fences" 4 f__law_fences 4 := callee_of F10 (ok__law_fences T C__law_digits C__law_plain F10) (PySem.W.mg_of X G a10) b10
  have C__law_caught : Callee l.prog w K mg base (caL [e0, e1, e2, e3, e4, e5]) "_law_caught" 4 f__law_caught 2 := callee_of F13 (ok__law_caught T C_looked TX F13) (PySem.W.mg_of X G a13) b13
  exact law_of (ca := (caL [e0, e1, e2, e3, e4, e5])) (ok_law T C_looked C__law_cell_at C__law_whole C__law_mixed C__law_fences C__law_spoiled C__law_due C__law_caught TX NX exNo F14) ht
theorem walk {l : PySem.W.OpenLaw} {q : Program} {loose : List Str} {XP : (Str → Option Value) → Heap → Prop} {YP : World → Heap → Prop} {d : DefRec} {K : Params → PySem.W.Frag} (hn : l.most = some 63) (hdf : d.params.defaults = [])
    (hY : ∀ (w : World) (h : Heap), YP w h → (K w.params).In h)
    (F : ∀ (w : World) (mg : Str → Option Value) (fa : Addr) (h : Heap), (K w.params).In h → h.Ns mainGlobals mg → mg d.name = some (.ref fa) →
      ∃ fd : FuncData, (∀ (s : Shared) (u : Value), BindsTo s fd ⟨[u], []⟩ [("_law_script", u)]) ∧ ∀ base : Heap, (K w.params).In base → base.Ns mainGlobals mg → FnOk l.prog w (K w.params) mg base (L2.CX l.prog w) 5 fa fd ["_law_script"] (spTrue (K w.params))) :
    PySem.W.WalkO q loose XP YP l.row.toRowW d [] (fun f vs => PySem.call f vs) :=
  L2.walk_of (n := 63) (k := 5) (x := "_law_script") (CX := fun w => L2.CX l.prog w) (sp := fun w => spTrue (K w.params)) hn (by decide) hdf ⟨rfl, by decide, by decide⟩ hY F (fun _ _ a ns hl _ hS => ⟨a, ns, rfl, hS, hl, fun _ => rfl⟩) fun _ _ _ _ _ z => by obtain ⟨_, _, _, _, _, _, _, _, _, _, _, _, z⟩ := z; exact z
end PF

namespace PF
open PySem L2

/-! ### plain values as data -/
def eI (i : Int) : PyData := .int i
def eB (b : Bool) : PyData := .bool b
def eN (_ : Unit) : PyData := .none
def eL {α : Type} (e : α → PyData) (xs : List α) : PyData := .list (xs.map e)
def eT {α : Type} (e : α → PyData) (xs : List α) : PyData := .tuple (xs.map e)
def eP {α β : Type} (e : α → PyData) (f : β → PyData) (p : α × β) : PyData := .tuple [e p.1, f p.2]
def eP3 {α β γ : Type} (e : α → PyData) (f : β → PyData) (g : γ → PyData) (p : α × β × γ) : PyData := .tuple [e p.1, f p.2.1, g p.2.2]
def eH {α β : Type} (e : α → PyData) (f : β → PyData) (p : α × β) : PyData := .list [e p.1, f p.2]
def eO {α : Type} (e : α → PyData) : Option α → PyData
  | none => .none
  | some a => e a

/-! ### what is known of the slots -/
inductive Kd where
  | no
  | sh (d : PyData)
  | ol (ds : List PyData)
  | ei (ds : List PyData)
  | od (kvs : List (List Int × PyData))
  | ex (o : Option Exn)
def Kd.ok : Kd → Sl → Prop
  | .no, _ => True
  | .sh d, s => s = .sh d
  | .ol ds, s => s = .ol ds
  | .ei ds, s => s = .sh (.list ds) ∨ s = .ol ds
  | .od kvs, s => s = .od kvs
  | .ex none, s => s = .sh .none
  | .ex (some x), s => s = .exn x
def Kn : List Kd → Env → Prop
  | [], [] => True
  | k :: ks, s :: ρ => k.ok s ∧ Kn ks ρ
  | _, _ => False
theorem Kn.get : ∀ {κ : List Kd} {ρ : Env} {i : Nat} {k : Kd}, Kn κ ρ → κ[i]? = some k → ∃ s, ρ[i]? = some s ∧ k.ok s
  | [], [], i, k, _, h => by simp at h
  | _ :: _, [], _, _, h, _ => h.elim
  | [], _ :: _, _, _, h, _ => h.elim
  | a :: κ, s :: ρ, 0, k, h, e => by
    simp at e
    subst e
    exact ⟨s, rfl, h.1⟩
  | a :: κ, s :: ρ, i + 1, k, h, e => Kn.get (i := i) h.2 (by simpa using e)
theorem Kn.set : ∀ {κ : List Kd} {ρ : Env} (i : Nat) {k : Kd} {s : Sl}, Kn κ ρ → k.ok s → Kn (κ.set i k) (ρ.set i s)
  | [], [], _, _, _, _, _ => trivial
  | _ :: _, [], _, _, _, h, _ => h.elim
  | [], _ :: _, _, _, _, h, _ => h.elim
  | a :: κ, b :: ρ, 0, k, s, h, q => ⟨q, h.2⟩
  | a :: κ, b :: ρ, i + 1, k, s, h, q => ⟨h.1, Kn.set i h.2 q⟩
theorem Kn.len : ∀ {κ : List Kd} {ρ : Env}, Kn κ ρ → ρ.length = κ.length
  | [], [], _ => rfl
  | _ :: _, [], h => h.elim
  | [], _ :: _, h => h.elim
  | _ :: κ, _ :: ρ, h => congrArg (· + 1) (Kn.len h.2)
def Kd.le (a b : Kd) : Prop := ∀ s, a.ok s → b.ok s
theorem le_rf {k : Kd} : k.le k := fun _ h => h
theorem le_no {k : Kd} : k.le .no := fun _ _ => trivial
theorem le_oe {ds : List PyData} : (Kd.ol ds).le (.ei ds) := fun _ h => .inr h
theorem le_se {ds : List PyData} : (Kd.sh (.list ds)).le (.ei ds) := fun _ h => .inl h
def Kle (κ κ' : List Kd) : Prop := ∀ ρ, Kn κ ρ → Kn κ' ρ
theorem kle_rf {κ : List Kd} : Kle κ κ := fun _ h => h
theorem kle_nil : Kle [] [] := fun _ h => h
theorem kle_cons {k k' : Kd} {κ κ' : List Kd} (h : k.le k') (t : Kle κ κ') : Kle (k :: κ) (k' :: κ') := fun ρ q => match ρ, q with
  | [], q => q.elim
  | s :: ρ, q => ⟨h s q.1, t ρ q.2⟩

/-! ### plain terms -/
def lt {α β : Type} (v : α) (f : α → β) : β := f v
def dlt {α : Type} (v : α) (f : α → Prop) : Prop := f v
def orr {σ τ : Type} (r : σ ⊕ τ) (k : σ → τ) : τ := match r with
  | .inl s => k s
  | .inr t => t
def orD {σ τ : Type} (r : σ ⊕ τ) (k : σ → Prop) : Prop := match r with
  | .inl s => k s
  | .inr _ => True
def orb {σ σ' τ : Type} (r : σ ⊕ τ) (k : σ → σ' ⊕ τ) : σ' ⊕ τ := match r with
  | .inl s => k s
  | .inr t => .inr t
def foldE {α σ τ : Type} (f : σ → α → σ ⊕ τ) : List α → σ → σ ⊕ τ
  | [], s => .inl s
  | x :: xs, s => match f s x with
    | .inl s' => foldE f xs s'
    | .inr t => .inr t
def forD {α σ : Type} (f : σ → α → σ) (D : σ → α → Prop) : List α → σ → Prop
  | [], _ => True
  | x :: xs, s => D s x ∧ forD f D xs (f s x)
def forDE {α σ τ : Type} (f : σ → α → σ ⊕ τ) (D : σ → α → Prop) : List α → σ → Prop
  | [], _ => True
  | x :: xs, s => D s x ∧ match f s x with
    | .inl s' => forDE f D xs s'
    | .inr _ => True
theorem ifT {c : Bool} {A B : Prop} (h : if c = true then A else B) (q : c = true) : A := by rwa [if_pos q] at h
theorem ifF {c : Bool} {A B : Prop} (h : if c = true then A else B) (q : c = false) : B := by rwa [if_neg (by rw [q]; exact Bool.false_ne_true)] at h

/-! ### judgements -/
def E (F : Env → Rs PyData) (κ : List Kd) (d : PyData) : Prop := ∀ ρ, Kn κ ρ → F ρ = .ok d
def EC (F : Env → Rs Bool) (κ : List Kd) (b : Bool) : Prop := ∀ ρ, Kn κ ρ → F ρ = .ok b
def EA (F : Env → Rs (List PyData)) (κ : List Kd) (ds : List PyData) : Prop := ∀ ρ, Kn κ ρ → F ρ = .ok ds
def EO (F : Env → Rs (Option Int)) (κ : List Kd) (o : Option Int) : Prop := ∀ ρ, Kn κ ρ → F ρ = .ok o
def EV (F : Env → Rs Sl) (κ : List Kd) (k : Kd) : Prop := ∀ ρ, Kn κ ρ → ∃ s, F ρ = .ok s ∧ k.ok s
def EI {α : Type} (F : Env → Rs (List PyData)) (κ : List Kd) (e : α → PyData) (xs : List α) : Prop := ∀ ρ, Kn κ ρ → F ρ = .ok (xs.map e)
def TG (T : Tgt) (κ : List Kd) (d : PyData) (κ' : List Kd) : Prop := ∀ ρ, Kn κ ρ → ∃ ρ', T d ρ = some ρ' ∧ Kn κ' ρ'
def Sn (A : Env → Rs Out) (κ κ' : List Kd) : Prop := ∀ ρ, Kn κ ρ → ∃ ρ', A ρ = .ok (.nx ρ') ∧ Kn κ' ρ'
def Nb {σ : Type} (A : Env → Rs Out) (κ : List Kd) (κ1 : σ → List Kd) (v : σ) : Prop := Sn A κ (κ1 v)
def Rb {σ τ : Type} (A : Env → Rs Out) (κ : List Kd) (κ1 : σ → List Kd) (en : τ → Kd) (r : σ ⊕ τ) : Prop := ∀ ρ, Kn κ ρ → match r with
  | .inl s => ∃ ρ', A ρ = .ok (.nx ρ') ∧ Kn (κ1 s) ρ'
  | .inr t => ∃ s, A ρ = .ok (.rt s) ∧ (en t).ok s
def Fin {τ : Type} (A : Env → Rs Out) (κ : List Kd) (en : τ → Kd) (r : τ) : Prop := ∀ ρ, Kn κ ρ → ∃ s, outV (A ρ) = .ok s ∧ (en r).ok s
def Cal (f : List PyData → Rs Sl) (ds : List PyData) (k : Kd) : Prop := ∃ s, f ds = .ok s ∧ k.ok s

section
variable {κ κ' κ1 : List Kd} {F G : Env → Rs PyData} {Fs : Env → Rs (List PyData)} {Fv : Env → Rs Sl} {Fb Gb : Env → Rs Bool} {Fl Fh : Env → Rs (Option Int)} {α β γ : Type} {d : PyData} {ds : List PyData} {a b : Int} {i j : Nat}
/-! names, constants -/
theorem t_b (i : Nat) (h : κ[i]? = some (.sh d)) : E (fVarB i) κ d := fun ρ q => by
  obtain ⟨s, e, rfl⟩ := q.get h
  show slB ρ[i]? = _
  rw [e]; rfl
theorem t_bo (i : Nat) {e : α → PyData} {xs : List α} (h : κ[i]? = some (.ol (xs.map e))) : E (fVarB i) κ (eL e xs) := fun ρ q => by
  obtain ⟨s, e, rfl⟩ := q.get h
  show slB ρ[i]? = _
  rw [e]; rfl
theorem t_be (i : Nat) {e : α → PyData} {xs : List α} (h : κ[i]? = some (.ei (xs.map e))) : E (fVarB i) κ (eL e xs) := fun ρ q => by
  obtain ⟨s, e, r⟩ := q.get h
  show slB ρ[i]? = _
  rcases r with rfl | rfl <;> rw [e] <;> rfl
theorem t_s (i : Nat) (h : κ[i]? = some (.sh d)) : E (fVarS i) κ d := fun ρ q => by
  obtain ⟨s, e, rfl⟩ := q.get h
  show slS ρ[i]? = _
  rw [e]; rfl
theorem t_c (d : PyData) : E (fC d) κ d := fun _ _ => rfl
theorem t_int (i : Int) : E (fC (.int i)) κ (eI i) := fun _ _ => rfl
theorem t_bl (i : Bool) : E (fC (.bool i)) κ (eB i) := fun _ _ => rfl
theorem t_non : E (fC .none) κ (eN ()) := fun _ _ => rfl
/-! narrowing -/
theorem t_nar {e : α → PyData} {o : Option α} [Inhabited α] (h : E F κ (eO e o)) (q : o.isSome = true) : E F κ (e (o.getD default)) := by
  cases o with
  | none => cases q
  | some a => exact h
theorem k_nar {e : α → PyData} {o : Option α} [Inhabited α] (q : o.isSome = true) : eO e o = e (o.getD default) := by
  cases o with
  | none => cases q
  | some a => rfl
/-! shared or not -/
theorem v_s (h : E F κ d) : EV (fV F) κ (.sh d) := fun ρ q => ⟨_, by show (F ρ >>= fun d => Rs.ok (Sl.sh d)) = _; rw [h ρ q]; rfl, rfl⟩
theorem s_sh (h : EV Fv κ (.sh d)) : E (fSh Fv) κ d := fun ρ q => by
  obtain ⟨s, e, rfl⟩ := h ρ q
  show (Fv ρ >>= slShare) = _
  rw [e]; rfl
theorem s_ol {e : α → PyData} {xs : List α} (h : EV Fv κ (.ol (xs.map e))) : E (fSh Fv) κ (eL e xs) := fun ρ q => by
  obtain ⟨s, e, rfl⟩ := h ρ q
  show (Fv ρ >>= slShare) = _
  rw [e]; rfl
theorem s_ei {e : α → PyData} {xs : List α} (h : EV Fv κ (.ei (xs.map e))) : E (fSh Fv) κ (eL e xs) := fun ρ q => by
  obtain ⟨s, e, r⟩ := h ρ q
  show (Fv ρ >>= slShare) = _
  rcases r with rfl | rfl <;> rw [e] <;> rfl
theorem v_le {k k' : Kd} (h : EV Fv κ k) (l : k.le k') : EV Fv κ k' := fun ρ q => by
  obtain ⟨s, e, r⟩ := h ρ q
  exact ⟨s, e, l s r⟩
/-! operators -/
theorem t_op {f : PyData → PyData → Rs PyData} {x y z : PyData} (ha : E F κ x) (hb : E G κ y) (h : f x y = .ok z) : E (fOp f F G) κ z := fun ρ q => by
  show (F ρ >>= fun a => G ρ >>= fun b => f a b) = _
  rw [ha ρ q, z_ok, hb ρ q, z_ok, h]
theorem v_op {f : PyData → PyData → Rs Sl} {x y : PyData} {z : Sl} {k : Kd} (ha : E F κ x) (hb : E G κ y) (h : f x y = .ok z) (hk : k.ok z) : EV (fOp f F G) κ k := fun ρ q => ⟨z, by
  show (F ρ >>= fun a => G ρ >>= fun b => f a b) = _
  rw [ha ρ q, z_ok, hb ρ q, z_ok, h], hk⟩
theorem t_un {f : PyData → Rs PyData} {x z : PyData} (ha : E F κ x) (h : f x = .ok z) : E (fUn f F) κ z := fun ρ q => by
  show (F ρ >>= f) = _
  rw [ha ρ q, z_ok, h]
theorem v_un {f : PyData → Rs Sl} {x : PyData} {z : Sl} {k : Kd} (ha : E F κ x) (h : f x = .ok z) (hk : k.ok z) : EV (fUn f F) κ k := fun ρ q => ⟨z, by
  show (F ρ >>= f) = _
  rw [ha ρ q, z_ok, h], hk⟩
theorem t_sub (ha : E F κ (eI a)) (hb : E G κ (eI b)) : E (fOp subD F G) κ (eI (a - b)) := t_op ha hb rfl
theorem t_mul (ha : E F κ (eI a)) (hb : E G κ (eI b)) (h : mulOk a b) : E (fOp mulD F G) κ (eI (a * b)) := t_op ha hb (mulD_ok h)
theorem t_div (ha : E F κ (eI a)) (hb : E G κ (eI b)) (h : divOk a b) : E (fOp divD F G) κ (eI (a.fdiv b)) := t_op ha hb (divD_ok h)
theorem t_mod (ha : E F κ (eI a)) (hb : E G κ (eI b)) (h : b ≠ 0) : E (fOp modD F G) κ (eI (a.fmod b)) := t_op ha hb (modD_ok h)
theorem t_pow (ha : E F κ (eI a)) (hb : E G κ (eI b)) (h : powOk a b) : E (fOp powD F G) κ (eI (a ^ b.toNat)) := t_op ha hb (powD_ok h)
theorem t_neg (ha : E F κ (eI a)) : E (fUn negD F) κ (eI (-a)) := t_un ha rfl
theorem t_lt (ha : E F κ (eI a)) (hb : E G κ (eI b)) : E (fOp ltD F G) κ (eB (decide (a < b))) := t_op ha hb rfl
theorem t_le (ha : E F κ (eI a)) (hb : E G κ (eI b)) : E (fOp leD F G) κ (eB (decide (a ≤ b))) := t_op ha hb rfl
theorem t_gt (ha : E F κ (eI a)) (hb : E G κ (eI b)) : E (fOp gtD F G) κ (eB (decide (b < a))) := t_op ha hb rfl
theorem t_ge (ha : E F κ (eI a)) (hb : E G κ (eI b)) : E (fOp geD F G) κ (eB (decide (b ≤ a))) := t_op ha hb rfl
theorem v_addI (ha : E F κ (eI a)) (hb : E G κ (eI b)) : EV (fOp addD F G) κ (.sh (eI (a + b))) := v_op ha hb rfl rfl
theorem v_addL {e : α → PyData} {xs ys : List α} (ha : E F κ (eL e xs)) (hb : E G κ (eL e ys)) (h : xs.length + ys.length ≤ lim) : EV (fOp addD F G) κ (.ol ((xs ++ ys).map e)) := by
  refine v_op ha hb (addD_list (by rw [List.length_map, List.length_map]; exact h)) ?_
  show _ = Sl.ol _
  rw [List.map_append]
theorem v_addT {e : α → PyData} {xs ys : List α} (ha : E F κ (eT e xs)) (hb : E G κ (eT e ys)) (h : xs.length + ys.length ≤ lim) : EV (fOp addD F G) κ (.sh (eT e (xs ++ ys))) := by
  refine v_op ha hb (addD_tuple (by rw [List.length_map, List.length_map]; exact h)) ?_
  show _ = Sl.sh (.tuple _)
  rw [List.map_append]
/-! items -/
theorem getP_map {e : α → PyData} [Inhabited α] {xs : List α} {k : Int} (h : 0 ≤ k ∧ k < xs.length) : getP (xs.map e) k = .ok (e (xs.getD k.toNat default)) := by
  refine getP_int h.1 ?_
  have : k.toNat < xs.length := by omega
  rw [List.getElem?_map, List.getElem?_eq_getElem this, List.getD_eq_getElem?_getD, List.getElem?_eq_getElem this]
  rfl
theorem getP_mapL {e : α → PyData} [Inhabited α] {xs : List α} (h : xs ≠ []) : getP (xs.map e) (-1) = .ok (e (xs.getLastD default)) := by
  obtain ⟨ys, y, rfl⟩ : ∃ ys y, xs = ys ++ [y] := ⟨xs.dropLast, xs.getLast h, (List.dropLast_concat_getLast h).symm⟩
  rw [List.map_append, List.map_singleton, ix_last]
  simp
theorem t_ixL {e : α → PyData} [Inhabited α] {xs : List α} (ha : E F κ (eL e xs)) (hb : E G κ (eI b)) (h : 0 ≤ b ∧ b < xs.length) : E (fOp ixD F G) κ (e (xs.getD b.toNat default)) := t_op ha hb (getP_map h)
theorem t_ixT {e : α → PyData} [Inhabited α] {xs : List α} (ha : E F κ (eT e xs)) (hb : E G κ (eI b)) (h : 0 ≤ b ∧ b < xs.length) : E (fOp ixD F G) κ (e (xs.getD b.toNat default)) := t_op ha hb (getP_map h)
theorem t_ixL1 {e : α → PyData} [Inhabited α] {xs : List α} (ha : E F κ (eL e xs)) (hb : E G κ (eI (-1))) (h : xs ≠ []) : E (fOp ixD F G) κ (e (xs.getLastD default)) := t_op ha hb (getP_mapL h)
theorem t_ixT1 {e : α → PyData} [Inhabited α] {xs : List α} (ha : E F κ (eT e xs)) (hb : E G κ (eI (-1))) (h : xs ≠ []) : E (fOp ixD F G) κ (e (xs.getLastD default)) := t_op ha hb (getP_mapL h)
theorem t_ixP0 {e : α → PyData} {f : β → PyData} {p : α × β} (ha : E F κ (eP e f p)) (hb : E G κ (eI 0)) : E (fOp ixD F G) κ (e p.1) := t_op ha hb (show getP [e p.1, f p.2] 0 = .ok _ from z_get0 _ _)
theorem t_ixP1 {e : α → PyData} {f : β → PyData} {p : α × β} (ha : E F κ (eP e f p)) (hb : E G κ (eI 1)) : E (fOp ixD F G) κ (f p.2) := t_op ha hb (show getP [e p.1, f p.2] 1 = .ok _ from z_get1 _ _ _)
theorem t_ixQ0 {e : α → PyData} {f : β → PyData} {g : γ → PyData} {p : α × β × γ} (ha : E F κ (eP3 e f g p)) (hb : E G κ (eI 0)) : E (fOp ixD F G) κ (e p.1) := t_op ha hb (show getP [e p.1, f p.2.1, g p.2.2] 0 = .ok _ from z_get0 _ _)
theorem t_ixQ1 {e : α → PyData} {f : β → PyData} {g : γ → PyData} {p : α × β × γ} (ha : E F κ (eP3 e f g p)) (hb : E G κ (eI 1)) : E (fOp ixD F G) κ (f p.2.1) := t_op ha hb (show getP [e p.1, f p.2.1, g p.2.2] 1 = .ok _ from z_get1 _ _ _)
theorem t_ixQ2 {e : α → PyData} {f : β → PyData} {g : γ → PyData} {p : α × β × γ} (ha : E F κ (eP3 e f g p)) (hb : E G κ (eI 2)) : E (fOp ixD F G) κ (g p.2.2) := t_op ha hb (show getP [e p.1, f p.2.1, g p.2.2] 2 = .ok _ from z_get2 _ _ _ _)
theorem t_ixH0 {e : α → PyData} {f : β → PyData} {p : α × β} (ha : E F κ (eH e f p)) (hb : E G κ (eI 0)) : E (fOp ixD F G) κ (e p.1) := t_op ha hb (show getP [e p.1, f p.2] 0 = .ok _ from z_get0 _ _)
theorem t_ixH1 {e : α → PyData} {f : β → PyData} {p : α × β} (ha : E F κ (eH e f p)) (hb : E G κ (eI 1)) : E (fOp ixD F G) κ (f p.2) := t_op ha hb (show getP [e p.1, f p.2] 1 = .ok _ from z_get1 _ _ _)
/-! slices -/
theorem o_none : EO fNone κ none := fun _ _ => rfl
theorem o_some (h : E F κ (eI a)) : EO (fSome F) κ (some a) := fun ρ q => by
  show (F ρ >>= fun d => intOf d >>= fun i => Rs.ok (some i)) = _
  rw [h ρ q]; rfl
theorem v_sl {x : PyData} {lo hi : Option Int} {z : Sl} {k : Kd} (ha : E F κ x) (hl : EO Fl κ lo) (hh : EO Fh κ hi) (h : slD x lo hi = .ok z) (hk : k.ok z) : EV (fSl F Fl Fh) κ k := fun ρ q => ⟨z, by
  show (F ρ >>= fun a => Fl ρ >>= fun l => Fh ρ >>= fun h => slD a l h) = _
  rw [ha ρ q, z_ok, hl ρ q, z_ok, hh ρ q, z_ok, h], hk⟩
def sTake {α : Type} (xs : List α) (b : Int) : List α := xs.take b.toNat
def sDrop {α : Type} (xs : List α) (a : Int) : List α := xs.drop a.toNat
def sMid {α : Type} (xs : List α) (a b : Int) : List α := (xs.drop a.toNat).take (b.toNat - a.toNat)
theorem cut_take {e : α → PyData} {xs : List α} (h : 0 ≤ b) : cutP (xs.map e) none (some b) = (sTake xs b).map e := by
  have e : b = ((b.toNat : Nat) : Int) := by omega
  unfold sTake
  rw [e, cutP_take, List.map_take]
  rfl
theorem cut_drop {e : α → PyData} {xs : List α} (h : 0 ≤ a) : cutP (xs.map e) (some a) none = (sDrop xs a).map e := by
  have e : a = ((a.toNat : Nat) : Int) := by omega
  unfold sDrop
  rw [e, cutP_drop, List.map_drop]
  rfl
theorem cut_mid {e : α → PyData} {xs : List α} (h : 0 ≤ a) (h2 : 0 ≤ b) : cutP (xs.map e) (some a) (some b) = (sMid xs a b).map e := by
  have e : a = ((a.toNat : Nat) : Int) := by omega
  have e2 : b = ((b.toNat : Nat) : Int) := by omega
  unfold sMid
  rw [e, e2, cutP_mid, List.map_take, List.map_drop]
  rfl
theorem cut_init {e : α → PyData} {xs : List α} : cutP (xs.map e) none (some (-1)) = xs.dropLast.map e := by rw [cutP_init, List.map_dropLast]
theorem v_slL {lo hi : Option Int} {e : α → PyData} {xs ys : List α} (ha : E F κ (eL e xs)) (hl : EO Fl κ lo) (hh : EO Fh κ hi) (h : cutP (xs.map e) lo hi = ys.map e) : EV (fSl F Fl Fh) κ (.ol (ys.map e)) := v_sl ha hl hh rfl (congrArg Sl.ol h)
theorem v_slT {lo hi : Option Int} {e : α → PyData} {xs ys : List α} (ha : E F κ (eT e xs)) (hl : EO Fl κ lo) (hh : EO Fh κ hi) (h : cutP (xs.map e) lo hi = ys.map e) : EV (fSl F Fl Fh) κ (.sh (eT e ys)) := v_sl ha hl hh rfl (congrArg (fun z => Sl.sh (.tuple z)) h)
/-! built-ins -/
theorem t_lenL {e : α → PyData} {xs : List α} (ha : E F κ (eL e xs)) : E (fUn lenD F) κ (eI xs.length) := t_un ha (by show Rs.ok (PyData.int _) = _; rw [List.length_map]; rfl)
theorem t_lenT {e : α → PyData} {xs : List α} (ha : E F κ (eT e xs)) : E (fUn lenD F) κ (eI xs.length) := t_un ha (by show Rs.ok (PyData.int _) = _; rw [List.length_map]; rfl)
def iabs (a : Int) : Int := if a < 0 then -a else a
def imin (a b : Int) : Int := if b < a then b else a
def imax (a b : Int) : Int := if b > a then b else a
def ofB (b : Bool) : Int := if b then 1 else 0
theorem t_abs (ha : E F κ (eI a)) : E (fUn absD F) κ (eI (iabs a)) := t_un ha rfl
theorem t_intI (ha : E F κ (eI a)) : E (fUn int1D F) κ (eI a) := t_un ha rfl
theorem t_intB {b : Bool} (ha : E F κ (eB b)) : E (fUn int1D F) κ (eI (ofB b)) := t_un ha rfl
theorem t_min (ha : E F κ (eI a)) (hb : E G κ (eI b)) : E (fOp min2D F G) κ (eI (imin a b)) := t_op ha hb rfl
theorem t_max (ha : E F κ (eI a)) (hb : E G κ (eI b)) : E (fOp max2D F G) κ (eI (imax a b)) := t_op ha hb rfl
theorem v_listL {e : α → PyData} {xs : List α} (ha : E F κ (eL e xs)) : EV (fUn listD F) κ (.ol (xs.map e)) := v_un ha rfl rfl
theorem v_listT {e : α → PyData} {xs : List α} (ha : E F κ (eT e xs)) : EV (fUn listD F) κ (.ol (xs.map e)) := v_un ha rfl rfl
theorem t_tupL {e : α → PyData} {xs : List α} (ha : E F κ (eL e xs)) : E (fUn tupleD F) κ (eT e xs) := t_un ha rfl
theorem t_tupT {e : α → PyData} {xs : List α} (ha : E F κ (eT e xs)) : E (fUn tupleD F) κ (eT e xs) := t_un ha rfl
theorem ints_map (xs : List Int) : intsOf (xs.map eI) = .ok xs := by
  induction xs with
  | nil => rfl
  | cons x xs ih => show (intOf (eI x) >>= fun i => intsOf (xs.map eI) >>= fun is => Rs.ok (i :: is)) = _; rw [ih]; rfl
theorem t_sum {xs : List Int} (ha : E F κ (eL eI xs)) : E (fUn sumD F) κ (eI xs.sum) := t_un ha (by show (intsOf _ >>= fun is => Rs.ok (PyData.int is.sum)) = _; rw [ints_map]; rfl)
theorem all_truI (xs : List Int) : (xs.map eI).all (fun d => (truD d).isSome) = true := all_truD_int xs
theorem all_truB (xs : List Bool) : (xs.map eB).all (fun d => (truD d).isSome) = true := by
  rw [List.all_eq_true]
  intro d h
  obtain ⟨i, _, rfl⟩ := List.mem_map.mp h
  rfl
theorem t_anyLI {xs : List Int} (ha : E F κ (eL eI xs)) : E (fUn anyD F) κ (eB (xs.any fun i => i != 0)) := t_un ha (anyD_list xs)
theorem t_anyTI {xs : List Int} (ha : E F κ (eT eI xs)) : E (fUn anyD F) κ (eB (xs.any fun i => i != 0)) := t_un ha (anyD_tuple xs)
theorem t_anyLB {xs : List Bool} (ha : E F κ (eL eB xs)) : E (fUn anyD F) κ (eB (xs.any id)) := t_un ha ((if_pos (all_truB xs)).trans (by rw [List.any_map]; rfl))
theorem t_allLB {xs : List Bool} (ha : E F κ (eL eB xs)) : E (fUn allD F) κ (eB (xs.all id)) := t_un ha ((if_pos (all_truB xs)).trans (by rw [List.all_map]; rfl))
theorem t_isi {T : String} {b : Bool} (ha : E F κ d) (h : kitB (tyN d) T = some b) : E (fUn (isiD T) F) κ (eB b) := t_un ha (by show (match kitB (tyN d) T with | some b => Rs.ok (PyData.bool b) | none => .stuck) = _; rw [h]; rfl)
/-! truths -/
theorem t_notV {b : Bool} (h : E F κ (eB b)) : E (fNotV F) κ (eB (!b)) := fun ρ q => by
  show (F ρ >>= fun a => boolOf a >>= fun b => Rs.ok (PyData.bool (!b))) = _
  rw [h ρ q]; rfl
theorem t_andV {a b : Bool} (h : E F κ (eB a)) (h' : a = true → E G κ (eB b)) : E (fAndV F G) κ (eB (a && b)) := fun ρ q => by
  show (F ρ >>= fun a => boolOf a >>= fun b => if b = true then G ρ else Rs.ok (PyData.bool false)) = _
  rw [h ρ q]
  cases a with
  | true => exact (h' rfl) ρ q
  | false => rfl
theorem t_orV {a b : Bool} (h : E F κ (eB a)) (h' : a = false → E G κ (eB b)) : E (fOrV F G) κ (eB (a || b)) := fun ρ q => by
  show (F ρ >>= fun a => boolOf a >>= fun b => if b = true then Rs.ok (PyData.bool true) else G ρ) = _
  rw [h ρ q]
  cases a with
  | true => rfl
  | false => exact (h' rfl) ρ q
theorem c_b {b : Bool} (h : E F κ (eB b)) : EC (fB F) κ b := fun ρ q => by
  show (F ρ >>= boolOf) = _
  rw [h ρ q]; rfl
theorem c_not {b : Bool} (h : EC Fb κ b) : EC (fNot Fb) κ (!b) := fun ρ q => by
  show (Fb ρ >>= fun b => Rs.ok (!b)) = _
  rw [h ρ q]; rfl
theorem c_and {a b : Bool} (h : EC Fb κ a) (h' : a = true → EC Gb κ b) : EC (fAnd Fb Gb) κ (a && b) := fun ρ q => by
  show (Fb ρ >>= fun b => if b = true then Gb ρ else Rs.ok false) = _
  rw [h ρ q]
  cases a with
  | true => exact (h' rfl) ρ q
  | false => rfl
theorem c_or {a b : Bool} (h : EC Fb κ a) (h' : a = false → EC Gb κ b) : EC (fOr Fb Gb) κ (a || b) := fun ρ q => by
  show (Fb ρ >>= fun b => if b = true then Rs.ok true else Gb ρ) = _
  rw [h ρ q]
  cases a with
  | true => rfl
  | false => exact (h' rfl) ρ q
theorem c_yes : EC fYes κ true := fun _ _ => rfl
/-! lists of values -/
theorem a_nil : EA fNil κ [] := fun _ _ => rfl
theorem a_cons (h : E F κ d) (t : EA Fs κ ds) : EA (fCons F Fs) κ (d :: ds) := fun ρ q => by
  show (F ρ >>= fun d => Fs ρ >>= fun ds => Rs.ok (d :: ds)) = _
  rw [h ρ q, z_ok, t ρ q, z_ok]
theorem m_nil {e : α → PyData} : EA fNil κ (([] : List α).map e) := fun _ _ => rfl
theorem m_cons {e : α → PyData} {a : α} {xs : List α} (h : E F κ (e a)) (t : EA Fs κ (xs.map e)) : EA (fCons F Fs) κ ((a :: xs).map e) := a_cons h t
theorem v_lst {e : α → PyData} {xs : List α} (h : EA Fs κ (xs.map e)) (hl : xs.length ≤ lim := by exact of_decide_eq_true rfl) : EV (fUn lstD Fs) κ (.ol (xs.map e)) := fun ρ q => ⟨_, by
  show (Fs ρ >>= lstD) = _
  rw [h ρ q, z_ok, lstD_ok (by rw [List.length_map]; exact hl)], rfl⟩
theorem v_lstD (h : EA Fs κ ds) (hl : ds.length ≤ lim := by exact of_decide_eq_true rfl) : EV (fUn lstD Fs) κ (.ol ds) := fun ρ q => ⟨_, by
  show (Fs ρ >>= lstD) = _
  rw [h ρ q, z_ok, lstD_ok hl], rfl⟩
theorem t_tup (h : EA Fs κ ds) (hl : ds.length ≤ lim := by exact of_decide_eq_true rfl) : E (fUn tupD Fs) κ (.tuple ds) := fun ρ q => by
  show (Fs ρ >>= tupD) = _
  rw [h ρ q, z_ok, tupD_ok hl]
theorem v_call {f : List PyData → Rs Sl} {k : Kd} (h : EA Fs κ ds) (c : Cal f ds k) : EV (fCall f Fs) κ k := fun ρ q => by
  obtain ⟨s, e, r⟩ := c
  exact ⟨s, by show (Fs ρ >>= f) = _; rw [h ρ q, z_ok, e], r⟩
theorem v_rep1 {e : α → PyData} {x : α} {F2 : Env → Rs Sl} (ha : EV F2 κ (.ol [e x])) (hb : E G κ (eI b)) (h : b ≤ 1000000 ∧ -1000000 ≤ b) : EV (fRep F2 G) κ (.ol ((List.replicate b.toNat x).map e)) := fun ρ q => by
  obtain ⟨s, e1, rfl⟩ := ha ρ q
  refine ⟨.ol ((List.replicate b.toNat x).map e), ?_, rfl⟩
  show (F2 ρ >>= fun s => G ρ >>= fun k => repD s k) = _
  rw [e1, z_ok, hb ρ q, z_ok]
  show (if -(2 ^ 63) ≤ b ∧ b < 2 ^ 63 ∧ [e x].length * b.toNat ≤ lim then Rs.ok (Sl.ol (List.replicate b.toNat [e x]).flatten) else .stuck) = _
  have hz : (lim : Nat) = 1000000 := rfl
  have : ([e x].length) = 1 := rfl
  rw [if_pos ⟨by omega, by omega, by rw [this]; omega⟩, rep_one, List.map_replicate]
/-! what is walked -/
theorem i_list {e : α → PyData} {xs : List α} (h : E F κ (eL e xs)) : EI (fIt itemsL F) κ e xs := fun ρ q => by show (F ρ >>= itemsL) = _; rw [h ρ q]; rfl
theorem i_tup {e : α → PyData} {xs : List α} (h : E F κ (eT e xs)) : EI (fIt itemsT F) κ e xs := fun ρ q => by show (F ρ >>= itemsT) = _; rw [h ρ q]; rfl
theorem i_mixL {e : α → PyData} {xs : List α} (h : E F κ (eL e xs)) : EI (fIt itemsM F) κ e xs := fun ρ q => by show (F ρ >>= itemsM) = _; rw [h ρ q]; rfl
theorem i_mixT {e : α → PyData} {xs : List α} (h : E F κ (eT e xs)) : EI (fIt itemsM F) κ e xs := fun ρ q => by show (F ρ >>= itemsM) = _; rw [h ρ q]; rfl
def irange (a b : Int) : List Int := (List.range (b - a).toNat).map fun (i : Nat) => a + i
theorem i_range1 (h : EA Fs κ [eI b]) (hs : small62 b) : EI (fIt rng1 Fs) κ eI (irange 0 b) := fun ρ q => by
  show (Fs ρ >>= rng1) = _
  rw [h ρ q, z_ok]
  show rng1 [.int b] = _
  rw [rng1_ok hs]
  unfold rangeD irange
  rw [List.map_map]
  rfl
theorem i_range2 (h : EA Fs κ [eI a, eI b]) (hs : small62 a ∧ small62 b) : EI (fIt rng2 Fs) κ eI (irange a b) := fun ρ q => by
  show (Fs ρ >>= rng2) = _
  rw [h ρ q, z_ok]
  show rng2 [.int a, .int b] = _
  rw [rng2_ok2 hs]
  unfold rangeD irange
  rw [List.map_map]
  rfl
theorem zipL_map {e : α → PyData} {f : β → PyData} : ∀ (xs : List α) (ys : List β), zipL (xs.map e) (ys.map f) = (xs.zip ys).map (eP e f)
  | [], _ => by simp [zipL]
  | _ :: _, [] => by simp [zipL]
  | x :: xs, y :: ys => by
    have := zipL_map (e := e) (f := f) xs ys
    simp only [zipL, List.map_cons, List.zipWith_cons_cons, List.zip_cons_cons] at this ⊢
    rw [this]
    rfl
theorem i_zipLL {e : α → PyData} {f : β → PyData} {xs : List α} {ys : List β} (h : EA Fs κ [eL e xs, eL f ys]) : EI (fIt zipM Fs) κ (eP e f) (xs.zip ys) := fun ρ q => by show (Fs ρ >>= zipM) = _; rw [h ρ q, ← zipL_map]; rfl
theorem i_zipLT {e : α → PyData} {f : β → PyData} {xs : List α} {ys : List β} (h : EA Fs κ [eL e xs, eT f ys]) : EI (fIt zipM Fs) κ (eP e f) (xs.zip ys) := fun ρ q => by show (Fs ρ >>= zipM) = _; rw [h ρ q, ← zipL_map]; rfl
theorem i_zipTL {e : α → PyData} {f : β → PyData} {xs : List α} {ys : List β} (h : EA Fs κ [eT e xs, eL f ys]) : EI (fIt zipM Fs) κ (eP e f) (xs.zip ys) := fun ρ q => by show (Fs ρ >>= zipM) = _; rw [h ρ q, ← zipL_map]; rfl
theorem i_zipTT {e : α → PyData} {f : β → PyData} {xs : List α} {ys : List β} (h : EA Fs κ [eT e xs, eT f ys]) : EI (fIt zipM Fs) κ (eP e f) (xs.zip ys) := fun ρ q => by show (Fs ρ >>= zipM) = _; rw [h ρ q, ← zipL_map]; rfl
def ienum {α : Type} (xs : List α) : List (Int × α) := xs.zipIdx.map fun p => ((p.2 : Int), p.1)
theorem enum_go {e : α → PyData} : ∀ (xs : List α) (k : Nat), ((xs.map e).zipIdx k).map (fun p => pairD (.int p.2) p.1) = ((xs.zipIdx k).map fun p => ((p.2 : Int), p.1)).map (eP eI e)
  | [], _ => rfl
  | x :: xs, k => by
    simp only [List.map_cons, List.zipIdx_cons]
    rw [enum_go xs (k + 1)]
    rfl
theorem i_enumL {e : α → PyData} {xs : List α} (h : EA Fs κ [eL e xs]) : EI (fIt enumD Fs) κ (eP eI e) (ienum xs) := fun ρ q => by
  show (Fs ρ >>= enumD) = _
  rw [h ρ q]
  show Rs.ok (enumL (xs.map e)) = _
  unfold enumL ienum
  rw [enum_go]
theorem i_revL {e : α → PyData} {xs : List α} (h : E F κ (eL e xs)) : EI (fIt revD F) κ e xs.reverse := fun ρ q => by show (F ρ >>= revD) = _; rw [h ρ q, List.map_reverse]; rfl
theorem i_revT {e : α → PyData} {xs : List α} (h : E F κ (eT e xs)) : EI (fIt revD F) κ e xs.reverse := fun ρ q => by show (F ρ >>= revD) = _; rw [h ρ q, List.map_reverse]; rfl
/-! targets -/
theorem g_n (i : Nat) (hk : κ.set i (.sh d) = κ' := by rfl) : TG (tgN i) κ d κ' := fun ρ q => ⟨_, rfl, hk ▸ q.set i rfl⟩
theorem g_p {T1 T2 : Tgt} {e : α → PyData} {f : β → PyData} {p : α × β} (h1 : TG T1 κ (e p.1) κ1) (h2 : TG T2 κ1 (f p.2) κ') : TG (tgT 2 (tgCons T1 (tgCons T2 tgNil))) κ (eP e f p) κ' := fun ρ q => by
  obtain ⟨ρ1, e1, q1⟩ := h1 ρ q
  obtain ⟨ρ2, e2, q2⟩ := h2 ρ1 q1
  refine ⟨ρ2, ?_, q2⟩
  unfold eP
  rw [z_tgT, if_pos (show [e p.fst, f p.snd].length = 2 from rfl), z_tgCons, e1, Option.bind_some, z_tgCons, e2]
  rfl
theorem g_p3 {T1 T2 T3 : Tgt} {κ2 : List Kd} {e : α → PyData} {f : β → PyData} {g : γ → PyData} {p : α × β × γ} (h1 : TG T1 κ (e p.1) κ1) (h2 : TG T2 κ1 (f p.2.1) κ2) (h3 : TG T3 κ2 (g p.2.2) κ') : TG (tgT 3 (tgCons T1 (tgCons T2 (tgCons T3 tgNil)))) κ (eP3 e f g p) κ' := fun ρ q => by
  obtain ⟨ρ1, e1, q1⟩ := h1 ρ q
  obtain ⟨ρ2, e2, q2⟩ := h2 ρ1 q1
  obtain ⟨ρ3, e3, q3⟩ := h3 ρ2 q2
  refine ⟨ρ3, ?_, q3⟩
  unfold eP3
  rw [z_tgT, if_pos (show [e p.fst, f p.snd.fst, g p.snd.snd].length = 3 from rfl), z_tgCons, e1, Option.bind_some, z_tgCons, e2, Option.bind_some, z_tgCons, e3]
  rfl
/-! comprehensions -/
def wipeK (κ : List Kd) : List Nat → List Kd
  | [] => κ
  | v :: vs => (wipeK κ vs).set v .no
theorem Kn.wipe {ρ : Env} (h : Kn κ ρ) : ∀ vs : List Nat, Kn (wipeK κ vs) (wipeE ρ vs)
  | [] => h
  | v :: vs => (Kn.wipe h vs).set v trivial
theorem v_lc {S : Env → Rs (List PyData)} {T : Tgt} {C : Env → Rs Bool} {vs : List Nat} {e : α → PyData} {e2 : β → PyData} {xs : List α} {p : α → Bool} {g : α → β} {κt : α → List Kd} (hS : EI S κ e xs) (hT : ∀ x, TG T (wipeK κ vs) (e x) (κt x)) (hC : ∀ x, x ∈ xs → EC C (κt x) (p x))
    (hF : ∀ x, x ∈ xs → p x = true → E F (κt x) (e2 (g x))) (hl : xs.length ≤ lim) : EV (fLcS S T C F vs) κ (.ol (((xs.filter p).map g).map e2)) := fun ρ q => by
  refine ⟨_, lcS_of xs e p (fun x => e2 (g x)) (hS ρ q) (fun x hx => ?_) hl, ?_⟩
  · obtain ⟨ρ1, e1, q1⟩ := hT x _ (q.wipe vs)
    exact ⟨ρ1, e1, hC x hx ρ1 q1, fun hp => hF x hx hp ρ1 q1⟩
  · show _ = Sl.ol _
    rw [List.map_map]
    rfl
theorem v_lm {S : Env → Rs (List PyData)} {T : Tgt} {vs : List Nat} {e : α → PyData} {e2 : β → PyData} {xs : List α} {g : α → β} {κt : α → List Kd} (hS : EI S κ e xs) (hT : ∀ x, TG T (wipeK κ vs) (e x) (κt x))
    (hF : ∀ x, x ∈ xs → E F (κt x) (e2 (g x))) (hl : xs.length ≤ lim) : EV (fLcS S T fYes F vs) κ (.ol ((xs.map g).map e2)) := fun ρ q => by
  refine ⟨_, lcS_map xs e (fun x => e2 (g x)) (hS ρ q) (fun x hx => ?_) hl, ?_⟩
  · obtain ⟨ρ1, e1, q1⟩ := hT x _ (q.wipe vs)
    exact ⟨ρ1, e1, hF x hx ρ1 q1⟩
  · show _ = Sl.ol _
    rw [List.map_map]
    rfl
end

/-! ### equality of data -/
structure EqE {α : Type} (e : α → PyData) (n : Nat) : Prop where
  dok : ∀ a, DOk n (e a)
  eq : ∀ a b, PyData.eqv (e a) (e b) = true ↔ a = b
theorem EqE.dec {α : Type} [DecidableEq α] {e : α → PyData} {n : Nat} (h : EqE e n) (a b : α) : PyData.eqv (e a) (e b) = decide (a = b) := by
  rw [Bool.eq_iff_iff, h.eq, decide_eq_true_eq]
theorem q_I : EqE eI 0 := ⟨dok_int, fun a b => by unfold eI; simp [PyData.eqv]⟩
theorem q_B : EqE eB 0 := ⟨fun b => ⟨by simp [eB, PyData.canLay0], by simp [eB, PyData.depth]⟩, fun a b => by unfold eB; simp [PyData.eqv]⟩
theorem q_N : EqE eN 0 := ⟨fun b => ⟨by simp [eN, PyData.canLay0], by simp [eN, PyData.depth]⟩, fun a b => by unfold eN; simp [PyData.eqv]⟩
theorem eqvAll_map {α : Type} {e : α → PyData} (h : ∀ a b, PyData.eqv (e a) (e b) = true ↔ a = b) : ∀ xs ys : List α, PyData.eqvAll (xs.map e) (ys.map e) = true ↔ xs = ys
  | [], [] => by simp [PyData.eqvAll]
  | _ :: _, [] => by simp [PyData.eqvAll]
  | [], _ :: _ => by simp [PyData.eqvAll]
  | x :: xs, y :: ys => by
    rw [List.map_cons, List.map_cons]
    simp only [PyData.eqvAll, Bool.and_eq_true, h, eqvAll_map h xs ys, List.cons.injEq]
theorem q_L {α : Type} {e : α → PyData} {n : Nat} (h : EqE e n) : EqE (eL e) (n + 1) := ⟨fun xs => dok_list fun d hd => by
  obtain ⟨a, _, rfl⟩ := List.mem_map.mp hd
  exact h.dok a, fun a b => by unfold eL; simp only [PyData.eqv]; exact eqvAll_map h.eq a b⟩
theorem q_T {α : Type} {e : α → PyData} {n : Nat} (h : EqE e n) : EqE (eT e) (n + 1) := ⟨fun xs => dok_tuple fun d hd => by
  obtain ⟨a, _, rfl⟩ := List.mem_map.mp hd
  exact h.dok a, fun a b => by unfold eT; simp only [PyData.eqv]; exact eqvAll_map h.eq a b⟩
theorem q_P {α β : Type} {e : α → PyData} {f : β → PyData} {n m : Nat} (h : EqE e n) (h' : EqE f m) : EqE (eP e f) (n + m + 1) := ⟨fun p => dok_tuple fun d hd => by
  rcases List.mem_cons.mp hd with rfl | hd
  · exact (h.dok _).mono (by omega)
  · rw [List.mem_singleton.mp hd]; exact (h'.dok _).mono (by omega), fun a b => by
  obtain ⟨a1, a2⟩ := a
  obtain ⟨b1, b2⟩ := b
  unfold eP
  simp only [PyData.eqv, PyData.eqvAll, Bool.and_eq_true, h.eq, h'.eq, Prod.mk.injEq, and_true]⟩
theorem q_P3 {α β γ : Type} {e : α → PyData} {f : β → PyData} {g : γ → PyData} {n m k : Nat} (h : EqE e n) (h' : EqE f m) (h2 : EqE g k) : EqE (eP3 e f g) (n + m + k + 1) := ⟨fun p => dok_tuple fun d hd => by
  rcases List.mem_cons.mp hd with rfl | hd
  · exact (h.dok _).mono (by omega)
  · rcases List.mem_cons.mp hd with rfl | hd
    · exact (h'.dok _).mono (by omega)
    · rw [List.mem_singleton.mp hd]; exact (h2.dok _).mono (by omega), fun a b => by
  obtain ⟨a1, a2, a3⟩ := a
  obtain ⟨b1, b2, b3⟩ := b
  unfold eP3
  simp only [PyData.eqv, PyData.eqvAll, Bool.and_eq_true, h.eq, h'.eq, h2.eq, Prod.mk.injEq, and_true]⟩
theorem q_H {α β : Type} {e : α → PyData} {f : β → PyData} {n m : Nat} (h : EqE e n) (h' : EqE f m) : EqE (eH e f) (n + m + 1) := ⟨fun p => dok_list fun d hd => by
  rcases List.mem_cons.mp hd with rfl | hd
  · exact (h.dok _).mono (by omega)
  · rw [List.mem_singleton.mp hd]; exact (h'.dok _).mono (by omega), fun a b => by
  obtain ⟨a1, a2⟩ := a
  obtain ⟨b1, b2⟩ := b
  unfold eH
  simp only [PyData.eqv, PyData.eqvAll, Bool.and_eq_true, h.eq, h'.eq, Prod.mk.injEq, and_true]⟩
/-- never None -/
def NN {α : Type} (e : α → PyData) : Prop := ∀ a, isNo (e a) = false
theorem n_I : NN eI := fun _ => rfl
theorem n_B : NN eB := fun _ => rfl
theorem n_L {α : Type} {e : α → PyData} : NN (eL e) := fun _ => rfl
theorem n_T {α : Type} {e : α → PyData} : NN (eT e) := fun _ => rfl
theorem n_P {α β : Type} {e : α → PyData} {f : β → PyData} : NN (eP e f) := fun _ => rfl
theorem n_P3 {α β γ : Type} {e : α → PyData} {f : β → PyData} {g : γ → PyData} : NN (eP3 e f g) := fun _ => rfl
theorem n_H {α β : Type} {e : α → PyData} {f : β → PyData} : NN (eH e f) := fun _ => rfl
theorem eqv_no1 {d : PyData} (h : isNo d = false) : PyData.eqv .none d = false := by
  cases d <;> simp [PyData.eqv, isNo] at h ⊢
theorem eqv_no2 {d : PyData} (h : isNo d = false) : PyData.eqv d .none = false := by
  cases d <;> simp [PyData.eqv, isNo] at h ⊢
theorem q_O {α : Type} {e : α → PyData} {n : Nat} (h : EqE e n) (hn : NN e) : EqE (eO e) n := ⟨fun o => by
  cases o with
  | none => exact ⟨by simp [eO, PyData.canLay0], by simp [eO, PyData.depth]⟩
  | some a => exact h.dok a, fun a b => by
  cases a with
  | none =>
    cases b with
    | none => simp [eO, PyData.eqv]
    | some b => simp [eO, eqv_no1 (hn b)]
  | some a =>
    cases b with
    | none => simp [eO, eqv_no2 (hn a)]
    | some b =>
      show PyData.eqv (e a) (e b) = true ↔ _
      rw [h.eq]
      simp⟩
section
variable {κ : List Kd} {F G : Env → Rs PyData} {α : Type} {e : α → PyData} {n : Nat} {a b : α} {xs : List α}
theorem t_eq [Decidable (a = b)] (q : EqE e n) (ha : E F κ (e a)) (hb : E G κ (e b)) (hn : n ≤ 50 := by decide) : E (fOp eqD F G) κ (eB (decide (a = b))) := t_op ha hb (by
  unfold eqD
  have : PyData.eqv (e a) (e b) = decide (a = b) := by rw [Bool.eq_iff_iff, q.eq, decide_eq_true_eq]
  rw [if_pos ⟨dok_shaped ((q.dok a).mono (by omega)), dok_shaped ((q.dok b).mono (by omega))⟩, this]
  rfl)
theorem t_ne [Decidable (a = b)] (q : EqE e n) (ha : E F κ (e a)) (hb : E G κ (e b)) (hn : n ≤ 50 := by decide) : E (fOp neD F G) κ (eB (!decide (a = b))) := t_op ha hb (by
  unfold neD
  have : PyData.eqv (e a) (e b) = decide (a = b) := by rw [Bool.eq_iff_iff, q.eq, decide_eq_true_eq]
  rw [if_pos ⟨dok_shaped ((q.dok a).mono (by omega)), dok_shaped ((q.dok b).mono (by omega))⟩, this]
  rfl)
theorem any_eqv [Decidable (a ∈ xs)] (q : EqE e n) : ((xs.map e).any fun z => PyData.eqv z (e a)) = decide (a ∈ xs) := by
  rw [Bool.eq_iff_iff, List.any_eq_true, decide_eq_true_eq]
  constructor
  · rintro ⟨z, hz, hq⟩
    obtain ⟨b, hb, rfl⟩ := List.mem_map.mp hz
    rw [← (q.eq b a).mp hq]
    exact hb
  · intro h
    exact ⟨e a, List.mem_map.mpr ⟨a, h, rfl⟩, (q.eq a a).mpr rfl⟩
theorem t_in [Decidable (a ∈ xs)] (q : EqE e n) (ha : E F κ (e a)) (hb : E G κ (eL e xs)) (hn : n ≤ 50 := by decide) : E (fOp inD F G) κ (eB (decide (a ∈ xs))) := t_op ha hb (by
  have h1 := dok_shaped ((q.dok a).mono (show n ≤ 60 by omega))
  have h2 := dok_shaped (((q_L q).dok xs).mono (show n + 1 ≤ 60 by omega))
  refine (if_pos ⟨h1, h2⟩).trans ?_
  rw [any_eqv q]
  rfl)
theorem t_nin [Decidable (a ∈ xs)] (q : EqE e n) (ha : E F κ (e a)) (hb : E G κ (eL e xs)) (hn : n ≤ 50 := by decide) : E (fOp ninD F G) κ (eB (!decide (a ∈ xs))) := t_op ha hb (by
  have h1 := dok_shaped ((q.dok a).mono (show n ≤ 60 by omega))
  have h2 := dok_shaped (((q_L q).dok xs).mono (show n + 1 ≤ 60 by omega))
  refine (if_pos ⟨h1, h2⟩).trans ?_
  rw [any_eqv q]
  rfl)
end
section
variable {κ : List Kd} {F G : Env → Rs PyData} {α : Type} {e : α → PyData} {o : Option α}
theorem t_isN [Decidable (o = none)] (hn : NN e) (ha : E F κ (eO e o)) : E (fOp isND F (fC .none)) κ (eB (decide (o = none))) := t_op ha (t_c _) (by
  cases o with
  | none => show Rs.ok (PyData.bool true) = Rs.ok (PyData.bool _); rw [decide_eq_true rfl]
  | some a => show Rs.ok (PyData.bool (isNo (e a))) = Rs.ok (PyData.bool _); rw [hn a, decide_eq_false (fun h => nomatch h)])
theorem t_notN [Decidable (o = none)] (hn : NN e) (ha : E F κ (eO e o)) : E (fOp notND F (fC .none)) κ (eB (!decide (o = none))) := t_op ha (t_c _) (by
  cases o with
  | none => show Rs.ok (PyData.bool (!true)) = Rs.ok (PyData.bool (!_)); rw [decide_eq_true rfl]
  | some a => show Rs.ok (PyData.bool (!isNo (e a))) = Rs.ok (PyData.bool (!_)); rw [hn a, decide_eq_false (fun h => nomatch h)])
end
end PF

namespace PF
open PySem L2
section
variable {κ κ' κ0 : List Kd} {A B A' B' : Env → Rs Out} {F G : Env → Rs PyData} {Fs : Env → Rs (List PyData)} {Fv : Env → Rs Sl} {Fb : Env → Rs Bool} {α β σ σ' τ : Type} {i j : Nat}
/-! ### single statements -/
theorem sn_set {k : Kd} (i : Nat) (h : EV Fv κ k) (hk : κ.set i k = κ' := by rfl) : Sn (fSet i Fv) κ κ' := fun ρ q => by
  obtain ⟨s, e, r⟩ := h ρ q
  refine ⟨ρ.set i s, ?_, hk ▸ q.set i r⟩
  show (Fv ρ >>= fun s => Rs.ok (Out.nx (ρ.set i s))) = _
  rw [e, z_ok]
theorem sn_skip : Sn fSkip κ κ := fun ρ q => ⟨ρ, rfl, q⟩
theorem fz_sh {d : PyData} {ρ : Env} (i : Nat) (h : κ[i]? = some (.sh d)) (q : Kn κ ρ) : fz1 i ρ = ρ := by
  obtain ⟨s, e, rfl⟩ := q.get h
  exact fz1_sh e
theorem fz_ol {ds : List PyData} {ρ : Env} (i : Nat) (h : κ[i]? = some (.ol ds)) (q : Kn κ ρ) : Kn (κ.set i (.sh (.list ds))) (fz1 i ρ) := by
  obtain ⟨s, e, rfl⟩ := q.get h
  rw [fz1_ol e]
  exact q.set i rfl
theorem set_self {ρ : Env} {i : Nat} {s : Sl} (e : ρ[i]? = some s) : ρ.set i s = ρ := by
  apply List.ext_getElem?
  intro j
  rw [List.getElem?_set]
  by_cases h : i = j
  · subst h
    rw [if_pos rfl]
    by_cases hl : i < ρ.length
    · rw [if_pos hl, e]
    · rw [List.getElem?_eq_none (by omega)] at e; cases e
  · rw [if_neg h]
theorem fz_ei {ds : List PyData} {ρ : Env} (i : Nat) (h : κ[i]? = some (.ei ds)) (q : Kn κ ρ) : Kn (κ.set i (.sh (.list ds))) (fz1 i ρ) := by
  obtain ⟨s, e, r⟩ := q.get h
  rcases r with rfl | rfl
  · rw [fz1_sh e]
    have := q.set i (k := .sh (.list ds)) (s := .sh (.list ds)) rfl
    rwa [set_self e] at this
  · rw [fz1_ol e]
    exact q.set i rfl
/-- a slot is shown -/
structure Fz (i : Nat) (κ κ' : List Kd) : Prop where
  go : ∀ ρ, Kn κ ρ → Kn κ' (fz1 i ρ)
theorem z_sh' {d : PyData} (i : Nat) (h : κ[i]? = some (.sh d) := by rfl) : Fz i κ κ := ⟨fun ρ q => by rw [fz_sh i h q]; exact q⟩
theorem z_ol' {e : α → PyData} {xs : List α} (i : Nat) (h : κ[i]? = some (.ol (xs.map e)) := by rfl) (hk : κ.set i (.sh (eL e xs)) = κ' := by rfl) : Fz i κ κ' := ⟨fun ρ q => hk ▸ fz_ol i h q⟩
theorem z_ei' {e : α → PyData} {xs : List α} (i : Nat) (h : κ[i]? = some (.ei (xs.map e)) := by rfl) (hk : κ.set i (.sh (eL e xs)) = κ' := by rfl) : Fz i κ κ' := ⟨fun ρ q => hk ▸ fz_ei i h q⟩
theorem z_any' {k : Kd} (i : Nat) (h : κ[i]? = some k := by rfl) (hk : κ.set i .no = κ' := by rfl) : Fz i κ κ' := ⟨fun ρ q => by
  obtain ⟨s, e, r⟩ := q.get h
  have h0 := q.set i (k := .no) (s := s) trivial
  rw [set_self e] at h0
  rw [← hk]
  rw [fz1_eq]
  cases hs : ρ[i]? with
  | none => exact h0
  | some u =>
    cases u with
    | ol ds => exact q.set i trivial
    | _ => exact h0⟩
theorem sn_fz (z : Fz i κ κ0) (h : Sn A κ0 κ') : Sn (fFz i A) κ κ' := fun ρ q => h _ (z.go ρ q)
theorem fin_fz {en : τ → Kd} {r : τ} (z : Fz i κ κ0) (h : Fin A κ0 en r) : Fin (fFz i A) κ en r := fun ρ q => h _ (z.go ρ q)
theorem rb_fz {κ1 : σ → List Kd} {en : τ → Kd} {r : σ ⊕ τ} (z : Fz i κ κ0) (h : Rb A κ0 κ1 en r) : Rb (fFz i A) κ κ1 en r := fun ρ q => h _ (z.go ρ q)
theorem sn_par {d1 d2 : PyData} (i j : Nat) (h : EA Fs κ [d1, d2]) (hk : (κ.set i (.sh d1)).set j (.sh d2) = κ' := by rfl) : Sn (fPar i j Fs) κ κ' := fun ρ q => ⟨(ρ.set i (.sh d1)).set j (.sh d2), by rw [z_par, h ρ q]; rfl, hk ▸ (q.set i (k := .sh d1) (s := .sh d1) rfl).set j (k := .sh d2) (s := .sh d2) rfl⟩
theorem sn_asg {T : Tgt} {d : PyData} (h : E F κ d) (g : TG T κ d κ') : Sn (fAsg T F) κ κ' := fun ρ q => by
  obtain ⟨ρ1, e1, q1⟩ := g ρ q
  exact ⟨ρ1, by rw [z_asg, h ρ q, z_ok, e1], q1⟩
theorem sn_app {e : α → PyData} {xs : List α} {a : α} (i : Nat) (h : κ[i]? = some (.ol (xs.map e))) (hf : E F κ (e a)) (hl : xs.length < lim) (hk : κ.set i (.ol ((xs ++ [a]).map e)) = κ' := by rfl) : Sn (fApp i F) κ κ' := fun ρ q => by
  obtain ⟨s, e1, rfl⟩ := q.get h
  refine ⟨ρ.set i (.ol ((xs ++ [a]).map e)), ?_, hk ▸ q.set i rfl⟩
  rw [z_app, e1]
  show (F ρ >>= fun d => appD _ [d] >>= fun ds' => _) = _
  rw [hf ρ q, z_ok, appD_ok (by rw [List.length_map]; exact hl), z_ok, List.map_append, List.map_singleton]
theorem sn_clr {e : α → PyData} {xs : List α} (i : Nat) (h : κ[i]? = some (.ol (xs.map e))) (hk : κ.set i (.ol (([] : List α).map e)) = κ' := by rfl) : Sn (fClr i) κ κ' := fun ρ q => by
  obtain ⟨s, e1, rfl⟩ := q.get h
  refine ⟨ρ.set i (.ol []), ?_, hk ▸ q.set i rfl⟩
  rw [z_clrF, e1]
  rfl
theorem sn_rev {e : α → PyData} {xs : List α} (i : Nat) (h : κ[i]? = some (.ol (xs.map e))) (hk : κ.set i (.ol (xs.reverse.map e)) = κ' := by rfl) : Sn (fRevs i) κ κ' := fun ρ q => by
  obtain ⟨s, e1, rfl⟩ := q.get h
  refine ⟨ρ.set i (.ol (xs.reverse.map e)), ?_, hk ▸ q.set i rfl⟩
  rw [z_revF, e1, List.map_reverse]
  rfl
def iset {α : Type} (xs : List α) (k : Int) (v : α) : List α := xs.set k.toNat v
theorem sn_setIx {e : α → PyData} {xs : List α} {v : α} {k : Int} (i : Nat) (h : κ[i]? = some (.ol (xs.map e))) (hv : E F κ (e v)) (hk : E G κ (eI k)) (hl : 0 ≤ k ∧ k < xs.length) (hs : κ.set i (.ol ((iset xs k v).map e)) = κ' := by rfl) : Sn (fSetIx i F G) κ κ' := fun ρ q => by
  obtain ⟨s, e1, rfl⟩ := q.get h
  refine ⟨ρ.set i (.ol ((iset xs k v).map e)), ?_, hs ▸ q.set i rfl⟩
  rw [z_setIx, hv ρ q, z_ok, e1]
  show (G ρ >>= fun k => setP _ k _ >>= fun ds' => _) = _
  rw [hk ρ q, z_ok]
  show (setP _ (.int k) _ >>= _) = _
  rw [setP_int hl.1 (by rw [List.length_map]; exact hl.2), z_ok]
  unfold iset
  rw [List.map_set]
def iset1 {α : Type} (xs : List α) (v : α) : List α := xs.dropLast ++ [v]
theorem sn_setIx1 {e : α → PyData} {xs : List α} {v : α} (i : Nat) (h : κ[i]? = some (.ol (xs.map e))) (hv : E F κ (e v)) (hk : E G κ (eI (-1))) (hl : xs ≠ []) (hs : κ.set i (.ol ((iset1 xs v).map e)) = κ' := by rfl) : Sn (fSetIx i F G) κ κ' := fun ρ q => by
  obtain ⟨s, e1, rfl⟩ := q.get h
  refine ⟨ρ.set i (.ol ((iset1 xs v).map e)), ?_, hs ▸ q.set i rfl⟩
  rw [z_setIx, hv ρ q, z_ok, e1]
  show (G ρ >>= fun k => setP _ k _ >>= fun ds' => _) = _
  rw [hk ρ q, z_ok]
  have hp : 0 < xs.length := List.length_pos_iff.mpr hl
  have e2 : ixN (xs.map e).length (-1) = some (xs.length - 1) := by
    rw [List.length_map]
    unfold ixN
    simp
    omega
  show ((match ixN (xs.map e).length (-1) with
    | some j => Rs.ok ((xs.map e).set j (e v))
    | none => .stuck) >>= _) = _
  rw [e2]
  show Rs.ok _ = _
  have : (xs.map e).set (xs.length - 1) (e v) = (iset1 xs v).map e := by
    obtain ⟨ys, y, rfl⟩ : ∃ ys y, xs = ys ++ [y] := ⟨xs.dropLast, xs.getLast hl, (List.dropLast_concat_getLast hl).symm⟩
    unfold iset1
    rw [List.dropLast_concat, List.map_append, List.map_append, List.length_append]
    simp
  rw [this]
def iins {α : Type} (xs : List α) (k : Int) (v : α) : List α := xs.take k.toNat ++ [v] ++ xs.drop k.toNat
theorem sn_ins {e : α → PyData} {xs : List α} {v : α} {k : Int} (i : Nat) (h : κ[i]? = some (.ol (xs.map e))) (ha : EA Fs κ [eI k, e v]) (hl : xs.length < lim ∧ 0 ≤ k ∧ k < 2 ^ 63) (hs : κ.set i (.ol ((iins xs k v).map e)) = κ' := by rfl) : Sn (fIns i Fs) κ κ' := fun ρ q => by
  obtain ⟨s, e1, rfl⟩ := q.get h
  refine ⟨ρ.set i (.ol ((iins xs k v).map e)), ?_, hs ▸ q.set i rfl⟩
  unfold fIns fMut
  rw [e1]
  show (Fs ρ >>= fun as => insD _ as >>= _) = _
  rw [ha ρ q, z_ok]
  have : insD (xs.map e) [eI k, e v] = .ok ((iins xs k v).map e) := by
    refine (if_pos ⟨by rw [List.length_map]; exact hl.1, hl.2.1, hl.2.2⟩).trans ?_
    unfold iins
    rw [List.map_append, List.map_append, List.map_take, List.map_drop]
    rfl
  rw [this, z_ok]
theorem sn_rem [BEq α] [LawfulBEq α] {e : α → PyData} {n : Nat} {xs : List α} {v : α} (i : Nat) (hq : EqE e n) (h : κ[i]? = some (.ol (xs.map e))) (hf : E F κ (e v)) (hl : v ∈ xs) (hn : n ≤ 50 := by decide) (hs : κ.set i (.ol ((xs.erase v).map e)) = κ' := by rfl) : Sn (fRem i F) κ κ' := fun ρ q => by
  obtain ⟨s, e1, rfl⟩ := q.get h
  refine ⟨ρ.set i (.ol ((xs.erase v).map e)), ?_, hs ▸ q.set i rfl⟩
  unfold fRem fMut
  rw [e1]
  show (fCons F fNil ρ >>= fun as => remD _ as >>= _) = _
  rw [z_cons, hf ρ q, z_ok, z_nil, z_ok, z_ok]
  have key : ∀ ys : List α, v ∈ ys → ∃ j, (ys.map e).findIdx? (fun z => PyData.eqv z (e v)) = some j ∧ (ys.map e).eraseIdx j = (ys.erase v).map e := by
    intro ys
    induction ys with
    | nil => intro h; cases h
    | cons y ys ih =>
      intro hm
      by_cases hy : y = v
      · subst hy
        refine ⟨0, ?_, ?_⟩
        · rw [List.map_cons, List.findIdx?_cons, (hq.eq y y).mpr rfl]; rfl
        · rw [List.erase_cons_head]; rfl
      · obtain ⟨j, h1, h2⟩ := ih (by
          rcases List.mem_cons.mp hm with q | q
          · exact absurd q.symm hy
          · exact q)
        have hne : PyData.eqv (e y) (e v) = false := by
          cases hb : PyData.eqv (e y) (e v) with
          | false => rfl
          | true => exact absurd ((hq.eq y v).mp hb) hy
        refine ⟨j + 1, ?_, ?_⟩
        · rw [List.map_cons, List.findIdx?_cons, hne, h1]; rfl
        · rw [List.erase_cons_tail (by simpa using hy), List.map_cons, List.map_cons, ← h2]; rfl
  obtain ⟨j, h1, h2⟩ := key xs hl
  have : remD (xs.map e) [e v] = .ok ((xs.erase v).map e) := by
    refine (if_pos ⟨dok_shaped ((hq.dok v).mono (by omega)), dok_shaped (((q_L hq).dok xs).mono (show n + 1 ≤ 60 by omega))⟩).trans ?_
    rw [h1]
    exact congrArg Rs.ok h2
  rw [this, z_ok]
/-! ### loops -/
theorem forD_fold {xs : List α} {e : α → PyData} {f : σ → α → σ} {D : σ → α → Prop} {κs : σ → List Kd} {κt : σ → α → List Kd} {T : Tgt} (hT : ∀ s x, TG T (κs s) (e x) (κt s x)) (hB : ∀ s x, D s x → Sn B (κt s x) (κs (f s x))) : ∀ (xs : List α) (s : σ) (ρ : Env), forD f D xs s → Kn (κs s) ρ → ∃ ρ', forF T B (xs.map e) ρ = .ok (.nx ρ') ∧ Kn (κs (xs.foldl f s)) ρ'
  | [], s, ρ, _, q => ⟨ρ, rfl, q⟩
  | x :: xs, s, ρ, h, q => by
    obtain ⟨ρ1, e1, q1⟩ := hT s x ρ q
    obtain ⟨ρ2, e2, q2⟩ := hB s x h.1 ρ1 q1
    obtain ⟨ρ3, e3, q3⟩ := forD_fold (xs := xs) hT hB xs (f s x) ρ2 h.2 q2
    refine ⟨ρ3, ?_, q3⟩
    rw [List.map_cons]
    unfold forF
    rw [e1]
    show after (B ρ1) _ = _
    rw [e2, z_anx, e3]
theorem sn_for {S : Env → Rs (List PyData)} {T : Tgt} {xs : List α} {e : α → PyData} {f : σ → α → σ} {D : σ → α → Prop} {κs : σ → List Kd} {κt : σ → α → List Kd} {s0 : σ} (hS : EI S κ e xs) (h0 : Kle κ (κs s0)) (hT : ∀ s x, TG T (κs s) (e x) (κt s x)) (hB : ∀ s x, D s x → Nb B (κt s x) κs (f s x)) (hD : forD f D xs s0) :
    Sn (fFor S T B) κ (κs (xs.foldl f s0)) := fun ρ q => by
  obtain ⟨ρ', e', q'⟩ := forD_fold (xs := xs) hT hB xs s0 ρ hD (h0 ρ q)
  exact ⟨ρ', by rw [z_for, hS ρ q, z_ok, e'], q'⟩
theorem forDE_fold {e : α → PyData} {f : σ → α → σ ⊕ τ} {D : σ → α → Prop} {κs : σ → List Kd} {κt : σ → α → List Kd} {T : Tgt} {en : τ → Kd} (hT : ∀ s x, TG T (κs s) (e x) (κt s x)) (hB : ∀ s x, D s x → Rb B (κt s x) κs en (f s x)) : ∀ (xs : List α) (s : σ) (ρ : Env), forDE f D xs s → Kn (κs s) ρ → match foldE f xs s with
    | .inl s' => ∃ ρ', forF T B (xs.map e) ρ = .ok (.nx ρ') ∧ Kn (κs s') ρ'
    | .inr t => ∃ u, forF T B (xs.map e) ρ = .ok (.rt u) ∧ (en t).ok u
  | [], s, ρ, _, q => ⟨ρ, rfl, q⟩
  | x :: xs, s, ρ, h, q => by
    obtain ⟨ρ1, e1, q1⟩ := hT s x ρ q
    have h2 := hB s x h.1 ρ1 q1
    have h3 := h.2
    have ef : forF T B ((x :: xs).map e) ρ = after (B ρ1) (forF T B (xs.map e)) := by
      rw [List.map_cons]
      show (match T (e x) ρ with | some ρ' => after (B ρ') (forF T B (xs.map e)) | none => .stuck) = _
      rw [e1]
    rw [ef]
    unfold foldE
    cases hf : f s x with
    | inl s' =>
      rw [hf] at h2 h3
      obtain ⟨ρ2, e2, q2⟩ := h2
      rw [e2, z_anx]
      exact forDE_fold hT hB xs s' ρ2 h3 q2
    | inr t =>
      rw [hf] at h2
      obtain ⟨u, e2, q2⟩ := h2
      exact ⟨u, by rw [e2]; rfl, q2⟩
theorem rb_for {S : Env → Rs (List PyData)} {T : Tgt} {xs : List α} {e : α → PyData} {f : σ → α → σ ⊕ τ} {D : σ → α → Prop} {κs : σ → List Kd} {κt : σ → α → List Kd} {s0 : σ} {en : τ → Kd} (hS : EI S κ e xs) (h0 : Kle κ (κs s0)) (hT : ∀ s x, TG T (κs s) (e x) (κt s x)) (hB : ∀ s x, D s x → Rb B (κt s x) κs en (f s x)) (hD : forDE f D xs s0) :
    Rb (fFor S T B) κ κs en (foldE f xs s0) := fun ρ q => by
  have h := forDE_fold hT hB xs s0 ρ hD (h0 ρ q)
  have e0 : fFor S T B ρ = forF T B (xs.map e) ρ := by rw [z_for, hS ρ q, z_ok]
  rw [e0]
  exact h
/-- while -/
inductive WhD (c : σ → Bool) (f : σ → σ) (DC DB : σ → Prop) : σ → Prop where
  | stop {s : σ} (h : DC s) (hc : c s = false) : WhD c f DC DB s
  | step {s : σ} (h : DC s) (hc : c s = true) (hb : DB s) (t : WhD c f DC DB (f s)) : WhD c f DC DB s
def whN (c : σ → Bool) (f : σ → σ) : Nat → σ → Option σ
  | 0, _ => none
  | n + 1, s => if c s = true then whN c f n (f s) else some s
open Classical in
noncomputable def whP (c : σ → Bool) (f : σ → σ) (s : σ) : σ := if h : ∃ n t, whN c f n s = some t then Classical.choose (Classical.choose_spec h) else s
theorem whN_mono {c : σ → Bool} {f : σ → σ} : ∀ (n m : Nat) (s t : σ), n ≤ m → whN c f n s = some t → whN c f m s = some t
  | 0, _, _, _, _, h => by cases h
  | n + 1, 0, _, _, h, _ => absurd h (by omega)
  | n + 1, m + 1, s, t, h, e => by
    unfold whN at e ⊢
    by_cases hc : c s = true
    · rw [if_pos hc] at e ⊢
      exact whN_mono n m _ _ (by omega) e
    · rw [if_neg hc] at e ⊢
      exact e
theorem whP_of {c : σ → Bool} {f : σ → σ} {n : Nat} {s t : σ} (h : whN c f n s = some t) : whP c f s = t := by
  have hx : ∃ n t, whN c f n s = some t := ⟨n, t, h⟩
  unfold whP
  rw [dif_pos hx]
  have h2 := Classical.choose_spec (Classical.choose_spec hx)
  have h3 := whN_mono _ (max n (Classical.choose hx)) _ _ (Nat.le_max_right _ _) h2
  have h4 := whN_mono _ (max n (Classical.choose hx)) _ _ (Nat.le_max_left _ _) h
  rw [h3] at h4
  exact Option.some.inj h4
theorem WhD.n {c : σ → Bool} {f : σ → σ} {DC DB : σ → Prop} {s : σ} (h : WhD c f DC DB s) : ∃ n t, whN c f n s = some t := by
  induction h with
  | stop h hc => exact ⟨1, _, by unfold whN; rw [hc]; rfl⟩
  | step h hc hb t ih =>
    obtain ⟨n, u, e⟩ := ih
    exact ⟨n + 1, u, by unfold whN; rw [if_pos hc]; exact e⟩
theorem whP_stop {c : σ → Bool} {f : σ → σ} {s : σ} (h : c s = false) : whP c f s = s := whP_of (n := 1) (by unfold whN; rw [h]; rfl)
theorem whP_step {c : σ → Bool} {f : σ → σ} {s : σ} (h : c s = true) (x : ∃ n t, whN c f n (f s) = some t) : whP c f s = whP c f (f s) := by
  obtain ⟨n, t, e⟩ := x
  rw [whP_of e, whP_of (n := n + 1) (by unfold whN; rw [if_pos h]; exact e)]
theorem sn_while {c : σ → Bool} {f : σ → σ} {DC DB : σ → Prop} {κs : σ → List Kd} {s0 : σ} (h0 : Kle κ (κs s0)) (hC : ∀ s, DC s → EC Fb (κs s) (c s)) (hB : ∀ s, DB s → Nb B (κs s) κs (f s)) (hD : WhD c f DC DB s0) :
    Sn (whL Fb B) κ (κs (whP c f s0)) := fun ρ q => by
  have key : ∀ s, WhD c f DC DB s → ∀ ρ, Kn (κs s) ρ → ∃ ρ', whL Fb B ρ = .ok (.nx ρ') ∧ Kn (κs (whP c f s)) ρ' := by
    intro s h
    induction h with
    | stop h hc =>
      intro ρ q
      refine ⟨ρ, ?_, ?_⟩
      · rw [whL_eq, hC _ h ρ q, hc]; rfl
      · rw [whP_stop hc]; exact q
    | step h hc hb t ih =>
      intro ρ q
      obtain ⟨ρ1, e1, q1⟩ := hB _ hb ρ q
      obtain ⟨ρ2, e2, q2⟩ := ih ρ1 q1
      refine ⟨ρ2, ?_, ?_⟩
      · rw [whL_eq, hC _ h ρ q, hc]
        show after (B ρ) _ = _
        rw [e1, z_anx, e2]
      · rw [whP_step hc t.n]; exact q2
  exact key s0 hD ρ (h0 ρ q)
/-! ### blocks that don't return -/
theorem nb_seq {κ0 : α → List Kd} {κ1 : σ → List Kd} {v : α} {P : α → σ} {D : α → Prop} (hA : Sn A κ (κ0 v)) (hB : ∀ z, D z → Nb B (κ0 z) κ1 (P z)) (hD : dlt v D) : Nb (fSeq A B) κ κ1 (lt v P) := fun ρ q => by
  obtain ⟨ρ1, e1, q1⟩ := hA ρ q
  obtain ⟨ρ2, e2, q2⟩ := hB v hD ρ1 q1
  exact ⟨ρ2, by rw [z_seq, e1, z_anx, e2], q2⟩
theorem nb_seq0 {κ1 : σ → List Kd} {v : σ} (hA : Sn A κ κ0) (hB : Nb B κ0 κ1 v) : Nb (fSeq A B) κ κ1 v := fun ρ q => by
  obtain ⟨ρ1, e1, q1⟩ := hA ρ q
  obtain ⟨ρ2, e2, q2⟩ := hB ρ1 q1
  exact ⟨ρ2, by rw [z_seq, e1, z_anx, e2], q2⟩
theorem nb_last {κ0 : α → List Kd} {κ1 : σ → List Kd} {v : α} {P : α → σ} (hA : Sn A κ (κ0 v)) (hk : ∀ z, Kle (κ0 z) (κ1 (P z))) : Nb A κ κ1 (lt v P) := fun ρ q => by
  obtain ⟨ρ1, e1, q1⟩ := hA ρ q
  exact ⟨ρ1, e1, hk v ρ1 q1⟩
theorem nb_last0 {κ1 : σ → List Kd} {v : σ} (hA : Sn A κ κ0) (hk : Kle κ0 (κ1 v)) : Nb A κ κ1 v := fun ρ q => by
  obtain ⟨ρ1, e1, q1⟩ := hA ρ q
  exact ⟨ρ1, e1, hk ρ1 q1⟩
theorem sn_if {κ1 : σ → List Kd} {c : Bool} {v1 v2 : σ} (hc : EC Fb κ c) (hA : c = true → Nb A κ κ1 v1) (hB : c = false → Nb B κ κ1 v2) : Sn (fIf Fb A B) κ (κ1 (if c = true then v1 else v2)) := fun ρ q => by
  rw [z_if, hc ρ q, z_ok]
  cases c with
  | true => exact hA rfl ρ q
  | false => exact hB rfl ρ q
theorem sn_ifnever {c : Bool} (hc : EC Fb κ c) (hq : c = false) (hB : Sn B κ κ') : Sn (fIf Fb A B) κ κ' := fun ρ q => by
  rw [z_if, hc ρ q, z_ok, hq]
  exact hB ρ q
/-! ### blocks that may return, within loops -/
theorem rb_seq {κ0 : α → List Kd} {κ1 : σ → List Kd} {en : τ → Kd} {v : α} {P : α → σ ⊕ τ} {D : α → Prop} (hA : Sn A κ (κ0 v)) (hB : ∀ z, D z → Rb B (κ0 z) κ1 en (P z)) (hD : dlt v D) : Rb (fSeq A B) κ κ1 en (lt v P) := fun ρ q => by
  obtain ⟨ρ1, e1, q1⟩ := hA ρ q
  have h := hB v hD ρ1 q1
  unfold lt
  rw [z_seq, e1, z_anx]
  exact h
theorem rb_seq0 {κ1 : σ → List Kd} {en : τ → Kd} {r : σ ⊕ τ} (hA : Sn A κ κ0) (hB : Rb B κ0 κ1 en r) : Rb (fSeq A B) κ κ1 en r := fun ρ q => by
  obtain ⟨ρ1, e1, q1⟩ := hA ρ q
  have h := hB ρ1 q1
  rw [z_seq, e1, z_anx]
  exact h
theorem rb_seqR {κ0 : σ' → List Kd} {κ1 : σ → List Kd} {en : τ → Kd} {r : σ' ⊕ τ} {P : σ' → σ ⊕ τ} {D : σ' → Prop} (hA : Rb A κ κ0 en r) (hB : ∀ z, D z → Rb B (κ0 z) κ1 en (P z)) (hD : orD r D) : Rb (fSeq A B) κ κ1 en (orb r P) := fun ρ q => by
  have h := hA ρ q
  cases r with
  | inl s =>
    obtain ⟨ρ1, e1, q1⟩ := h
    have h2 := hB s hD ρ1 q1
    show match P s with | .inl s => _ | .inr t => _
    rw [z_seq, e1, z_anx]
    exact h2
  | inr t =>
    obtain ⟨u, e1, q1⟩ := h
    exact ⟨u, by rw [z_seq, e1]; rfl, q1⟩
theorem rb_last {κ0 : α → List Kd} {κ1 : σ → List Kd} {en : τ → Kd} {v : α} {P : α → σ} (hA : Sn A κ (κ0 v)) (hk : ∀ z, Kle (κ0 z) (κ1 (P z))) : Rb A κ κ1 en (lt v fun z => .inl (P z)) := fun ρ q => by
  obtain ⟨ρ1, e1, q1⟩ := hA ρ q
  exact ⟨ρ1, e1, hk v ρ1 q1⟩
theorem rb_last0 {κ1 : σ → List Kd} {en : τ → Kd} {v : σ} (hA : Sn A κ κ0) (hk : Kle κ0 (κ1 v)) : Rb A κ κ1 en (.inl v) := fun ρ q => by
  obtain ⟨ρ1, e1, q1⟩ := hA ρ q
  exact ⟨ρ1, e1, hk ρ1 q1⟩
theorem rb_lastR {κ0 : σ' → List Kd} {κ1 : σ → List Kd} {en : τ → Kd} {r : σ' ⊕ τ} {P : σ' → σ} (hA : Rb A κ κ0 en r) (hk : ∀ z, Kle (κ0 z) (κ1 (P z))) : Rb A κ κ1 en (orb r fun z => .inl (P z)) := fun ρ q => by
  have h := hA ρ q
  cases r with
  | inl s =>
    obtain ⟨ρ1, e1, q1⟩ := h
    exact ⟨ρ1, e1, hk s ρ1 q1⟩
  | inr t => exact h
theorem rb_if {κ1 : σ → List Kd} {en : τ → Kd} {c : Bool} {r1 r2 : σ ⊕ τ} (hc : EC Fb κ c) (hA : c = true → Rb A κ κ1 en r1) (hB : c = false → Rb B κ κ1 en r2) : Rb (fIf Fb A B) κ κ1 en (if c = true then r1 else r2) := fun ρ q => by
  cases c with
  | true =>
    have h := hA rfl ρ q
    rw [if_pos rfl, z_if, hc ρ q, z_ok, if_pos rfl]
    exact h
  | false =>
    have h := hB rfl ρ q
    rw [if_neg Bool.false_ne_true, z_if, hc ρ q, z_ok, if_neg Bool.false_ne_true]
    exact h
theorem rb_ret {κ1 : σ → List Kd} {en : τ → Kd} {t : τ} (h : EV Fv κ (en t)) : Rb (fRet Fv) κ κ1 en (.inr t) := fun ρ q => by
  obtain ⟨s, e, r⟩ := h ρ q
  exact ⟨s, by rw [z_ret, e, z_ok], r⟩
theorem slRet_ok {k : Kd} {i : Nat} {ρ : Env} (q : Kn κ ρ) (h : κ[i]? = some k) (hk : k ≠ .no) : ∃ s, slRet ρ[i]? = .ok s ∧ k.ok s := by
  obtain ⟨s, e, r⟩ := q.get h
  rw [e]
  refine ⟨s, ?_, r⟩
  cases k with
  | no => exact absurd rfl hk
  | sh d => cases r; rfl
  | ol ds => cases r; rfl
  | ei ds => rcases r with rfl | rfl <;> rfl
  | od kvs => cases r; rfl
  | ex o =>
    cases o with
    | none => cases r; rfl
    | some x => cases r; rfl
theorem rb_retVar {κ1 : σ → List Kd} {en : τ → Kd} {t : τ} {k : Kd} (i : Nat) (h : κ[i]? = some k) (hk : k ≠ .no) (hl : k.le (en t)) : Rb (fRetVar i) κ κ1 en (.inr t) := fun ρ q => by
  obtain ⟨s, e, r⟩ := slRet_ok q h hk
  exact ⟨s, by rw [z_retVar, e, z_ok], hl s r⟩
/-! ### a def's body -/
theorem fin_seq {κ0 : α → List Kd} {en : τ → Kd} {v : α} {P : α → τ} {D : α → Prop} (hA : Sn A κ (κ0 v)) (hB : ∀ z, D z → Fin B (κ0 z) en (P z)) (hD : dlt v D) : Fin (fSeq A B) κ en (lt v P) := fun ρ q => by
  obtain ⟨ρ1, e1, q1⟩ := hA ρ q
  obtain ⟨s, e2, q2⟩ := hB v hD ρ1 q1
  exact ⟨s, by rw [z_seq, e1, z_anx, e2], q2⟩
theorem fin_seq0 {en : τ → Kd} {r : τ} (hA : Sn A κ κ0) (hB : Fin B κ0 en r) : Fin (fSeq A B) κ en r := fun ρ q => by
  obtain ⟨ρ1, e1, q1⟩ := hA ρ q
  obtain ⟨s, e2, q2⟩ := hB ρ1 q1
  exact ⟨s, by rw [z_seq, e1, z_anx, e2], q2⟩
theorem fin_seqR {κ0 : σ → List Kd} {en : τ → Kd} {r : σ ⊕ τ} {P : σ → τ} {D : σ → Prop} (hA : Rb A κ κ0 en r) (hB : ∀ z, D z → Fin B (κ0 z) en (P z)) (hD : orD r D) : Fin (fSeq A B) κ en (orr r P) := fun ρ q => by
  have h := hA ρ q
  cases r with
  | inl s =>
    obtain ⟨ρ1, e1, q1⟩ := h
    obtain ⟨u, e2, q2⟩ := hB s hD ρ1 q1
    exact ⟨u, by rw [z_seq, e1, z_anx, e2], q2⟩
  | inr t =>
    obtain ⟨u, e1, q1⟩ := h
    exact ⟨u, by rw [z_seq, e1]; rfl, q1⟩
theorem fin_ret {en : τ → Kd} {t : τ} (h : EV Fv κ (en t)) : Fin (fRet Fv) κ en t := fun ρ q => by
  obtain ⟨s, e, r⟩ := h ρ q
  exact ⟨s, by rw [z_ret, e, z_ok, z_outR], r⟩
theorem fin_retVar {en : τ → Kd} {t : τ} {k : Kd} (i : Nat) (h : κ[i]? = some k) (hk : k ≠ .no) (hl : k.le (en t)) : Fin (fRetVar i) κ en t := fun ρ q => by
  obtain ⟨s, e, r⟩ := slRet_ok q h hk
  exact ⟨s, by rw [z_retVar, e, z_ok, z_outR], hl s r⟩
/-- the end without return: None -/
theorem fin_end {en : τ → Kd} {t : τ} (h : Sn A κ κ') (hl : (Kd.sh .none).le (en t)) : Fin A κ en t := fun ρ q => by
  obtain ⟨ρ1, e1, _⟩ := h ρ q
  exact ⟨.sh .none, by rw [e1, z_outN], hl _ rfl⟩
/-- if c: return ..; what follows -/
theorem fin_ifret {en : τ → Kd} {c : Bool} {r1 r2 : τ} (hc : EC Fb κ c) (hA : c = true → Fin A κ en r1) (hr : c = true → ∀ ρ, Kn κ ρ → ∃ s, A ρ = .ok (.rt s)) (hB : c = false → Fin B κ en r2) : Fin (fSeq (fIf Fb A fSkip) B) κ en (if c = true then r1 else r2) := fun ρ q => by
  cases c with
  | true =>
    obtain ⟨s, e, r⟩ := hA rfl ρ q
    obtain ⟨s', e'⟩ := hr rfl ρ q
    rw [e', z_outR] at e
    cases e
    exact ⟨s, by rw [z_seq, z_if, hc ρ q, z_ok, if_pos rfl, e', z_art, z_outR], r⟩
  | false =>
    obtain ⟨s, e, r⟩ := hB rfl ρ q
    exact ⟨s, by rw [z_seq, z_if, hc ρ q, z_ok, if_neg Bool.false_ne_true, z_skip, z_anx, e], r⟩
theorem fin_if {en : τ → Kd} {c : Bool} {r1 r2 : τ} (hc : EC Fb κ c) (hA : c = true → Fin A κ en r1) (hB : c = false → Fin B κ en r2) : Fin (fIf Fb A B) κ en (if c = true then r1 else r2) := fun ρ q => by
  cases c with
  | true =>
    obtain ⟨s, e, r⟩ := hA rfl ρ q
    exact ⟨s, by rw [z_if, hc ρ q, z_ok, if_pos rfl, e], r⟩
  | false =>
    obtain ⟨s, e, r⟩ := hB rfl ρ q
    exact ⟨s, by rw [z_if, hc ρ q, z_ok, if_neg Bool.false_ne_true, e], r⟩
/-- a block that returns on all its ways, as the tail -/
theorem fin_of_rb {κ1 : σ → List Kd} {en : τ → Kd} {r : σ ⊕ τ} {t : τ} (h : Rb A κ κ1 en r) (hr : r = .inr t) : Fin A κ en t := fun ρ q => by
  have h := h ρ q
  rw [hr] at h
  obtain ⟨s, e, k⟩ := h
  exact ⟨s, by rw [e, z_outR], k⟩
theorem cal_of {np n : Nat} {b : Env → Rs Out} {ds : List PyData} {en : τ → Kd} {r : τ} {κ : List Kd} (h : Fin b κ en r) (hl : ds.length = np) (hk : Kn κ (ds.map Sl.sh ++ List.replicate (n - ds.length) Sl.no)) : Cal (fnOf np n b) ds (en r) := by
  obtain ⟨s, e, q⟩ := h _ hk
  refine ⟨s, ?_, q⟩
  unfold fnOf
  rw [if_pos hl, e]
theorem Cal.sh {f : List PyData → Rs Sl} {ds : List PyData} {d : PyData} (h : Cal f ds (.sh d)) : f ds = .ok (.sh d) := by
  obtain ⟨s, e, rfl⟩ := h
  exact e
theorem Cal.ol {f : List PyData → Rs Sl} {ds ys : List PyData} (h : Cal f ds (.ol ys)) : f ds = .ok (.ol ys) := by
  obtain ⟨s, e, rfl⟩ := h
  exact e
theorem cal_sh {f : List PyData → Rs Sl} {ds : List PyData} {d : PyData} (h : f ds = .ok (.sh d)) : Cal f ds (.sh d) := ⟨_, h, rfl⟩
theorem cal_ol {f : List PyData → Rs Sl} {ds ys : List PyData} (h : f ds = .ok (.ol ys)) : Cal f ds (.ol ys) := ⟨_, h, rfl⟩
end
/-! ### the terms: loops by invariants -/
theorem forD_inv {α σ : Type} {f : σ → α → σ} {D : σ → α → Prop} (I : σ → Prop) : ∀ (xs : List α) (s : σ), I s → (∀ s x, x ∈ xs → I s → D s x ∧ I (f s x)) → forD f D xs s ∧ I (xs.foldl f s)
  | [], _, h, _ => ⟨trivial, h⟩
  | x :: xs, s, h, k => by
    obtain ⟨h1, h2⟩ := k s x List.mem_cons_self h
    obtain ⟨h3, h4⟩ := forD_inv I xs (f s x) h2 fun s y hy => k s y (List.mem_cons_of_mem _ hy)
    exact ⟨⟨h1, h3⟩, h4⟩
/-- with the count of turns -/
theorem forD_inv' {α σ : Type} {f : σ → α → σ} {D : σ → α → Prop} (I : Nat → σ → Prop) : ∀ (xs : List α) (n : Nat) (s : σ), I n s → (∀ i s x, xs[i]? = some x → I (n + i) s → D s x ∧ I (n + i + 1) (f s x)) → forD f D xs s ∧ I (n + xs.length) (xs.foldl f s)
  | [], _, _, h, _ => ⟨trivial, h⟩
  | x :: xs, n, s, h, k => by
    obtain ⟨h1, h2⟩ := k 0 s x rfl h
    obtain ⟨h3, h4⟩ := forD_inv' I xs (n + 1) (f s x) h2 fun i s y hy hi => by
      have := k (i + 1) s y (by simpa using hy) (by rw [show n + (i + 1) = n + 1 + i by omega]; exact hi)
      rw [show n + (i + 1) + 1 = n + 1 + i + 1 by omega] at this
      exact this
    refine ⟨⟨h1, h3⟩, ?_⟩
    rw [List.length_cons, show n + (xs.length + 1) = n + 1 + xs.length by omega]
    exact h4
theorem forDE_inv {α σ τ : Type} {f : σ → α → σ ⊕ τ} {D : σ → α → Prop} (I : σ → Prop) : ∀ (xs : List α) (s : σ), I s → (∀ s x, x ∈ xs → I s → D s x ∧ ∀ s', f s x = .inl s' → I s') → forDE f D xs s ∧ ∀ s', foldE f xs s = .inl s' → I s'
  | [], _, h, _ => ⟨trivial, fun s' e => by cases e; exact h⟩
  | x :: xs, s, h, k => by
    obtain ⟨h1, h2⟩ := k s x List.mem_cons_self h
    unfold forDE foldE
    cases hf : f s x with
    | inl s' =>
      obtain ⟨h3, h4⟩ := forDE_inv I xs s' (h2 s' hf) fun s y hy => k s y (List.mem_cons_of_mem _ hy)
      exact ⟨⟨h1, h3⟩, h4⟩
    | inr t => exact ⟨⟨h1, trivial⟩, fun s' e => by cases e⟩
end PF
namespace PF
open PySem L2
/-! ### own list or None, and more -/
def kOo {α : Type} (e : α → PyData) : Option (List α) → Kd
  | none => .sh .none
  | some xs => .ol (xs.map e)
section
variable {κ κ' κ0 : List Kd} {A B : Env → Rs Out} {F G : Env → Rs PyData} {Fv : Env → Rs Sl} {Fb : Env → Rs Bool} {α β σ τ : Type}
theorem t_boo (i : Nat) {e : α → PyData} {o : Option (List α)} (h : κ[i]? = some (kOo e o)) : E (fVarB i) κ (eO (eL e) o) := by
  cases o with
  | none => exact t_b i h
  | some xs => exact t_bo i h
theorem s_oo {e : α → PyData} {o : Option (List α)} (h : EV Fv κ (kOo e o)) : E (fSh Fv) κ (eO (eL e) o) := by
  cases o with
  | none => exact s_sh h
  | some xs => exact s_ol h
theorem z_oo' {e : α → PyData} {o : Option (List α)} (i : Nat) (h : κ[i]? = some (kOo e o) := by rfl) (hk : κ.set i (.sh (eO (eL e) o)) = κ' := by rfl) : Fz i κ κ' := by
  cases o with
  | none =>
    have : κ = κ' := by
      rw [← hk]
      apply List.ext_getElem?
      intro j
      rw [List.getElem?_set]
      by_cases hj : i = j
      · subst hj
        rw [if_pos rfl, h]
        by_cases hl : i < κ.length
        · rw [if_pos hl]; rfl
        · rw [List.getElem?_eq_none (by omega)] at h; cases h
      · rw [if_neg hj]
    rw [← this]
    exact z_sh' i h
  | some xs => exact z_ol' i h hk
theorem nno_oo {e : α → PyData} {o : Option (List α)} : kOo e o ≠ .no := by cases o <;> exact fun h => nomatch h
theorem fin_ifret' {κ1 : σ → List Kd} {en : τ → Kd} {c : Bool} {r1 r2 : τ} (hc : EC Fb κ c) (hA : c = true → Rb A κ κ1 en (.inr r1)) (hB : c = false → Fin B κ en r2) : Fin (fSeq (fIf Fb A fSkip) B) κ en (if c = true then r1 else r2) := fun ρ q => by
  cases c with
  | true =>
    obtain ⟨s, e, r⟩ := hA rfl ρ q
    exact ⟨s, by rw [z_seq, z_if, hc ρ q, z_ok, if_pos rfl, e, z_art, z_outR], r⟩
  | false =>
    obtain ⟨s, e, r⟩ := hB rfl ρ q
    exact ⟨s, by rw [z_seq, z_if, hc ρ q, z_ok, if_neg Bool.false_ne_true, z_skip, z_anx, e], r⟩
/-! what holds no list -/
def LF {α : Type} (e : α → PyData) : Prop := ∀ a, lfree (e a) = true
theorem lfreeAll_map {e : α → PyData} (h : LF e) (xs : List α) : lfreeAll (xs.map e) = true := by
  induction xs with
  | nil => simp
  | cons x xs ih => simp [h x, ih]
theorem f_I : LF eI := fun i => by simp [eI]
theorem f_B : LF eB := fun i => by simp [eB]
theorem f_N : LF eN := fun i => by simp [eN]
theorem f_T {e : α → PyData} (h : LF e) : LF (eT e) := fun xs => by unfold eT; rw [z_lfT]; exact lfreeAll_map h xs
theorem f_P {e : α → PyData} {f : β → PyData} (h : LF e) (h' : LF f) : LF (eP e f) := fun p => by unfold eP; simp [h p.1, h' p.2]
theorem v_lend {k : Kd} (i : Nat) (z : Fz i κ κ') (h : EV Fv κ' k) (hf : ∀ s, k.ok s → slFree s = true) : EV (fLend i Fv) κ k := fun ρ q => by
  obtain ⟨s, e, r⟩ := h _ (z.go ρ q)
  refine ⟨s, ?_, r⟩
  rw [z_lend]
  have e0 : (∀ ds, ρ[i]? ≠ some (.ol ds)) → fz1 i ρ = ρ := fun hn => by
    rw [fz1_eq]
    cases hs : ρ[i]? with
    | none => rfl
    | some u =>
      cases u with
      | ol ds => exact absurd hs (hn ds)
      | _ => rfl
  cases hs : ρ[i]? with
  | none => rw [e0 (fun ds => by rw [hs]; exact fun h => nomatch h)] at e; exact e
  | some u =>
    cases u with
    | ol ds =>
      show (Fv (fz1 i ρ) >>= lendCk) = _
      rw [e, z_ok]
      exact lendCk_ok (hf s r)
    | _ => rw [e0 (fun ds => by rw [hs]; exact fun h => nomatch h)] at e; exact e
theorem l_sh {e : α → PyData} {a : α} (h : LF e) : ∀ s, (Kd.sh (e a)).ok s → slFree s = true := fun s r => by
  cases r
  exact h a
theorem l_ol {e : α → PyData} {xs : List α} (h : LF e) : ∀ s, (Kd.ol (xs.map e)).ok s → slFree s = true := fun s r => by
  cases r
  exact lfreeAll_map h xs
theorem t_isiOL {e : α → PyData} {o : Option (List α)} (ha : E F κ (eO (eL e) o)) : E (fUn (isiD "list") F) κ (eB o.isSome) := t_un ha (by
  rw [kit_list]
  cases o <;> rfl)
theorem t_isiOT {e : α → PyData} {o : Option (List α)} (ha : E F κ (eO (eT e) o)) : E (fUn (isiD "tuple") F) κ (eB o.isSome) := t_un ha (by
  rw [kit_tuple]
  cases o <;> rfl)
end
end PF
namespace PF
def igcd (a b : Int) : Int := Int.gcd a b
def lcell (ns : List Int) (k : Int) : Int := ns.getD k.toNat 0
def PlainD (row : List Int) : Prop := (∃ x ∈ row, x ≠ 0) ∧ (∀ x ∈ row, x.natAbs < 2 ^ 9000) ∧ row.length ≤ 1000
end PF
namespace PF
open PySem L2
section
variable {κ κ' κ0 : List Kd} {A B : Env → Rs Out} {F G : Env → Rs PyData} {Fv : Env → Rs Sl} {Fs : Env → Rs (List PyData)} {α β σ τ : Type}
theorem le_oo {e : α → PyData} [Inhabited α] {o : Option (List α)} (h : o.isSome = true) : (kOo e o).le (.ol ((o.getD default).map e)) := by
  cases o with
  | none => cases h
  | some xs => exact le_rf
theorem sn_pre (h : Kle κ κ0) (s : Sn A κ0 κ') : Sn A κ κ' := fun ρ q => s ρ (h ρ q)
/-! lists of two unlike things -/
theorem t_bhl (i : Nat) {e : α → PyData} {f : β → PyData} {p : α × β} (h : κ[i]? = some (.ol [e p.1, f p.2])) : E (fVarB i) κ (eH e f p) := fun ρ q => by
  obtain ⟨s, e, rfl⟩ := q.get h
  show slB ρ[i]? = _
  rw [e]; rfl
theorem s_hl {e : α → PyData} {f : β → PyData} {p : α × β} (h : EV Fv κ (.ol [e p.1, f p.2])) : E (fSh Fv) κ (eH e f p) := fun ρ q => by
  obtain ⟨s, e, rfl⟩ := h ρ q
  show (Fv ρ >>= slShare) = _
  rw [e]; rfl
theorem z_hl' {e : α → PyData} {f : β → PyData} {p : α × β} (i : Nat) (h : κ[i]? = some (.ol [e p.1, f p.2]) := by rfl) (hk : κ.set i (.sh (eH e f p)) = κ' := by rfl) : Fz i κ κ' := ⟨fun ρ q => hk ▸ fz_ol i h q⟩
end
end PF

namespace PF
open PySem L2
theorem ev_divisor (a b : Int) : f_divisor [.int a, .int b] = .ok (.sh (.int (Int.gcd a b))) := by
  unfold f_divisor
  rw [fnOf2]
  have h := gcd_loop (C := p2_divisor) (B := p1_divisor) (fun x y => by simp [p2_divisor]) (fun x y hy => by simp [p1_divisor, fz1_eq, modD_ok (show y ≠ 0 by omega)]) b.natAbs a.natAbs b.natAbs (by omega) (by omega) (by omega)
  rw [gcd_abs] at h
  simp [b_divisor, abs_if, h]
theorem ev_ldivisor (a b : Int) : f__law_divisor [.int a, .int b] = .ok (.sh (.int (Int.gcd a b))) := by
  unfold f__law_divisor
  rw [fnOf2]
  have h := gcd_loop (C := p2__law_divisor) (B := p1__law_divisor) (fun x y => by simp [p2__law_divisor]) (fun x y hy => by simp [p1__law_divisor, fz1_eq, modD_ok (show y ≠ 0 by omega)]) b.natAbs a.natAbs b.natAbs (by omega) (by omega) (by omega)
  rw [gcd_abs] at h
  simp [b__law_divisor, abs_if, h]
theorem ev_lcell (ns : List Int) (k : Nat) : f__law_cell_at [.list (ns.map .int), .int k] = .ok (.sh (.int (ns.getD k 0))) := by
  have hl : (ns.map PyData.int).length = ns.length := List.length_map _
  by_cases h : k < ns.length
  · have hg : getP (ns.map PyData.int) (k : Int) = .ok (.int ns[k]) := getP_nat (by rw [List.getElem?_map, List.getElem?_eq_getElem h]; rfl)
    simp [f__law_cell_at, fnOf2, b__law_cell_at, hl, h, hg]
  · have e : ns.getD k 0 = 0 := by rw [List.getD_eq_getElem?_getD, List.getElem?_eq_none (by omega)]; rfl
    simp [f__law_cell_at, fnOf2, b__law_cell_at, hl, h, e]
theorem ev_lwhole (a : Int) : f__law_whole [.int a] = .ok (.sh (.bool true)) := by
  simp [f__law_whole, fnOf1, b__law_whole]
theorem fmod_bd (a m : Int) (h : 0 < m) : 0 ≤ a.fmod m ∧ a.fmod m < m := ⟨Int.fmod_nonneg_of_pos a h, Int.fmod_lt_of_pos a h⟩
theorem lim_eq : (lim : Nat) = 1000000 := rfl
theorem ev_block_tail (S : Sl) (k : Nat) (c : Int) (x : Sl) : ∃ b : Int, q2__law_block [S, .sh (.int k), .sh (.int c), x] = .ok (.rt (.sh (.int b))) := by
  obtain ⟨r0, r1⟩ := fmod_bd (k : Int) 8 (by decide)
  obtain ⟨h, _⟩ := for_fold (T := tgN 3) (B := p1__law_block) (σ := Int × Sl) (fun s => [S, .sh (.int k), .sh (.int s.1), s.2]) natD (fun s a => (s.1.fdiv 2147483587, .sh (natD a))) (fun _ => True)
    (List.range ((k : Int).fmod 8).toNat) (c, x) trivial fun s a _ _ => ⟨trivial, _, rfl, by simp [p1__law_block, divD_ok, divOk_lit]⟩
  generalize ((List.range ((k : Int).fmod 8).toNat).foldl (fun s a => (s.1.fdiv 2147483587, .sh (natD a))) (c, x) : Int × Sl) = R at h
  have h : forF (tgN 3) p1__law_block (List.map natD (List.range ((k : Int).fmod 8).toNat)) [S, .sh (.int k), .sh (.int c), x] = _ := h
  exact ⟨R.1, by simp [q2__law_block, modD_ok, rng1_int r0 (by omega), h]⟩
theorem ev_block (ns : List Int) (k : Nat) : ∃ b : Int, f__law_block [.list (ns.map .int), .int k] = .ok (.sh (.int b)) := by
  obtain ⟨r0, r1⟩ := fmod_bd ((k : Int).fdiv 8) 62 (by decide)
  generalize hr : ((k : Int).fdiv 8).fmod 62 = r at r0 r1
  have hl : (ns.map PyData.int).length = ns.length := List.length_map _
  have d64 : ∀ x : Int, divOk x 10000000000000000000000000000000000000000000000000000000000000000 := fun x => divOk_of (n := 250) (by decide) (by decide) (by decide)
  by_cases h : 1 + r < ns.length
  · have hg : getP (ns.map PyData.int) (1 + r) = .ok (.int (ns[(1 + r).toNat]'(by omega))) := getP_int (by omega) (by rw [List.getElem?_map, List.getElem?_eq_getElem (by omega)]; rfl)
    obtain ⟨b, e⟩ := ev_block_tail (.sh (.list (ns.map .int))) k ((ns[(1 + r).toNat]'(by omega)).fdiv 10000000000000000000000000000000000000000000000000000000000000000) .no
    exact ⟨b, by simp [f__law_block, fnOf2, b__law_block, modD_ok, divD_ok, divOk_lit, hr, hl, h, hg, d64, e]⟩
  · obtain ⟨b, e⟩ := ev_block_tail (.sh (.list (ns.map .int))) k 0 .no
    exact ⟨b, by simp [f__law_block, fnOf2, b__law_block, modD_ok, divD_ok, divOk_lit, hr, hl, h, e]⟩
theorem ev_mixed_tail (S y : Sl) (c : Int) (k : Nat) (hk : k < 1000000) : ∃ m : Int, 0 ≤ m ∧ m < 2147483587 ∧ q4__law_mixed [S, .sh (.int k), .sh (.int c), y] = .ok (.rt (.sh (.int m))) := by
  obtain ⟨a0, a1⟩ := fmod_bd c 1000000000000000000 (by decide)
  have e1 : mulOk (48271 : Int) ((k : Int) + 1) := mulOk_left (by decide)
  generalize hn : c.fmod 1000000000000000000 + 48271 * ((k : Int) + 1) = n1
  have b1 : n1.natAbs < 2 ^ 64 := by rw [show (2 : Nat) ^ 64 = 18446744073709551616 from rfl]; omega
  obtain ⟨c0, c1⟩ := fmod_bd (n1 * n1) 2147483629 (by decide)
  have e2 : mulOk (69621 : Int) (k : Int) := mulOk_left (by decide)
  generalize hn2 : (n1 * n1).fmod 2147483629 + 69621 * (k : Int) = n2
  have b2 : n2.natAbs < 2 ^ 64 := by rw [show (2 : Nat) ^ 64 = 18446744073709551616 from rfl]; omega
  obtain ⟨d0, d1⟩ := fmod_bd (n2 * n2) 2147483587 (by decide)
  exact ⟨(n2 * n2).fmod 2147483587, d0, d1, by simp [q4__law_mixed, modD_ok, mulD_ok e1, hn, mulD_ok (mulOk_left b1), mulD_ok e2, hn2, mulD_ok (mulOk_left b2)]⟩
theorem ev_mixed_mid (ns : List Int) (y : Sl) (c : Int) (k : Nat) (hk : k < 1000000) : ∃ m : Int, 0 ≤ m ∧ m < 2147483587 ∧ q2__law_mixed [.sh (.list (ns.map .int)), .sh (.int k), .sh (.int c), y] = .ok (.rt (.sh (.int m))) := by
  obtain ⟨b, eb⟩ := ev_block ns k
  obtain ⟨q0, q1⟩ := fmod_bd b 2147483587 (by decide)
  have hl : (ns.map PyData.int).length = ns.length := List.length_map _
  by_cases h1 : (c.fdiv 1000000).fmod 2 = 1 ∧ b ≠ 0
  · have h2 : (b == 0) = false := beq_eq_false_iff_ne.mpr h1.2
    exact ⟨b.fmod 2147483587, q0, q1, by simp [q2__law_mixed, divD_ok, divOk_lit, modD_ok, h1.1, eb, h2]⟩
  · have go : ∃ m : Int, 0 ≤ m ∧ m < 2147483587 ∧ (fSeq (fIf (fB (fOp gtD (fUn lenD (fVarB 0)) (fC (.int 0)))) (fSet 2 (fV (fOp ixD (fVarB 0) (fOp modD (fVarB 1) (fOp min2D (fC (.int 63)) (fUn lenD (fVarB 0))))))) fSkip) q4__law_mixed) [.sh (.list (ns.map .int)), .sh (.int k), .sh (.int c), y] = .ok (.rt (.sh (.int m))) := by
      by_cases h0 : 0 < ns.length
      · have hmin : (0 : Int) < (if (ns.length : Int) < 63 then (ns.length : Int) else 63) := by split <;> omega
        obtain ⟨i0, i1⟩ := fmod_bd (k : Int) _ hmin
        have hi : ((k : Int).fmod (if (ns.length : Int) < 63 then (ns.length : Int) else 63)).toNat < ns.length := by
          split at i1 <;> split <;> omega
        have hg := getP_int (ds := ns.map PyData.int) i0 (by rw [List.getElem?_map, List.getElem?_eq_getElem hi]; rfl)
        obtain ⟨m, m0, m1, e⟩ := ev_mixed_tail (.sh (.list (ns.map .int))) y (ns[((k : Int).fmod (if (ns.length : Int) < 63 then (ns.length : Int) else 63)).toNat]) k hk
        have hmd := modD_ok (a := (k : Int)) (show (if (ns.length : Int) < 63 then (ns.length : Int) else 63) ≠ 0 by omega)
        have h00 : (0 : Int) < ns.length := by omega
        exact ⟨m, m0, m1, by simp [hl, h0, h00, hmd, hg, e]⟩
      · obtain ⟨m, m0, m1, e⟩ := ev_mixed_tail (.sh (.list (ns.map .int))) y c k hk
        have h00 : ¬ (0 : Int) < ns.length := by omega
        exact ⟨m, m0, m1, by simp [hl, h0, h00, e]⟩
    obtain ⟨m, m0, m1, e⟩ := go
    refine ⟨m, m0, m1, ?_⟩
    unfold q2__law_mixed
    rw [z_seq]
    by_cases h3 : (c.fdiv 1000000).fmod 2 = 1
    · have h2 : b = 0 := by
        by_cases hb : b = 0
        · exact hb
        · exact absurd ⟨h3, hb⟩ h1
      subst h2
      rw [show (fIf (fAnd (fB (fOp eqD (fOp modD (fOp divD (fVarB 2) (fOp powD (fC (.int 10)) (fC (.int 6)))) (fC (.int 2))) (fC (.int 1)))) (fB (fOp neD (fSh (fCall f__law_block (fCons (fVarS 0) (fCons (fVarS 1) fNil)))) (fC (.int 0)))))
        (fRet (fV (fOp modD (fSh (fCall f__law_block (fCons (fVarS 0) (fCons (fVarS 1) fNil)))) (fC (.int 2147483587))))) fSkip) [.sh (.list (ns.map .int)), .sh (.int k), .sh (.int c), y] = .ok (.nx [.sh (.list (ns.map .int)), .sh (.int k), .sh (.int c), y]) by
          simp [divD_ok, divOk_lit, modD_ok, h3, eb], z_anx]
      exact e
    · have h4 : ((c.fdiv 1000000).fmod 2 == 1) = false := beq_eq_false_iff_ne.mpr h3
      rw [show (fIf (fAnd (fB (fOp eqD (fOp modD (fOp divD (fVarB 2) (fOp powD (fC (.int 10)) (fC (.int 6)))) (fC (.int 2))) (fC (.int 1)))) (fB (fOp neD (fSh (fCall f__law_block (fCons (fVarS 0) (fCons (fVarS 1) fNil)))) (fC (.int 0)))))
        (fRet (fV (fOp modD (fSh (fCall f__law_block (fCons (fVarS 0) (fCons (fVarS 1) fNil)))) (fC (.int 2147483587))))) fSkip) [.sh (.list (ns.map .int)), .sh (.int k), .sh (.int c), y] = .ok (.nx [.sh (.list (ns.map .int)), .sh (.int k), .sh (.int c), y]) by
          simp [divD_ok, divOk_lit, modD_ok, h4, eb], z_anx]
      exact e
theorem ev_mixed (ns : List Int) (k : Nat) (hk : k < 1000000) : ∃ m : Int, 0 ≤ m ∧ m < 2147483587 ∧ f__law_mixed [.list (ns.map .int), .int k] = .ok (.sh (.int m)) := by
  cases ns with
  | nil =>
    obtain ⟨m, m0, m1, e⟩ := ev_mixed_mid [] .no 0 k hk
    simp only [List.map_nil] at e
    exact ⟨m, m0, m1, by simp [f__law_mixed, fnOf2, b__law_mixed, e]⟩
  | cons n0 ns =>
    obtain ⟨m, m0, m1, e⟩ := ev_mixed_mid (n0 :: ns) .no n0 k hk
    simp only [List.map_cons] at e
    have h0 : (0 : Int) < (((PyData.int n0 :: ns.map PyData.int).length : Nat) : Int) := by rw [List.length_cons]; omega
    exact ⟨m, m0, m1, by simp only [f__law_mixed, fnOf2, b__law_mixed, z_seq, List.map_cons]; simp [e]⟩
theorem ev_lplain (b : Bool) (row : List Int) (hn : ∃ x ∈ row, x ≠ 0) (hb : ∀ x ∈ row, x.natAbs < 2 ^ 9000) (hl : row.length ≤ 1000) : f__law_plain [seqD b (row.map .int)] = .ok (.sh (TD (plainL row))) := by
  have hit : itemsM (seqD b (row.map .int)) = .ok (row.map .int) := by cases b <;> rfl
  generalize hS : seqD b (row.map PyData.int) = S at *
  obtain ⟨h, _⟩ := for_fold (T := tgN 3) (B := p1__law_plain) (σ := Int × Int × Sl) (fun s => [.sh S, .sh (.int s.1), .sh (.int s.2.1), s.2.2]) PyData.int plainF (fun _ => True)
    row (0, 0, .no) trivial fun s a _ _ => ⟨trivial, _, rfl, by
      by_cases h0 : s.2.1 = 0
      · simp [p1__law_plain, ev_ldivisor, plainF, gcdF, leadF, fz1_eq, h0]
      · simp [p1__law_plain, ev_ldivisor, plainF, gcdF, leadF, fz1_eq, h0]⟩
  obtain ⟨y, hy⟩ := plainF_fold row (0, 0, .no)
  rw [hy] at h
  have h : forF (tgN 3) p1__law_plain (row.map .int) [.sh S, .sh (.int 0), .sh (.int 0), .no] = .ok (.nx [.sh S, .sh (.int (gcdL row)), .sh (.int (leadL row)), y]) := h
  obtain ⟨x, hx, hx0⟩ := id hn
  have hdv : ∀ a, divOk a (plainBy row) := fun a => divOk_of (plainBy_ne hn) (by rw [plainBy_abs]; exact Nat.lt_of_le_of_lt (gcdL_le hx hx0) (hb x hx)) (Nat.le_refl _)
  have lc : ∀ z : Sl, fLcS (fIt itemsM (fVarS 0)) (tgN 3) fYes (fOp divD (fVarB 3) (fVarB 1)) [3] [.sh S, .sh (.int (plainBy row)), .sh (.int (leadL row)), z] = .ok (.ol (row.map fun x => PyData.int (x.fdiv (plainBy row)))) := fun z =>
    lcS_map row PyData.int _ (by simp [hit]) (fun x _ => ⟨_, rfl, by simp [wipeE, divD_ok (hdv _)]⟩) (Nat.le_trans hl (by decide))
  have e2 : TD (plainL row) = .tuple (row.map fun x => PyData.int (x.fdiv (plainBy row))) := by unfold TD plainL; rw [List.map_map]; rfl
  rw [e2]
  generalize row.map (fun x => PyData.int (x.fdiv (plainBy row))) = OUT at *
  generalize row.map PyData.int = R at *
  by_cases hneg : leadL row < 0
  · have e3 : plainBy row = -gcdL row := by unfold plainBy; rw [if_pos hneg]; omega
    rw [e3] at lc
    simp [f__law_plain, fnOf1, b__law_plain, hit, h, hneg, lc]
  · have e3 : plainBy row = gcdL row := by unfold plainBy; rw [if_neg hneg]
    rw [e3] at lc
    simp [f__law_plain, fnOf1, b__law_plain, hit, h, hneg, lc]
theorem ev_lcellD (ns : List Int) (k : Int) (h : 0 ≤ k) : Cal f__law_cell_at [eL eI ns, eI k] (.sh (eI (lcell ns k))) := by
  have e : k = ((k.toNat : Nat) : Int) := by omega
  have := ev_lcell ns k.toNat
  rw [← e] at this
  exact cal_sh this
theorem ev_ligcd (a b : Int) : Cal f__law_divisor [eI a, eI b] (.sh (eI (igcd a b))) := cal_sh (ev_ldivisor a b)
open Classical in
noncomputable def lmixed (ns : List Int) (k : Int) : Int := if h : ∃ m : Int, 0 ≤ m ∧ m < 2147483587 ∧ f__law_mixed [eL eI ns, eI k] = .ok (.sh (eI m)) then Classical.choose h else 0
theorem lmixed_bd (ns : List Int) (k : Int) : 0 ≤ lmixed ns k ∧ lmixed ns k < 2147483587 := by
  unfold lmixed
  split
  · rename_i h
    exact ⟨(Classical.choose_spec h).1, (Classical.choose_spec h).2.1⟩
  · decide
theorem ev_lmixed (ns : List Int) (k : Int) (h : 0 ≤ k ∧ k < 1000000) : Cal f__law_mixed [eL eI ns, eI k] (.sh (eI (lmixed ns k))) := by
  have e : k = ((k.toNat : Nat) : Int) := by omega
  have hx : ∃ m : Int, 0 ≤ m ∧ m < 2147483587 ∧ f__law_mixed [eL eI ns, eI k] = .ok (.sh (eI m)) := by
    have := ev_mixed ns k.toNat (by omega)
    rw [← e] at this
    exact this
  refine cal_sh ?_
  unfold lmixed
  rw [dif_pos hx]
  exact (Classical.choose_spec hx).2.2
theorem ev_lplainL (row : List Int) (h : PlainD row) : Cal f__law_plain [eL eI row] (.sh (eT eI (plainL row))) := cal_sh (ev_lplain true row h.1 h.2.1 h.2.2)
theorem ev_lplainT (row : List Int) (h : PlainD row) : Cal f__law_plain [eT eI row] (.sh (eT eI (plainL row))) := cal_sh (ev_lplain false row h.1 h.2.1 h.2.2)
theorem ev_igcd (a b : Int) : Cal f_divisor [eI a, eI b] (.sh (eI (igcd a b))) := cal_sh (ev_divisor a b)
end PF

namespace PF
open PySem L2
section
variable {F G : Env → Rs PyData} {κ : List Kd} {α : Type}
theorem t_cnt {xs : List Int} {k : Int} (ha : E F κ (eL eI xs)) (hb : E G κ (eI k)) : E (fCnt F G) κ (eI ((List.count k xs : Nat) : Int)) := fun ρ q => by
  show (F ρ >>= fun a => itemsL a >>= fun ds => G ρ >>= fun b => cntD ds b) = _
  rw [ha ρ q, z_ok]
  show (itemsL (.list (xs.map eI)) >>= fun ds => G ρ >>= fun b => cntD ds b) = _
  rw [show itemsL (.list (xs.map eI)) = .ok (xs.map eI) from rfl, z_ok, hb ρ q, z_ok]
  show (intOf (eI k) >>= fun k => intsOf (xs.map eI) >>= fun is => Rs.ok (PyData.int (is.count k : Nat))) = _
  rw [show intOf (eI k) = .ok k from rfl, z_ok, ints_map, z_ok]
  rfl
theorem v_listRev {e : α → PyData} {xs : List α} (ha : E F κ (eL e xs)) : EV (fUn lstRevD F) κ (.ol (xs.reverse.map e)) := v_un ha (show lstRevD (.list (xs.map e)) = .ok (.ol (xs.map e).reverse) from rfl) (by rw [List.map_reverse]; rfl)
theorem v_listRg {b : Int} (ha : E F κ (eI b)) (hs : small62 b ∧ b ≤ 16777216) : EV (fUn (fun d => lstRgD [d]) F) κ (.ol ((irange 0 b).map eI)) := v_un ha (by
  show (rng1 [.int b] >>= fun is => if is.length ≤ 2 ^ 24 then Rs.ok (Sl.ol is) else Rs.stuck) = _
  rw [show rng1 [.int b] = .ok (rangeD 0 b) from if_pos hs.1, z_ok, if_pos (by unfold rangeD; rw [List.length_map, List.length_range]; have := hs.2; omega)]) (by
  show _ = _
  unfold rangeD irange
  rw [List.map_map]
  rfl)
end
end PF
namespace PF
open PySem L2
section
variable {α σ τ : Type} {κ : List Kd} {B : Env → Rs Out}
theorem forQ_fold {i : Nat} {T : Tgt} {xs : List α} {e : α → PyData} {f : σ → α → σ ⊕ τ} {D : σ → α → Prop} {κs : σ → List Kd} {κt : σ → α → List Kd} {en : τ → Kd} (hk : ∀ s, (κs s)[i]? = some (.ol (xs.map e))) (hT : ∀ s x, TG T (κs s) (e x) (κt s x))
    (hB : ∀ s x, D s x → Rb B (κt s x) κs en (f s x)) : ∀ (ys pre : List α) (s : σ) (ρ : Env), xs = pre ++ ys → forDE f D ys s → Kn (κs s) ρ → match foldE f ys s with
    | .inl s' => ∃ ρ', forQ i T B (ys.length + 1) pre.length ρ = .ok (.nx ρ') ∧ Kn (κs s') ρ'
    | .inr t => ∃ u, forQ i T B (ys.length + 1) pre.length ρ = .ok (.rt u) ∧ (en t).ok u
  | [], pre, s, ρ, hx, _, q => by
    obtain ⟨u, e1, rfl⟩ := q.get (hk s)
    refine ⟨ρ, ?_, q⟩
    unfold forQ
    rw [e1]
    show (match (xs.map e)[pre.length]? with | some d => _ | none => _) = _
    rw [List.getElem?_eq_none (by rw [List.length_map, hx]; simp)]
  | x :: ys, pre, s, ρ, hx, h, q => by
    obtain ⟨u, e0, rfl⟩ := q.get (hk s)
    obtain ⟨ρ1, e1, q1⟩ := hT s x ρ q
    have h2 := hB s x h.1 ρ1 q1
    have h3 := h.2
    have ef : forQ i T B ((x :: ys).length + 1) pre.length ρ = after (B ρ1) (forQ i T B (ys.length + 1) (pre.length + 1)) := by
      conv => lhs; unfold forQ
      rw [e0]
      show (match (xs.map e)[pre.length]? with | some d => _ | none => _) = _
      rw [show (xs.map e)[pre.length]? = some (e x) by rw [hx, List.map_append, List.map_cons, List.getElem?_append_right (by rw [List.length_map]; exact Nat.le_refl _), List.length_map, Nat.sub_self]; rfl]
      show (match T (e x) ρ with | some ρ' => _ | none => _) = _
      rw [e1]
      rfl
    have hp : pre.length + 1 = (pre ++ [x]).length := by rw [List.length_append]; rfl
    rw [ef, hp]
    unfold foldE
    cases hf : f s x with
    | inl s' =>
      rw [hf] at h2 h3
      obtain ⟨ρ2, e2, q2⟩ := h2
      rw [e2, z_anx]
      exact forQ_fold hk hT hB ys (pre ++ [x]) s' ρ2 (by rw [hx, List.append_assoc]; rfl) h3 q2
    | inr t =>
      rw [hf] at h2
      obtain ⟨u, e2, q2⟩ := h2
      exact ⟨u, by rw [e2]; rfl, q2⟩
theorem rb_forQ {i : Nat} {T : Tgt} {xs : List α} {e : α → PyData} {f : σ → α → σ ⊕ τ} {D : σ → α → Prop} {κs : σ → List Kd} {κt : σ → α → List Kd} {s0 : σ} {en : τ → Kd} (hk : ∀ s, (κs s)[i]? = some (.ol (xs.map e))) (h0 : Kle κ (κs s0)) (hT : ∀ s x, TG T (κs s) (e x) (κt s x))
    (hB : ∀ s x, D s x → Rb B (κt s x) κs en (f s x)) (hD : forDE f D xs s0) : Rb (fForQ i T B) κ κs en (foldE f xs s0) := fun ρ q => by
  have q0 := h0 ρ q
  obtain ⟨u, e1, rfl⟩ := q0.get (hk s0)
  have h := forQ_fold hk hT hB xs [] s0 ρ rfl hD q0
  have e0 : fForQ i T B ρ = forQ i T B (xs.length + 1) 0 ρ := by
    unfold fForQ
    rw [e1]
    show forQ i T B ((xs.map e).length + 1) 0 ρ = _
    rw [List.length_map]
  rw [e0]
  exact h
end
end PF
namespace PF
open PySem L2
/-! dicts of our own, sorted lists -/
def dEnc {α : Type} (e : α → PyData) (kvs : List (List Int × α)) : List (List Int × PyData) := kvs.map fun p => (p.1, e p.2)
theorem dEnc_put {α : Type} (e : α → PyData) (kvs : List (List Int × α)) (k : List Int) (v : α) : putI (dEnc e kvs) k (e v) = dEnc e (putI kvs k v) := by
  unfold putI dEnc
  rw [List.any_map]
  have : ((fun kv : List Int × PyData => decide (kv.1 = k)) ∘ fun p : List Int × α => (p.1, e p.2)) = fun kv => decide (kv.1 = k) := rfl
  rw [this]
  by_cases h : (kvs.any fun kv => decide (kv.1 = k)) = true
  · rw [if_pos h, if_pos h, List.map_map, List.map_map]
    refine List.map_congr_left fun p _ => ?_
    show (if p.1 = k then (p.1, e v) else (p.1, e p.2)) = ((if p.1 = k then (p.1, v) else p).1, e (if p.1 = k then (p.1, v) else p).2)
    by_cases hk : p.1 = k
    · rw [if_pos hk, if_pos hk]
    · rw [if_neg hk, if_neg hk]
  · rw [if_neg h, if_neg h, List.map_append]
    rfl
theorem dEnc_get {α : Type} (e : α → PyData) (k : List Int) : ∀ kvs : List (List Int × α), getI (dEnc e kvs) k = (getI kvs k).map e
  | [] => rfl
  | p :: kvs => by
    have ih := dEnc_get e k kvs
    unfold getI dEnc at *
    rw [List.map_cons, List.find?_cons, List.find?_cons]
    by_cases h : p.1 = k
    · rw [decide_eq_true h]
      rfl
    · rw [decide_eq_false h]
      exact ih
theorem key_eT (k : List Int) : keyOf (eT eI k) = .ok k := ints_map k
section
variable {α : Type} {κ κ' : List Kd} {F G : Env → Rs PyData}
theorem v_newD {e : α → PyData} : EV fNewD κ (.od (dEnc e ([] : List (List Int × α)))) := fun ρ _ => ⟨.od [], rfl, rfl⟩
theorem sn_dset {e : α → PyData} {kvs : List (List Int × α)} {v : α} {k : List Int} (i : Nat) (h : κ[i]? = some (.od (dEnc e kvs))) (hv : E F κ (e v)) (hk : E G κ (eT eI k)) (hl : kvs.length < lim) (hs : κ.set i (.od (dEnc e (putI kvs k v))) = κ' := by rfl) : Sn (fDSet i F G) κ κ' := fun ρ q => by
  obtain ⟨s, e1, rfl⟩ := q.get h
  refine ⟨ρ.set i (.od (dEnc e (putI kvs k v))), ?_, by rw [← hs]; exact q.set i rfl⟩
  unfold fDSet
  rw [hv ρ q, z_ok, e1]
  show (G ρ >>= fun kd => keyOf kd >>= fun k => if (dEnc e kvs).length < lim then (.ok (.nx (ρ.set i (.od (putI (dEnc e kvs) k (e v))))) : Rs Out) else .stuck) = _
  rw [hk ρ q, z_ok, key_eT, z_ok, dEnc_put, if_pos (by unfold dEnc; rw [List.length_map]; exact hl)]
theorem t_dget {e : α → PyData} [Inhabited α] {kvs : List (List Int × α)} {k : List Int} (i : Nat) (h : κ[i]? = some (.od (dEnc e kvs))) (hk : E G κ (eT eI k)) (hc : (getI kvs k).isSome = true) : E (fDGet i G) κ (e ((getI kvs k).getD default)) := fun ρ q => by
  obtain ⟨s, e1, rfl⟩ := q.get h
  unfold fDGet
  rw [e1]
  show (G ρ >>= fun kd => keyOf kd >>= fun k => match getI (dEnc e kvs) k with | some d => (.ok d : Rs PyData) | none => .stuck) = _
  rw [hk ρ q, z_ok, key_eT, z_ok, dEnc_get]
  cases hg : getI kvs k with
  | none => rw [hg] at hc; cases hc
  | some a => rfl
theorem t_din {e : α → PyData} {kvs : List (List Int × α)} {k : List Int} (i : Nat) (h : κ[i]? = some (.od (dEnc e kvs))) (hk : E G κ (eT eI k)) : E (fDIn i G) κ (eB (getI kvs k).isSome) := fun ρ q => by
  obtain ⟨s, e1, rfl⟩ := q.get h
  unfold fDIn
  rw [hk ρ q, z_ok, key_eT, z_ok, e1]
  show Rs.ok (PyData.bool (getI (dEnc e kvs) k).isSome) = _
  rw [dEnc_get, Option.isSome_map]
  rfl
def sortOk (e : α → PyData) (xs : List α) : Prop := (alikeB (xs.map e) && sortB (xs.map e) && depB (xs.map e) && decide (xs.length ≤ lim)) = true
theorem v_sorted {e : α → PyData} {xs : List α} (ha : E F κ (eL e xs)) (hc : sortOk e xs) : EV (fUn sortD F) κ (.ol ((List.mergeSort xs (PySem.W.dataLe false e)).map e)) := v_un ha (show sortD (.list (xs.map e)) = .ok (.ol ((xs.map e).mergeSort (PySem.W.dataLe false id))) from by
  exact if_pos (by rw [List.length_map]; exact hc)) (by
  show Sl.ol _ = Sl.ol _
  rw [List.map_mergeSort (s := PySem.W.dataLe false id)]
  intro a _ b _
  rfl)
end
end PF
namespace PF
open PySem L2
theorem t_pair {α β : Type} {κ : List Kd} {F G : Env → Rs PyData} {e1 : α → PyData} {e2 : β → PyData} {a : α} {b : β} (ha : E F κ (e1 a)) (hb : E G κ (e2 b)) : E (fUn tupD (fCons F (fCons G fNil))) κ (eP e1 e2 (a, b)) := t_tup (a_cons ha (a_cons hb a_nil))
end PF

namespace PF
open PySem L2
section
variable {κ : List Kd} {F G : Env → Rs PyData} {α β γ : Type}
theorem t_lenP {e : α → PyData} {f : β → PyData} {p : α × β} (ha : E F κ (eP e f p)) : E (fUn lenD F) κ (eI 2) := t_un ha rfl
theorem t_lenP3 {e : α → PyData} {f : β → PyData} {g : γ → PyData} {p : α × β × γ} (ha : E F κ (eP3 e f g p)) : E (fUn lenD F) κ (eI 3) := t_un ha rfl
theorem t_bsub {a b : Bool} (ha : E F κ (eB a)) (hb : E G κ (eB b)) : E (fOp bsubD F G) κ (eI (ofB a - ofB b)) := t_op ha hb (by cases a <;> cases b <;> rfl)
theorem keys_eT : ∀ xs : List (List Int), keysOf (xs.map (eT eI)) = .ok xs
  | [] => rfl
  | x :: xs => by
    rw [List.map_cons]
    show (keyOf (eT eI x) >>= fun k => keysOf (xs.map (eT eI)) >>= fun ks => Rs.ok (k :: ks)) = _
    rw [key_eT, ok_bind, keys_eT xs, ok_bind]
theorem v_sortSet {xs : List (List Int)} (ha : E F κ (eL (eT eI) xs)) (hc : xs.length < 64 ∧ ((xs.all fun k => !k.isEmpty) = true ∨ xs.length ≤ 1)) : EV (fUn sortSetD F) κ (.ol ((sortSet xs).map (eT eI))) := v_un ha (show sortSetD (.list (xs.map (eT eI))) = .ok (.ol ((sortSet xs).map tupK)) from by rw [sortSetD_eq, keys_eT, ok_bind, if_pos hc]) rfl
end
end PF

namespace PF
open PySem L2
/-! ### a dict of our own or None -/
def kOd {α : Type} (e : α → PyData) : Option (List (List Int × α)) → Kd
  | none => .sh .none
  | some kvs => .od (dEnc e kvs)
theorem kod_get {α : Type} {e : α → PyData} {o : Option (List (List Int × α))} {κ : List Kd} {i : Nat} (h : κ[i]? = some (kOd e o)) (q : o.isSome = true) : κ[i]? = some (.od (dEnc e (o.getD default))) := by
  cases o with
  | none => cases q
  | some kvs => exact h
theorem nno_od {α : Type} {e : α → PyData} {o : Option (List (List Int × α))} : kOd e o ≠ .no := by cases o <;> exact fun h => nomatch h
theorem le_od {α : Type} {e : α → PyData} {o : Option (List (List Int × α))} (h : o.isSome = true) : (kOd e o).le (.od (dEnc e (o.getD default))) := by
  cases o with
  | none => cases h
  | some kvs => exact le_rf
section
variable {α : Type} {κ : List Kd} {F G : Env → Rs PyData}
theorem v_keys {e : α → PyData} {kvs : List (List Int × α)} (i : Nat) (h : κ[i]? = some (.od (dEnc e kvs))) : EV (fKeys i) κ (.ol ((kvs.map (·.1)).map (eT eI))) := fun ρ q => by
  obtain ⟨s, e1, rfl⟩ := q.get h
  refine ⟨.ol ((dEnc e kvs).map fun kv => tupK kv.1), by unfold fKeys; rw [e1]; rfl, ?_⟩
  show Sl.ol _ = Sl.ol _
  unfold dEnc
  rw [List.map_map, List.map_map]
  rfl
theorem v_vals {e : α → PyData} {kvs : List (List Int × α)} (i : Nat) (h : κ[i]? = some (.od (dEnc e kvs))) : EV (fVals i) κ (.ol ((kvs.map (·.2)).map e)) := fun ρ q => by
  obtain ⟨s, e1, rfl⟩ := q.get h
  refine ⟨.ol ((dEnc e kvs).map (·.2)), by unfold fVals; rw [e1]; rfl, ?_⟩
  show Sl.ol _ = Sl.ol _
  unfold dEnc
  rw [List.map_map, List.map_map]
  rfl
theorem t_getD {e : α → PyData} {kvs : List (List Int × α)} {k : List Int} {d : α} (i : Nat) (h : κ[i]? = some (.od (dEnc e kvs))) (hk : E F κ (eT eI k)) (hd : E G κ (e d)) : E (fDGetD i F G) κ (e ((getI kvs k).getD d)) := fun ρ q => by
  obtain ⟨s, e1, rfl⟩ := q.get h
  unfold fDGetD
  rw [e1]
  show (F ρ >>= fun kd => G ρ >>= fun d => keyOf kd >>= fun k => Rs.ok ((getI (dEnc e kvs) k).getD d)) = _
  rw [hk ρ q, z_ok, hd ρ q, z_ok, key_eT, z_ok, dEnc_get]
  cases getI kvs k <;> rfl
theorem t_noOd {e : α → PyData} {o : Option (List (List Int × α))} (i : Nat) (h : κ[i]? = some (kOd e o)) : E (fNoV i) κ (eB (decide (o = none))) := fun ρ q => by
  obtain ⟨s, e1, hk⟩ := q.get h
  unfold fNoV
  rw [e1]
  cases o with
  | none => cases hk; rfl
  | some kvs => cases hk; rfl
theorem v_rangeL {b : Int} (ha : E F κ (eI b)) (hs : small62 b ∧ b ≤ 16777216) : EV (fUn (fun d => lstRgD [d]) F) κ (.ol ((irange 0 b).map eI)) := v_listRg ha hs
end
end PF

namespace PF
open PySem L2
/-! an expression as a statement; a def that falls off its end -/
theorem sn_exp {κ : List Kd} {Fv : Env → Rs Sl} {k : Kd} (h : EV Fv κ k) : Sn (fExp Fv) κ κ := fun ρ q => by
  obtain ⟨s, e, r⟩ := h ρ q
  refine ⟨ρ, ?_, q⟩
  unfold fExp
  rw [e, z_ok]
theorem fin_last0 {κ κ0 : List Kd} {A : Env → Rs Out} (hA : Sn A κ κ0) : Fin A κ (fun r => .sh (eN r)) () := fun ρ q => by
  obtain ⟨ρ1, e1, q1⟩ := hA ρ q
  exact ⟨.sh .none, by rw [e1]; rfl, rfl⟩
end PF

namespace PF
open PySem L2
/-- a def that changes its caller's own list, in the typed layer -/
theorem mut_of {np n : Nat} {F : Env → Rs Out} {κ : List Kd} {α : Type} {e : α → PyData} {xs ys : List α} {as : List PyData} {κ1 : List α → List Kd} {r : List Kd} (h : Nb F κ κ1 ys) (hk : Kn κ (.ol (xs.map e) :: as.map Sl.sh ++ List.replicate (n - np) Sl.no)) (hl : as.length + 1 = np) (h0 : κ1 ys = .ol (ys.map e) :: r := by rfl) : fnM np n F (xs.map e) as = .ok (ys.map e) := by
  unfold fnM
  rw [if_pos hl]
  obtain ⟨ρ', e1, k⟩ := h _ hk
  rw [e1]
  rw [h0] at k
  cases ρ' with
  | nil => exact k.elim
  | cons s ρ' =>
    obtain rfl : s = .ol (ys.map e) := k.1
    rfl
end PF

namespace PF
open PySem L2
noncomputable def L1_law_digits (script5 : (List Int)) (start6 : Int) (base8 : Int) (s52 : ((List Int) × Int)) (k53 : Int) : ((List Int) × Int) :=
  (lt (if (decide ((Int.fmod ((lcell (script5) ((0 : Int)))) ((2 : Int))) = (1 : Int))) = true then (lt ((s52.1 ++ [(Int.fmod (s52.2) (base8))])) fun (z59 : (List Int)) => (lt (Int.fdiv (s52.2) (base8)) fun (number61 : Int) => (z59, number61))) else (lt (s52.1 ++ [(Int.fmod ((lmixed (script5) ((start6 + k53)))) (base8))]) fun (z62 : (List Int)) => (z62, s52.2))) fun (z64 : ((List Int) × Int)) => (z64.1, z64.2))
noncomputable def LD2_law_digits (script5 : (List Int)) (start6 : Int) (base8 : Int) (s52 : ((List Int) × Int)) (k53 : Int) : Prop :=
  (0 ≤ (0 : Int)) ∧ (if (decide ((Int.fmod ((lcell (script5) ((0 : Int)))) ((2 : Int))) = (1 : Int))) = true then (base8 ≠ 0) ∧ (List.length (s52.1) < lim) ∧ dlt ((s52.1 ++ [(Int.fmod (s52.2) (base8))])) fun (z59 : (List Int)) => (divOk (s52.2) (base8)) else (0 ≤ (start6 + k53) ∧ (start6 + k53) < 1000000) ∧ (base8 ≠ 0) ∧ (List.length (s52.1) < lim))
noncomputable def P_law_digits (script5 : (List Int)) (start6 : Int) (many7 : Int) (base8 : Int) : (List Int) :=
  (lt (([] : List Int)) fun (found38 : (List Int)) => (lt ((lcell (script5) ((1 : Int)))) fun (number40 : Int) => (lt ((List.foldl (L1_law_digits script5 start6 base8) ((found38, number40)) ((irange 0 (many7))))) fun (z65 : ((List Int) × Int)) => z65.1)))
def D_law_digits (script5 : (List Int)) (start6 : Int) (many7 : Int) (base8 : Int) : Prop :=
  dlt (([] : List Int)) fun (found38 : (List Int)) => (0 ≤ (1 : Int)) ∧ dlt ((lcell (script5) ((1 : Int)))) fun (number40 : Int) => (small62 (many7)) ∧ (forD (L1_law_digits script5 start6 base8) (LD2_law_digits script5 start6 base8) ((irange 0 (many7))) ((found38, number40))) ∧ dlt ((List.foldl (L1_law_digits script5 start6 base8) ((found38, number40)) ((irange 0 (many7))))) fun (z65 : ((List Int) × Int)) => True
theorem ev_P_law_digits (script5 : (List Int)) (start6 : Int) (many7 : Int) (base8 : Int) (h : D_law_digits script5 start6 many7 base8) : Cal f__law_digits [(eL eI) script5, eI start6, eI many7, eI base8] ((fun r => .ol (List.map eI r)) (P_law_digits script5 start6 many7 base8)) :=
  cal_of (n := 7) (κ := [.sh ((eL eI) (script5)), .sh (eI (start6)), .sh (eI (many7)), .sh (eI (base8)), .no, .no, .no]) (en := (fun r => .ol (List.map eI r)))
      (fin_seq (κ0 := fun (found38 : (List Int)) => [.sh ((eL eI) (script5)), .sh (eI (start6)), .sh (eI (many7)), .sh (eI (base8)), .ol ((found38).map eI), .no, .no]) (sn_set 4 (v_lst (m_nil (e := eI))))
   (fun found38 h39 => (fin_seq (κ0 := fun (number40 : Int) => [.sh ((eL eI) (script5)), .sh (eI (start6)), .sh (eI (many7)), .sh (eI (base8)), .ol ((found38).map eI), .sh (eI (number40)), .no]) (sn_set 5 (v_call (a_cons (t_s 0 rfl) (a_cons (t_int 1) a_nil)) (ev_lcellD (script5) ((1 : Int)) h39.1)))
   (fun number40 h41 => (fin_seq (κ0 := fun (z65 : ((List Int) × Int)) => [.sh ((eL eI) (script5)), .sh (eI (start6)), .sh (eI (many7)), .sh (eI (base8)), .ol ((z65.1).map eI), .sh (eI (z65.2)), .no]) (sn_for (f := (L1_law_digits script5 start6 base8)) (D := (LD2_law_digits script5 start6 base8)) (κs := fun (s52 : ((List Int) × Int)) => [.sh ((eL eI) (script5)), .sh (eI (start6)), .sh (eI (many7)), .sh (eI (base8)), .ol ((s52.1).map eI), .sh (eI (s52.2)), .no]) (κt := fun (s52 : ((List Int) × Int)) (k53 : Int) => [.sh ((eL eI) (script5)), .sh (eI (start6)), .sh (eI (many7)), .sh (eI (base8)), .ol ((s52.1).map eI), .sh (eI (s52.2)), .sh (eI (k53))]) (i_range1 (a_cons (t_s 2 rfl) a_nil) h41.1) (kle_cons le_rf (kle_cons le_rf (kle_cons le_rf (kle_cons le_rf (kle_cons le_rf (kle_cons le_rf (kle_cons le_no kle_nil))))))) (fun s52 k53 => (g_n 6))
   (fun s52 k53 h54 => (nb_last (κ0 := fun (z64 : ((List Int) × Int)) => [.sh ((eL eI) (script5)), .sh (eI (start6)), .sh (eI (many7)), .sh (eI (base8)), .ol ((z64.1).map eI), .sh (eI (z64.2)), .sh (eI (k53))]) (sn_if (κ1 := fun (z63 : ((List Int) × Int)) => [.sh ((eL eI) (script5)), .sh (eI (start6)), .sh (eI (many7)), .sh (eI (base8)), .ol ((z63.1).map eI), .sh (eI (z63.2)), .sh (eI (k53))]) (v1 := (lt ((s52.1 ++ [(Int.fmod (s52.2) (base8))])) fun (z59 : (List Int)) => (lt (Int.fdiv (s52.2) (base8)) fun (number61 : Int) => (z59, number61)))) (v2 := (lt (s52.1 ++ [(Int.fmod ((lmixed (script5) ((start6 + k53)))) (base8))]) fun (z62 : (List Int)) => (z62, s52.2))) (c_b (t_eq q_I (e := eI) (t_mod (s_sh (v_call (a_cons (t_s 0 rfl) (a_cons (t_int 0) a_nil)) (ev_lcellD (script5) ((0 : Int)) h54.1))) (t_int 2) (by decide)) (t_int 1))) (fun h57 => (nb_seq (κ0 := fun (z59 : (List Int)) => [.sh ((eL eI) (script5)), .sh (eI (start6)), .sh (eI (many7)), .sh (eI (base8)), .ol ((z59).map eI), .sh (eI (s52.2)), .sh (eI (k53))]) (sn_app 4 rfl (t_mod (t_b 5 rfl) (t_b 3 rfl) (ifT h54.2 h57).1) (ifT h54.2 h57).2.1)
   (fun z59 h60 => (nb_last (κ0 := fun (number61 : Int) => [.sh ((eL eI) (script5)), .sh (eI (start6)), .sh (eI (many7)), .sh (eI (base8)), .ol ((z59).map eI), .sh (eI (number61)), .sh (eI (k53))]) (sn_set 5 (v_s (t_div (t_b 5 rfl) (t_b 3 rfl) h60))) (fun number61 => (kle_cons le_rf (kle_cons le_rf (kle_cons le_rf (kle_cons le_rf (kle_cons le_rf (kle_cons le_rf (kle_cons le_rf kle_nil)))))))))) (ifT h54.2 h57).2.2)) (fun h58 => (nb_last (κ0 := fun (z62 : (List Int)) => [.sh ((eL eI) (script5)), .sh (eI (start6)), .sh (eI (many7)), .sh (eI (base8)), .ol ((z62).map eI), .sh (eI (s52.2)), .sh (eI (k53))]) (sn_app 4 rfl (t_mod (s_sh (v_call (a_cons (t_s 0 rfl) (a_cons (s_sh (v_addI (t_b 1 rfl) (t_b 6 rfl))) a_nil)) (ev_lmixed (script5) ((start6 + k53)) (ifF h54.2 h58).1))) (t_b 3 rfl) (ifF h54.2 h58).2.1) (ifF h54.2 h58).2.2) (fun z62 => (kle_cons le_rf (kle_cons le_rf (kle_cons le_rf (kle_cons le_rf (kle_cons le_rf (kle_cons le_rf (kle_cons le_rf kle_nil))))))))))) (fun z64 => (kle_cons le_rf (kle_cons le_rf (kle_cons le_rf (kle_cons le_rf (kle_cons le_rf (kle_cons le_rf (kle_cons le_no kle_nil)))))))))) h41.2.1)
   (fun z65 h66 => (fin_retVar (k := .ol ((z65.1).map eI)) (en := (fun r => .ol (List.map eI r))) (t := z65.1) 4 rfl (fun h => nomatch h) le_rf)) h41.2.2)) h39.2)) h)
      rfl ⟨rfl, ⟨rfl, ⟨rfl, ⟨rfl, ⟨trivial, ⟨trivial, ⟨trivial, trivial⟩⟩⟩⟩⟩⟩⟩
noncomputable def L1_law_fences (ways3 : Int) (digitsh126 : (List Int)) (s154 : ((List (List Int)))) (k155 : Int) : ((List (List Int))) :=
  (lt ((List.map (fun (digit157 : Int) => (digit157 - (3 : Int))) ((sMid (digitsh126) (((ways3 + (1 : Int)) * k155)) (((ways3 + (1 : Int)) * (k155 + (1 : Int)))))))) fun (row159 : (List Int)) => (lt (if (List.any ((List.dropLast (row159))) fun i => i != 0) = true then (lt ((plainL (row159))) fun (one172 : (List Int)) => (lt (if (!decide (one172 ∈ s154)) = true then (lt (s154 ++ [one172]) fun (z178 : (List (List Int))) => z178) else s154) fun (z180 : ((List (List Int)))) => z180)) else s154) fun (z182 : ((List (List Int)))) => z182))
noncomputable def LD2_law_fences (ways3 : Int) (digitsh126 : (List Int)) (s154 : ((List (List Int)))) (k155 : Int) : Prop :=
  (mulOk ((ways3 + (1 : Int))) (k155)) ∧ (mulOk ((ways3 + (1 : Int))) ((k155 + (1 : Int)))) ∧ (0 ≤ ((ways3 + (1 : Int)) * k155)) ∧ (0 ≤ ((ways3 + (1 : Int)) * (k155 + (1 : Int)))) ∧ (List.length ((sMid (digitsh126) (((ways3 + (1 : Int)) * k155)) (((ways3 + (1 : Int)) * (k155 + (1 : Int)))))) ≤ lim) ∧ dlt ((List.map (fun (digit157 : Int) => (digit157 - (3 : Int))) ((sMid (digitsh126) (((ways3 + (1 : Int)) * k155)) (((ways3 + (1 : Int)) * (k155 + (1 : Int)))))))) fun (row159 : (List Int)) => (if (List.any ((List.dropLast (row159))) fun i => i != 0) = true then (PlainD (row159)) ∧ dlt ((plainL (row159))) fun (one172 : (List Int)) => (if (!decide (one172 ∈ s154)) = true then (List.length (s154) < lim) else True) else True)
noncomputable def P_law_fences (script1 : (List Int)) (start2 : Int) (ways3 : Int) (many4 : Int) : (List (List Int)) :=
  (lt ((P_law_digits (script1) (start2) (((ways3 + (1 : Int)) * many4)) ((7 : Int)))) fun (digitsh126 : (List Int)) => (lt (([] : List (List Int))) fun (found128 : (List (List Int))) => (lt ((List.foldl (L1_law_fences ways3 digitsh126) (found128) ((irange 0 (many4))))) fun (z183 : ((List (List Int)))) => z183)))
def D_law_fences (script1 : (List Int)) (start2 : Int) (ways3 : Int) (many4 : Int) : Prop :=
  (mulOk ((ways3 + (1 : Int))) (many4)) ∧ (D_law_digits (script1) (start2) (((ways3 + (1 : Int)) * many4)) ((7 : Int))) ∧ dlt ((P_law_digits (script1) (start2) (((ways3 + (1 : Int)) * many4)) ((7 : Int)))) fun (digitsh126 : (List Int)) => dlt (([] : List (List Int))) fun (found128 : (List (List Int))) => (small62 (many4)) ∧ (forD (L1_law_fences ways3 digitsh126) (LD2_law_fences ways3 digitsh126) ((irange 0 (many4))) (found128)) ∧ dlt ((List.foldl (L1_law_fences ways3 digitsh126) (found128) ((irange 0 (many4))))) fun (z183 : ((List (List Int)))) => True
theorem ev_P_law_fences (script1 : (List Int)) (start2 : Int) (ways3 : Int) (many4 : Int) (h : D_law_fences script1 start2 ways3 many4) : Cal f__law_fences [(eL eI) script1, eI start2, eI ways3, eI many4] ((fun r => .ol (List.map (eT eI) r)) (P_law_fences script1 start2 ways3 many4)) :=
  cal_of (n := 10) (κ := [.sh ((eL eI) (script1)), .sh (eI (start2)), .sh (eI (ways3)), .sh (eI (many4)), .no, .no, .no, .no, .no, .no]) (en := (fun r => .ol (List.map (eT eI) r)))
      (fin_seq (κ0 := fun (digitsh126 : (List Int)) => [.sh ((eL eI) (script1)), .sh (eI (start2)), .sh (eI (ways3)), .sh (eI (many4)), .ol ((digitsh126).map eI), .no, .no, .no, .no, .no]) (sn_set 4 (v_call (a_cons (t_s 0 rfl) (a_cons (t_s 1 rfl) (a_cons (t_mul (s_sh (v_addI (t_b 2 rfl) (t_int 1))) (t_b 3 rfl) h.1) (a_cons (t_int 7) a_nil)))) (ev_P_law_digits (script1) (start2) (((ways3 + (1 : Int)) * many4)) ((7 : Int)) h.2.1)))
   (fun digitsh126 h127 => (fin_seq (κ0 := fun (found128 : (List (List Int))) => [.sh ((eL eI) (script1)), .sh (eI (start2)), .sh (eI (ways3)), .sh (eI (many4)), .ol ((digitsh126).map eI), .ol ((found128).map (eT eI)), .no, .no, .no, .no]) (sn_set 5 (v_lst (m_nil (e := (eT eI)))))
   (fun found128 h129 => (fin_seq (κ0 := fun (z183 : ((List (List Int)))) => [.sh ((eL eI) (script1)), .sh (eI (start2)), .sh (eI (ways3)), .sh (eI (many4)), .ol ((digitsh126).map eI), .ol ((z183).map (eT eI)), .no, .no, .no, .no]) (sn_for (f := (L1_law_fences ways3 digitsh126)) (D := (LD2_law_fences ways3 digitsh126)) (κs := fun (s154 : ((List (List Int)))) => [.sh ((eL eI) (script1)), .sh (eI (start2)), .sh (eI (ways3)), .sh (eI (many4)), .ol ((digitsh126).map eI), .ol ((s154).map (eT eI)), .no, .no, .no, .no]) (κt := fun (s154 : ((List (List Int)))) (k155 : Int) => [.sh ((eL eI) (script1)), .sh (eI (start2)), .sh (eI (ways3)), .sh (eI (many4)), .ol ((digitsh126).map eI), .ol ((s154).map (eT eI)), .sh (eI (k155)), .no, .no, .no]) (i_range1 (a_cons (t_s 3 rfl) a_nil) h129.1) (kle_cons le_rf (kle_cons le_rf (kle_cons le_rf (kle_cons le_rf (kle_cons le_rf (kle_cons le_rf (kle_cons le_no (kle_cons le_no (kle_cons le_no (kle_cons le_no kle_nil)))))))))) (fun s154 k155 => (g_n 6))
   (fun s154 k155 h156 => (nb_seq (κ0 := fun (row159 : (List Int)) => [.sh ((eL eI) (script1)), .sh (eI (start2)), .sh (eI (ways3)), .sh (eI (many4)), .ol ((digitsh126).map eI), .ol ((s154).map (eT eI)), .sh (eI (k155)), .ol ((row159).map eI), .no, .no]) (sn_set 7 (v_lm (g := fun (digit157 : Int) => (digit157 - (3 : Int))) (e2 := eI) (κt := fun digit157 => [.sh ((eL eI) (script1)), .sh (eI (start2)), .sh (eI (ways3)), .sh (eI (many4)), .ol ((digitsh126).map eI), .ol ((s154).map (eT eI)), .sh (eI (k155)), .no, .sh (eI (digit157)), .no]) (i_list (s_ol (v_slL (t_bo 4 rfl) (o_some (t_mul (s_sh (v_addI (t_b 2 rfl) (t_int 1))) (t_b 6 rfl) h156.1)) (o_some (t_mul (s_sh (v_addI (t_b 2 rfl) (t_int 1))) (s_sh (v_addI (t_b 6 rfl) (t_int 1))) h156.2.1)) (cut_mid h156.2.2.1 h156.2.2.2.1)))) (fun digit157 => (g_n 8)) (fun digit157 m158 => (t_sub (t_b 8 rfl) (t_int 3))) h156.2.2.2.2.1))
   (fun row159 h160 => (nb_last (κ0 := fun (z182 : ((List (List Int)))) => [.sh ((eL eI) (script1)), .sh (eI (start2)), .sh (eI (ways3)), .sh (eI (many4)), .ol ((digitsh126).map eI), .ol ((z182).map (eT eI)), .sh (eI (k155)), .no, .no, .no]) (sn_if (κ1 := fun (z181 : ((List (List Int)))) => [.sh ((eL eI) (script1)), .sh (eI (start2)), .sh (eI (ways3)), .sh (eI (many4)), .ol ((digitsh126).map eI), .ol ((z181).map (eT eI)), .sh (eI (k155)), .no, .no, .no]) (v1 := (lt ((plainL (row159))) fun (one172 : (List Int)) => (lt (if (!decide (one172 ∈ s154)) = true then (lt (s154 ++ [one172]) fun (z178 : (List (List Int))) => z178) else s154) fun (z180 : ((List (List Int)))) => z180))) (v2 := s154) (c_b (t_anyLI (s_ol (v_slL (t_bo 7 rfl) o_none (o_some (t_neg (t_int 1))) cut_init)))) (fun h170 => (nb_seq (κ0 := fun (one172 : (List Int)) => [.sh ((eL eI) (script1)), .sh (eI (start2)), .sh (eI (ways3)), .sh (eI (many4)), .ol ((digitsh126).map eI), .ol ((s154).map (eT eI)), .sh (eI (k155)), .sh ((eL eI) (row159)), .no, .sh ((eT eI) (one172))]) (sn_fz (z_ol' 7) (sn_set 9 (v_call (a_cons (t_s 7 rfl) a_nil) (ev_lplainL (row159) (ifT h160 h170).1))))
   (fun one172 h173 => (nb_last (κ0 := fun (z180 : ((List (List Int)))) => [.sh ((eL eI) (script1)), .sh (eI (start2)), .sh (eI (ways3)), .sh (eI (many4)), .ol ((digitsh126).map eI), .ol ((z180).map (eT eI)), .sh (eI (k155)), .sh ((eL eI) (row159)), .no, .sh ((eT eI) (one172))]) (sn_if (κ1 := fun (z179 : ((List (List Int)))) => [.sh ((eL eI) (script1)), .sh (eI (start2)), .sh (eI (ways3)), .sh (eI (many4)), .ol ((digitsh126).map eI), .ol ((z179).map (eT eI)), .sh (eI (k155)), .sh ((eL eI) (row159)), .no, .sh ((eT eI) (one172))]) (v1 := (lt (s154 ++ [one172]) fun (z178 : (List (List Int))) => z178)) (v2 := s154) (c_b (t_nin (q_T q_I) (e := (eT eI)) (t_b 9 rfl) (t_bo 5 rfl))) (fun h176 => (nb_last (κ0 := fun (z178 : (List (List Int))) => [.sh ((eL eI) (script1)), .sh (eI (start2)), .sh (eI (ways3)), .sh (eI (many4)), .ol ((digitsh126).map eI), .ol ((z178).map (eT eI)), .sh (eI (k155)), .sh ((eL eI) (row159)), .no, .sh ((eT eI) (one172))]) (sn_app 5 rfl (t_s 9 rfl) (ifT h173 h176)) (fun z178 => (kle_cons le_rf (kle_cons le_rf (kle_cons le_rf (kle_cons le_rf (kle_cons le_rf (kle_cons le_rf (kle_cons le_rf (kle_cons le_rf (kle_cons le_no (kle_cons le_rf kle_nil))))))))))))) (fun h177 => (nb_last0 (κ0 := [.sh ((eL eI) (script1)), .sh (eI (start2)), .sh (eI (ways3)), .sh (eI (many4)), .ol ((digitsh126).map eI), .ol ((s154).map (eT eI)), .sh (eI (k155)), .sh ((eL eI) (row159)), .no, .sh ((eT eI) (one172))]) sn_skip (kle_cons le_rf (kle_cons le_rf (kle_cons le_rf (kle_cons le_rf (kle_cons le_rf (kle_cons le_rf (kle_cons le_rf (kle_cons le_rf (kle_cons le_no (kle_cons le_rf kle_nil))))))))))))) (fun z180 => (kle_cons le_rf (kle_cons le_rf (kle_cons le_rf (kle_cons le_rf (kle_cons le_rf (kle_cons le_rf (kle_cons le_rf (kle_cons le_no (kle_cons le_no (kle_cons le_no kle_nil))))))))))))) (ifT h160 h170).2)) (fun h171 => (nb_last0 (κ0 := [.sh ((eL eI) (script1)), .sh (eI (start2)), .sh (eI (ways3)), .sh (eI (many4)), .ol ((digitsh126).map eI), .ol ((s154).map (eT eI)), .sh (eI (k155)), .ol ((row159).map eI), .no, .no]) sn_skip (kle_cons le_rf (kle_cons le_rf (kle_cons le_rf (kle_cons le_rf (kle_cons le_rf (kle_cons le_rf (kle_cons le_rf (kle_cons le_no (kle_cons le_no (kle_cons le_no kle_nil))))))))))))) (fun z182 => (kle_cons le_rf (kle_cons le_rf (kle_cons le_rf (kle_cons le_rf (kle_cons le_rf (kle_cons le_rf (kle_cons le_no (kle_cons le_no (kle_cons le_no (kle_cons le_no kle_nil))))))))))))) h156.2.2.2.2.2)) h129.2.1)
   (fun z183 h184 => (fin_retVar (k := .ol ((z183).map (eT eI))) (en := (fun r => .ol (List.map (eT eI) r))) (t := z183) 5 rfl (fun h => nomatch h) le_rf)) h129.2.2)) h127)) h.2.2)
      rfl ⟨rfl, ⟨rfl, ⟨rfl, ⟨rfl, ⟨trivial, ⟨trivial, ⟨trivial, ⟨trivial, ⟨trivial, ⟨trivial, trivial⟩⟩⟩⟩⟩⟩⟩⟩⟩⟩
noncomputable def L1_law_due (ways185 : Int) (shuts186 : (List (List Int))) (s213 : Unit) (place214 : Int) : (Unit ⊕ (Option Int)) :=
  ((lt ((List.getD (shuts186) (Int.toNat (place214)) default)) fun (one216 : (List Int)) => (if ((!decide ((List.length (one216) : Int) = (ways185 + (1 : Int)))) || ((!((List.any ((List.dropLast (one216))) fun i => i != 0))) || ((!decide ((plainL (one216)) = one216)) || (decide (one216 ∈ (sTake (shuts186) (place214))))))) = true then (.inr ((some (place214)))) else (.inl (())))) : Unit ⊕ (Option Int))
noncomputable def LD2_law_due (ways185 : Int) (shuts186 : (List (List Int))) (s213 : Unit) (place214 : Int) : Prop :=
  (0 ≤ place214 ∧ place214 < (List.length (shuts186) : Int)) ∧ dlt ((List.getD (shuts186) (Int.toNat (place214)) default)) fun (one216 : (List Int)) => (((!decide ((List.length (one216) : Int) = (ways185 + (1 : Int))))) = false → ((((!((List.any ((List.dropLast (one216))) fun i => i != 0)))) = false → ((PlainD (one216)) ∧ (((!decide ((plainL (one216)) = one216))) = false → ((0 ≤ place214)))))))
noncomputable def P_law_due (ways185 : Int) (shuts186 : (List (List Int))) : (Option Int) :=
  (orr (foldE (L1_law_due ways185 shuts186) ((irange 0 ((List.length (shuts186) : Int)))) (())) fun (z223 : Unit) => none)
def D_law_due (ways185 : Int) (shuts186 : (List (List Int))) : Prop :=
  (small62 ((List.length (shuts186) : Int))) ∧ (forDE (L1_law_due ways185 shuts186) (LD2_law_due ways185 shuts186) ((irange 0 ((List.length (shuts186) : Int)))) (())) ∧ orD (foldE (L1_law_due ways185 shuts186) ((irange 0 ((List.length (shuts186) : Int)))) (())) fun (z223 : Unit) => True
theorem ev_P_law_due (ways185 : Int) (shuts186 : (List (List Int))) (h : D_law_due ways185 shuts186) : Cal f__law_due [eI ways185, (eL (eT eI)) shuts186] ((fun r => .sh ((eO eI) r)) (P_law_due ways185 shuts186)) :=
  cal_of (n := 4) (κ := [.sh (eI (ways185)), .sh ((eL (eT eI)) (shuts186)), .no, .no]) (en := (fun r => .sh ((eO eI) r)))
      (fin_seqR (κ0 := fun (z223 : Unit) => [.sh (eI (ways185)), .sh ((eL (eT eI)) (shuts186)), .no, .no]) (rb_for (f := (L1_law_due ways185 shuts186)) (D := (LD2_law_due ways185 shuts186)) (κs := fun (s213 : Unit) => [.sh (eI (ways185)), .sh ((eL (eT eI)) (shuts186)), .no, .no]) (κt := fun (s213 : Unit) (place214 : Int) => [.sh (eI (ways185)), .sh ((eL (eT eI)) (shuts186)), .sh (eI (place214)), .no]) (i_range1 (a_cons (t_lenL (t_b 1 rfl)) a_nil) h.1) (kle_cons le_rf (kle_cons le_rf (kle_cons le_no (kle_cons le_no kle_nil)))) (fun s213 place214 => (g_n 2))
   (fun s213 place214 h215 => (rb_seq (κ0 := fun (one216 : (List Int)) => [.sh (eI (ways185)), .sh ((eL (eT eI)) (shuts186)), .sh (eI (place214)), .sh ((eT eI) (one216))]) (sn_set 3 (v_s (t_ixL (t_b 1 rfl) (t_b 2 rfl) h215.1)))
   (fun one216 h217 => (rb_if (c_or (c_b (t_ne q_I (e := eI) (t_lenT (t_b 3 rfl)) (s_sh (v_addI (t_b 0 rfl) (t_int 1))))) (fun q220 => (c_or (c_not (c_b (t_anyTI (s_sh (v_slT (t_b 3 rfl) o_none (o_some (t_neg (t_int 1))) cut_init))))) (fun q219 => (c_or (c_b (t_ne (q_T q_I) (e := (eT eI)) (s_sh (v_call (a_cons (s_ol (v_listT (t_b 3 rfl))) a_nil) (ev_lplainL (one216) ((h217 q220) q219).1))) (t_b 3 rfl))) (fun q218 => (c_b (t_in (q_T q_I) (e := (eT eI)) (t_b 3 rfl) (s_ol (v_slL (t_b 1 rfl) o_none (o_some (t_b 2 rfl)) (cut_take (((h217 q220) q219).2 q218)))))))))))) (fun h221 => (rb_retVar (k := .sh (eI (place214))) (en := (fun r => .sh ((eO eI) r))) (t := (some (place214))) 2 rfl (fun h => nomatch h) le_rf)) (fun h222 => (rb_last0 (κ0 := [.sh (eI (ways185)), .sh ((eL (eT eI)) (shuts186)), .sh (eI (place214)), .sh ((eT eI) (one216))]) sn_skip (kle_cons le_rf (kle_cons le_rf (kle_cons le_no (kle_cons le_no kle_nil)))))))) h215.2)) h.2.1)
   (fun z223 h224 => (fin_ret (en := (fun r => .sh ((eO eI) r))) (v_s t_non))) h.2.2)
      rfl ⟨rfl, ⟨rfl, ⟨trivial, ⟨trivial, trivial⟩⟩⟩⟩
noncomputable def L1_plain_wall  (s251 : (Int)) (number252 : Int) : (Int) :=
  (lt (igcd (s251) (number252)) fun (by254 : Int) => by254)
noncomputable def LD2_plain_wall  (s251 : (Int)) (number252 : Int) : Prop :=
  True
noncomputable def P_plain_wall (numbers225 : (List Int)) : (List Int) :=
  (lt ((0 : Int)) fun (by249 : Int) => (lt ((List.foldl L1_plain_wall (by249) (numbers225))) fun (z255 : (Int)) => (lt ((List.map (fun (number257 : Int) => number257) (List.filter (fun (number257 : Int) => (!decide (number257 = (0 : Int)))) ((List.dropLast (numbers225)))))) fun (heads260 : (List Int)) => (lt ((if (decide ((List.getD (heads260) (Int.toNat ((0 : Int))) default) < (0 : Int))) = true then (lt ((0 : Int) - z255) fun (by266 : Int) => by266) else z255)) fun (z268 : (Int)) => (List.map (fun (number270 : Int) => (Int.fdiv (number270) (z268))) (numbers225))))))
def D_plain_wall (numbers225 : (List Int)) : Prop :=
  dlt ((0 : Int)) fun (by249 : Int) => (forD L1_plain_wall LD2_plain_wall (numbers225) (by249)) ∧ dlt ((List.foldl L1_plain_wall (by249) (numbers225))) fun (z255 : (Int)) => (List.length ((List.dropLast (numbers225))) ≤ lim) ∧ dlt ((List.map (fun (number257 : Int) => number257) (List.filter (fun (number257 : Int) => (!decide (number257 = (0 : Int)))) ((List.dropLast (numbers225)))))) fun (heads260 : (List Int)) => (0 ≤ (0 : Int) ∧ (0 : Int) < (List.length (heads260) : Int)) ∧ dlt ((if (decide ((List.getD (heads260) (Int.toNat ((0 : Int))) default) < (0 : Int))) = true then (lt ((0 : Int) - z255) fun (by266 : Int) => by266) else z255)) fun (z268 : (Int)) => (∀ (number270 : Int), number270 ∈ numbers225 → ((divOk (number270) (z268)))) ∧ (List.length (numbers225) ≤ lim)
theorem ev_P_plain_wall (numbers225 : (List Int)) (h : D_plain_wall numbers225) : Cal f_plain_wall [(eT eI) numbers225] ((fun r => .sh ((eT eI) r)) (P_plain_wall numbers225)) :=
  cal_of (n := 4) (κ := [.sh ((eT eI) (numbers225)), .no, .no, .no]) (en := (fun r => .sh ((eT eI) r)))
      (fin_seq (κ0 := fun (by249 : Int) => [.sh ((eT eI) (numbers225)), .sh (eI (by249)), .no, .no]) (sn_set 1 (v_s (t_int 0)))
   (fun by249 h250 => (fin_seq (κ0 := fun (z255 : (Int)) => [.sh ((eT eI) (numbers225)), .sh (eI (z255)), .no, .no]) (sn_for (f := L1_plain_wall) (D := LD2_plain_wall) (κs := fun (s251 : (Int)) => [.sh ((eT eI) (numbers225)), .sh (eI (s251)), .no, .no]) (κt := fun (s251 : (Int)) (number252 : Int) => [.sh ((eT eI) (numbers225)), .sh (eI (s251)), .sh (eI (number252)), .no]) (i_tup (t_s 0 rfl)) (kle_cons le_rf (kle_cons le_rf (kle_cons le_no (kle_cons le_no kle_nil)))) (fun s251 number252 => (g_n 2))
   (fun s251 number252 h253 => (nb_last (κ0 := fun (by254 : Int) => [.sh ((eT eI) (numbers225)), .sh (eI (by254)), .sh (eI (number252)), .no]) (sn_fz (z_sh' 1) (sn_set 1 (v_call (a_cons (t_s 1 rfl) (a_cons (t_s 2 rfl) a_nil)) (ev_igcd (s251) (number252))))) (fun by254 => (kle_cons le_rf (kle_cons le_rf (kle_cons le_no (kle_cons le_no kle_nil))))))) h250.1)
   (fun z255 h256 => (fin_seq (κ0 := fun (heads260 : (List Int)) => [.sh ((eT eI) (numbers225)), .sh (eI (z255)), .no, .ol ((heads260).map eI)]) (sn_set 3 (v_lc (p := fun (number257 : Int) => (!decide (number257 = (0 : Int)))) (g := fun (number257 : Int) => number257) (e2 := eI) (κt := fun number257 => [.sh ((eT eI) (numbers225)), .sh (eI (z255)), .sh (eI (number257)), .no]) (i_tup (s_sh (v_slT (t_b 0 rfl) o_none (o_some (t_neg (t_int 1))) cut_init))) (fun number257 => (g_n 2)) (fun number257 m258 => (c_b (t_ne q_I (e := eI) (t_b 2 rfl) (t_int 0)))) (fun number257 m258 q259 => (t_s 2 rfl)) h256.1))
   (fun heads260 h261 => (fin_seq (κ0 := fun (z268 : (Int)) => [.sh ((eT eI) (numbers225)), .sh (eI (z268)), .no, .ol ((heads260).map eI)]) (sn_if (κ1 := fun (z267 : (Int)) => [.sh ((eT eI) (numbers225)), .sh (eI (z267)), .no, .ol ((heads260).map eI)]) (v1 := (lt ((0 : Int) - z255) fun (by266 : Int) => by266)) (v2 := z255) (c_b (t_lt (t_ixL (t_bo 3 rfl) (t_int 0) h261.1) (t_int 0))) (fun h264 => (nb_last (κ0 := fun (by266 : Int) => [.sh ((eT eI) (numbers225)), .sh (eI (by266)), .no, .ol ((heads260).map eI)]) (sn_set 1 (v_s (t_sub (t_int 0) (t_b 1 rfl)))) (fun by266 => (kle_cons le_rf (kle_cons le_rf (kle_cons le_no (kle_cons le_rf kle_nil))))))) (fun h265 => (nb_last0 (κ0 := [.sh ((eT eI) (numbers225)), .sh (eI (z255)), .no, .ol ((heads260).map eI)]) sn_skip (kle_cons le_rf (kle_cons le_rf (kle_cons le_no (kle_cons le_rf kle_nil)))))))
   (fun z268 h269 => (fin_ret (en := (fun r => .sh ((eT eI) r))) (v_s (t_tupL (s_ol (v_lm (g := fun (number270 : Int) => (Int.fdiv (number270) (z268))) (e2 := eI) (κt := fun number270 => [.sh ((eT eI) (numbers225)), .sh (eI (z268)), .sh (eI (number270)), .ol ((heads260).map eI)]) (i_tup (t_s 0 rfl)) (fun number270 => (g_n 2)) (fun number270 m271 => (t_div (t_b 2 rfl) (t_b 1 rfl) (h269.1 number270 m271))) h269.2)))))) h261.2)) h256.2)) h250.2)) h)
      rfl ⟨rfl, ⟨trivial, ⟨trivial, ⟨trivial, trivial⟩⟩⟩⟩
noncomputable def P_law_spoiled (shuts272 : (List (List Int))) (number273 : Int) : (List (List Int)) :=
  (lt ((Int.fmod (number273) ((List.length (shuts272) : Int)))) fun (at274 : Int) => (lt ((List.getD (shuts272) (Int.toNat (at274)) default)) fun (one276 : (List Int)) => (lt ((Int.fmod ((Int.fdiv (number273) ((16 : Int)))) ((7 : Int)))) fun (way278 : Int) => (lt ((if (decide (way278 = (0 : Int))) = true then (lt (iins (shuts272) ((Int.fmod ((Int.fdiv (number273) ((112 : Int)))) (((List.length (shuts272) : Int) + (1 : Int))))) (one276)) fun (z284 : (List (List Int))) => z284) else shuts272)) fun (z286 : ((List (List Int)))) => (lt ((if (decide (way278 = (1 : Int))) = true then (lt (iset (z286) (at274) ((List.map (fun (part294 : Int) => ((0 : Int) - part294)) (one276)))) fun (z296 : (List (List Int))) => z296) else z286)) fun (z298 : ((List (List Int)))) => (lt ((if (decide (way278 = (2 : Int))) = true then (lt (iset (z298) (at274) ((List.map (fun (part306 : Int) => (part306 * ((2 : Int) + (Int.fmod ((Int.fdiv (number273) ((112 : Int)))) ((8 : Int)))))) (one276)))) fun (z308 : (List (List Int))) => z308) else z298)) fun (z310 : ((List (List Int)))) => (lt ((if (decide (way278 = (3 : Int))) = true then (lt (iset (z310) (at274) (((List.replicate (Int.toNat (((List.length (one276) : Int) - (1 : Int)))) ((0 : Int))) ++ [(1 : Int)]))) fun (z316 : (List (List Int))) => z316) else z310)) fun (z318 : ((List (List Int)))) => (lt ((if (decide (way278 = (4 : Int))) = true then (lt (iset (z318) (at274) ((List.dropLast (one276)))) fun (z324 : (List (List Int))) => z324) else z318)) fun (z326 : ((List (List Int)))) => (lt ((if (decide (way278 = (5 : Int))) = true then (lt (iset (z326) (at274) ((one276 ++ [(0 : Int)]))) fun (z332 : (List (List Int))) => z332) else z326)) fun (z334 : ((List (List Int)))) => (lt (if (decide (way278 = (6 : Int))) = true then (lt (iset (z334) (at274) ((List.replicate (Int.toNat ((List.length (one276) : Int))) ((0 : Int))))) fun (z340 : (List (List Int))) => z340) else z334) fun (z342 : ((List (List Int)))) => z342))))))))))
def D_law_spoiled (shuts272 : (List (List Int))) (number273 : Int) : Prop :=
  ((List.length (shuts272) : Int) ≠ 0) ∧ dlt ((Int.fmod (number273) ((List.length (shuts272) : Int)))) fun (at274 : Int) => (0 ≤ at274 ∧ at274 < (List.length (shuts272) : Int)) ∧ dlt ((List.getD (shuts272) (Int.toNat (at274)) default)) fun (one276 : (List Int)) => (divOk (number273) ((16 : Int))) ∧ dlt ((Int.fmod ((Int.fdiv (number273) ((16 : Int)))) ((7 : Int)))) fun (way278 : Int) => (if (decide (way278 = (0 : Int))) = true then (divOk (number273) ((112 : Int))) ∧ (((List.length (shuts272) : Int) + (1 : Int)) ≠ 0) ∧ (List.length (shuts272) < lim ∧ 0 ≤ (Int.fmod ((Int.fdiv (number273) ((112 : Int)))) (((List.length (shuts272) : Int) + (1 : Int)))) ∧ (Int.fmod ((Int.fdiv (number273) ((112 : Int)))) (((List.length (shuts272) : Int) + (1 : Int)))) < 2 ^ 63) else True) ∧ dlt ((if (decide (way278 = (0 : Int))) = true then (lt (iins (shuts272) ((Int.fmod ((Int.fdiv (number273) ((112 : Int)))) (((List.length (shuts272) : Int) + (1 : Int))))) (one276)) fun (z284 : (List (List Int))) => z284) else shuts272)) fun (z286 : ((List (List Int)))) => (if (decide (way278 = (1 : Int))) = true then (List.length (one276) ≤ lim) ∧ (0 ≤ at274 ∧ at274 < (List.length (z286) : Int)) else True) ∧ dlt ((if (decide (way278 = (1 : Int))) = true then (lt (iset (z286) (at274) ((List.map (fun (part294 : Int) => ((0 : Int) - part294)) (one276)))) fun (z296 : (List (List Int))) => z296) else z286)) fun (z298 : ((List (List Int)))) => (if (decide (way278 = (2 : Int))) = true then (∀ (part306 : Int), part306 ∈ one276 → ((divOk (number273) ((112 : Int))) ∧ (mulOk (part306) (((2 : Int) + (Int.fmod ((Int.fdiv (number273) ((112 : Int)))) ((8 : Int)))))))) ∧ (List.length (one276) ≤ lim) ∧ (0 ≤ at274 ∧ at274 < (List.length (z298) : Int)) else True) ∧ dlt ((if (decide (way278 = (2 : Int))) = true then (lt (iset (z298) (at274) ((List.map (fun (part306 : Int) => (part306 * ((2 : Int) + (Int.fmod ((Int.fdiv (number273) ((112 : Int)))) ((8 : Int)))))) (one276)))) fun (z308 : (List (List Int))) => z308) else z298)) fun (z310 : ((List (List Int)))) => (if (decide (way278 = (3 : Int))) = true then (((List.length (one276) : Int) - (1 : Int)) ≤ 1000000 ∧ -1000000 ≤ ((List.length (one276) : Int) - (1 : Int))) ∧ (List.length ((List.replicate (Int.toNat (((List.length (one276) : Int) - (1 : Int)))) ((0 : Int)))) + List.length ([(1 : Int)]) ≤ lim) ∧ (0 ≤ at274 ∧ at274 < (List.length (z310) : Int)) else True) ∧ dlt ((if (decide (way278 = (3 : Int))) = true then (lt (iset (z310) (at274) (((List.replicate (Int.toNat (((List.length (one276) : Int) - (1 : Int)))) ((0 : Int))) ++ [(1 : Int)]))) fun (z316 : (List (List Int))) => z316) else z310)) fun (z318 : ((List (List Int)))) => (if (decide (way278 = (4 : Int))) = true then (0 ≤ at274 ∧ at274 < (List.length (z318) : Int)) else True) ∧ dlt ((if (decide (way278 = (4 : Int))) = true then (lt (iset (z318) (at274) ((List.dropLast (one276)))) fun (z324 : (List (List Int))) => z324) else z318)) fun (z326 : ((List (List Int)))) => (if (decide (way278 = (5 : Int))) = true then (List.length (one276) + List.length ([(0 : Int)]) ≤ lim) ∧ (0 ≤ at274 ∧ at274 < (List.length (z326) : Int)) else True) ∧ dlt ((if (decide (way278 = (5 : Int))) = true then (lt (iset (z326) (at274) ((one276 ++ [(0 : Int)]))) fun (z332 : (List (List Int))) => z332) else z326)) fun (z334 : ((List (List Int)))) => (if (decide (way278 = (6 : Int))) = true then ((List.length (one276) : Int) ≤ 1000000 ∧ -1000000 ≤ (List.length (one276) : Int)) ∧ (0 ≤ at274 ∧ at274 < (List.length (z334) : Int)) else True)
theorem ev_P_law_spoiled (shuts272 : (List (List Int))) (number273 : Int) (h : D_law_spoiled shuts272 number273) : f__law_spoiled (shuts272.map (eT eI)) [eI number273] = .ok ((P_law_spoiled shuts272 number273).map (eT eI)) :=
  mut_of (κ := [.ol ((shuts272).map (eT eI)), .sh (eI (number273)), .no, .no, .no, .no]) (κ1 := fun (z0 : (List (List Int))) => [.ol ((z0).map (eT eI)), .no, .no, .no, .no, .no]) (e := (eT eI))
      (nb_seq (κ0 := fun (at274 : Int) => [.ol ((shuts272).map (eT eI)), .sh (eI (number273)), .sh (eI (at274)), .no, .no, .no]) (sn_set 2 (v_s (t_mod (t_b 1 rfl) (t_lenL (t_bo 0 rfl)) h.1)))
   (fun at274 h275 => (nb_seq (κ0 := fun (one276 : (List Int)) => [.ol ((shuts272).map (eT eI)), .sh (eI (number273)), .sh (eI (at274)), .sh ((eT eI) (one276)), .no, .no]) (sn_set 3 (v_s (t_ixL (t_bo 0 rfl) (t_b 2 rfl) h275.1)))
   (fun one276 h277 => (nb_seq (κ0 := fun (way278 : Int) => [.ol ((shuts272).map (eT eI)), .sh (eI (number273)), .sh (eI (at274)), .sh ((eT eI) (one276)), .sh (eI (way278)), .no]) (sn_set 4 (v_s (t_mod (t_div (t_b 1 rfl) (t_int 16) h277.1) (t_int 7) (by decide))))
   (fun way278 h279 => (nb_seq (κ0 := fun (z286 : ((List (List Int)))) => [.ol ((z286).map (eT eI)), .sh (eI (number273)), .sh (eI (at274)), .sh ((eT eI) (one276)), .sh (eI (way278)), .no]) (sn_if (κ1 := fun (z285 : ((List (List Int)))) => [.ol ((z285).map (eT eI)), .sh (eI (number273)), .sh (eI (at274)), .sh ((eT eI) (one276)), .sh (eI (way278)), .no]) (v1 := (lt (iins (shuts272) ((Int.fmod ((Int.fdiv (number273) ((112 : Int)))) (((List.length (shuts272) : Int) + (1 : Int))))) (one276)) fun (z284 : (List (List Int))) => z284)) (v2 := shuts272) (c_b (t_eq q_I (e := eI) (t_b 4 rfl) (t_int 0))) (fun h282 => (nb_last (κ0 := fun (z284 : (List (List Int))) => [.ol ((z284).map (eT eI)), .sh (eI (number273)), .sh (eI (at274)), .sh ((eT eI) (one276)), .sh (eI (way278)), .no]) (sn_fz (z_sh' 3) (sn_ins 0 rfl (a_cons (t_mod (t_div (t_b 1 rfl) (t_int 112) (ifT h279.1 h282).1) (s_sh (v_addI (t_lenL (t_bo 0 rfl)) (t_int 1))) (ifT h279.1 h282).2.1) (a_cons (t_s 3 rfl) a_nil)) (ifT h279.1 h282).2.2)) (fun z284 => (kle_cons le_rf (kle_cons le_rf (kle_cons le_rf (kle_cons le_rf (kle_cons le_rf (kle_cons le_no kle_nil))))))))) (fun h283 => (nb_last0 (κ0 := [.ol ((shuts272).map (eT eI)), .sh (eI (number273)), .sh (eI (at274)), .sh ((eT eI) (one276)), .sh (eI (way278)), .no]) sn_skip (kle_cons le_rf (kle_cons le_rf (kle_cons le_rf (kle_cons le_rf (kle_cons le_rf (kle_cons le_no kle_nil)))))))))
   (fun z286 h287 => (nb_seq (κ0 := fun (z298 : ((List (List Int)))) => [.ol ((z298).map (eT eI)), .sh (eI (number273)), .sh (eI (at274)), .sh ((eT eI) (one276)), .sh (eI (way278)), .no]) (sn_if (κ1 := fun (z297 : ((List (List Int)))) => [.ol ((z297).map (eT eI)), .sh (eI (number273)), .sh (eI (at274)), .sh ((eT eI) (one276)), .sh (eI (way278)), .no]) (v1 := (lt (iset (z286) (at274) ((List.map (fun (part294 : Int) => ((0 : Int) - part294)) (one276)))) fun (z296 : (List (List Int))) => z296)) (v2 := z286) (c_b (t_eq q_I (e := eI) (t_b 4 rfl) (t_int 1))) (fun h292 => (nb_last (κ0 := fun (z296 : (List (List Int))) => [.ol ((z296).map (eT eI)), .sh (eI (number273)), .sh (eI (at274)), .sh ((eT eI) (one276)), .sh (eI (way278)), .no]) (sn_fz (z_sh' 3) (sn_setIx 0 rfl (t_tupL (s_ol (v_lm (g := fun (part294 : Int) => ((0 : Int) - part294)) (e2 := eI) (κt := fun part294 => [.ol ((z286).map (eT eI)), .sh (eI (number273)), .sh (eI (at274)), .sh ((eT eI) (one276)), .sh (eI (way278)), .sh (eI (part294))]) (i_tup (t_s 3 rfl)) (fun part294 => (g_n 5)) (fun part294 m295 => (t_sub (t_int 0) (t_b 5 rfl))) (ifT h287.1 h292).1))) (t_b 2 rfl) (ifT h287.1 h292).2)) (fun z296 => (kle_cons le_rf (kle_cons le_rf (kle_cons le_rf (kle_cons le_rf (kle_cons le_rf (kle_cons le_no kle_nil))))))))) (fun h293 => (nb_last0 (κ0 := [.ol ((z286).map (eT eI)), .sh (eI (number273)), .sh (eI (at274)), .sh ((eT eI) (one276)), .sh (eI (way278)), .no]) sn_skip (kle_cons le_rf (kle_cons le_rf (kle_cons le_rf (kle_cons le_rf (kle_cons le_rf (kle_cons le_no kle_nil)))))))))
   (fun z298 h299 => (nb_seq (κ0 := fun (z310 : ((List (List Int)))) => [.ol ((z310).map (eT eI)), .sh (eI (number273)), .sh (eI (at274)), .sh ((eT eI) (one276)), .sh (eI (way278)), .no]) (sn_if (κ1 := fun (z309 : ((List (List Int)))) => [.ol ((z309).map (eT eI)), .sh (eI (number273)), .sh (eI (at274)), .sh ((eT eI) (one276)), .sh (eI (way278)), .no]) (v1 := (lt (iset (z298) (at274) ((List.map (fun (part306 : Int) => (part306 * ((2 : Int) + (Int.fmod ((Int.fdiv (number273) ((112 : Int)))) ((8 : Int)))))) (one276)))) fun (z308 : (List (List Int))) => z308)) (v2 := z298) (c_b (t_eq q_I (e := eI) (t_b 4 rfl) (t_int 2))) (fun h304 => (nb_last (κ0 := fun (z308 : (List (List Int))) => [.ol ((z308).map (eT eI)), .sh (eI (number273)), .sh (eI (at274)), .sh ((eT eI) (one276)), .sh (eI (way278)), .no]) (sn_fz (z_sh' 3) (sn_setIx 0 rfl (t_tupL (s_ol (v_lm (g := fun (part306 : Int) => (part306 * ((2 : Int) + (Int.fmod ((Int.fdiv (number273) ((112 : Int)))) ((8 : Int)))))) (e2 := eI) (κt := fun part306 => [.ol ((z298).map (eT eI)), .sh (eI (number273)), .sh (eI (at274)), .sh ((eT eI) (one276)), .sh (eI (way278)), .sh (eI (part306))]) (i_tup (t_s 3 rfl)) (fun part306 => (g_n 5)) (fun part306 m307 => (t_mul (t_b 5 rfl) (s_sh (v_addI (t_int 2) (t_mod (t_div (t_b 1 rfl) (t_int 112) ((ifT h299.1 h304).1 part306 m307).1) (t_int 8) (by decide)))) ((ifT h299.1 h304).1 part306 m307).2)) (ifT h299.1 h304).2.1))) (t_b 2 rfl) (ifT h299.1 h304).2.2)) (fun z308 => (kle_cons le_rf (kle_cons le_rf (kle_cons le_rf (kle_cons le_rf (kle_cons le_rf (kle_cons le_no kle_nil))))))))) (fun h305 => (nb_last0 (κ0 := [.ol ((z298).map (eT eI)), .sh (eI (number273)), .sh (eI (at274)), .sh ((eT eI) (one276)), .sh (eI (way278)), .no]) sn_skip (kle_cons le_rf (kle_cons le_rf (kle_cons le_rf (kle_cons le_rf (kle_cons le_rf (kle_cons le_no kle_nil)))))))))
   (fun z310 h311 => (nb_seq (κ0 := fun (z318 : ((List (List Int)))) => [.ol ((z318).map (eT eI)), .sh (eI (number273)), .sh (eI (at274)), .sh ((eT eI) (one276)), .sh (eI (way278)), .no]) (sn_if (κ1 := fun (z317 : ((List (List Int)))) => [.ol ((z317).map (eT eI)), .sh (eI (number273)), .sh (eI (at274)), .sh ((eT eI) (one276)), .sh (eI (way278)), .no]) (v1 := (lt (iset (z310) (at274) (((List.replicate (Int.toNat (((List.length (one276) : Int) - (1 : Int)))) ((0 : Int))) ++ [(1 : Int)]))) fun (z316 : (List (List Int))) => z316)) (v2 := z310) (c_b (t_eq q_I (e := eI) (t_b 4 rfl) (t_int 3))) (fun h314 => (nb_last (κ0 := fun (z316 : (List (List Int))) => [.ol ((z316).map (eT eI)), .sh (eI (number273)), .sh (eI (at274)), .sh ((eT eI) (one276)), .sh (eI (way278)), .no]) (sn_setIx 0 rfl (s_sh (v_addT (t_tupL (s_ol (v_rep1 (x := (0 : Int)) (v_lst (m_cons (e := eI) (t_int 0) m_nil)) (t_sub (t_lenT (t_b 3 rfl)) (t_int 1)) (ifT h311.1 h314).1))) (t_tup (m_cons (t_int 1) m_nil)) (ifT h311.1 h314).2.1)) (t_b 2 rfl) (ifT h311.1 h314).2.2) (fun z316 => (kle_cons le_rf (kle_cons le_rf (kle_cons le_rf (kle_cons le_rf (kle_cons le_rf (kle_cons le_no kle_nil))))))))) (fun h315 => (nb_last0 (κ0 := [.ol ((z310).map (eT eI)), .sh (eI (number273)), .sh (eI (at274)), .sh ((eT eI) (one276)), .sh (eI (way278)), .no]) sn_skip (kle_cons le_rf (kle_cons le_rf (kle_cons le_rf (kle_cons le_rf (kle_cons le_rf (kle_cons le_no kle_nil)))))))))
   (fun z318 h319 => (nb_seq (κ0 := fun (z326 : ((List (List Int)))) => [.ol ((z326).map (eT eI)), .sh (eI (number273)), .sh (eI (at274)), .sh ((eT eI) (one276)), .sh (eI (way278)), .no]) (sn_if (κ1 := fun (z325 : ((List (List Int)))) => [.ol ((z325).map (eT eI)), .sh (eI (number273)), .sh (eI (at274)), .sh ((eT eI) (one276)), .sh (eI (way278)), .no]) (v1 := (lt (iset (z318) (at274) ((List.dropLast (one276)))) fun (z324 : (List (List Int))) => z324)) (v2 := z318) (c_b (t_eq q_I (e := eI) (t_b 4 rfl) (t_int 4))) (fun h322 => (nb_last (κ0 := fun (z324 : (List (List Int))) => [.ol ((z324).map (eT eI)), .sh (eI (number273)), .sh (eI (at274)), .sh ((eT eI) (one276)), .sh (eI (way278)), .no]) (sn_setIx 0 rfl (s_sh (v_slT (t_b 3 rfl) o_none (o_some (t_neg (t_int 1))) cut_init)) (t_b 2 rfl) (ifT h319.1 h322)) (fun z324 => (kle_cons le_rf (kle_cons le_rf (kle_cons le_rf (kle_cons le_rf (kle_cons le_rf (kle_cons le_no kle_nil))))))))) (fun h323 => (nb_last0 (κ0 := [.ol ((z318).map (eT eI)), .sh (eI (number273)), .sh (eI (at274)), .sh ((eT eI) (one276)), .sh (eI (way278)), .no]) sn_skip (kle_cons le_rf (kle_cons le_rf (kle_cons le_rf (kle_cons le_rf (kle_cons le_rf (kle_cons le_no kle_nil)))))))))
   (fun z326 h327 => (nb_seq (κ0 := fun (z334 : ((List (List Int)))) => [.ol ((z334).map (eT eI)), .sh (eI (number273)), .sh (eI (at274)), .sh ((eT eI) (one276)), .sh (eI (way278)), .no]) (sn_if (κ1 := fun (z333 : ((List (List Int)))) => [.ol ((z333).map (eT eI)), .sh (eI (number273)), .sh (eI (at274)), .sh ((eT eI) (one276)), .sh (eI (way278)), .no]) (v1 := (lt (iset (z326) (at274) ((one276 ++ [(0 : Int)]))) fun (z332 : (List (List Int))) => z332)) (v2 := z326) (c_b (t_eq q_I (e := eI) (t_b 4 rfl) (t_int 5))) (fun h330 => (nb_last (κ0 := fun (z332 : (List (List Int))) => [.ol ((z332).map (eT eI)), .sh (eI (number273)), .sh (eI (at274)), .sh ((eT eI) (one276)), .sh (eI (way278)), .no]) (sn_setIx 0 rfl (s_sh (v_addT (t_b 3 rfl) (t_tup (m_cons (t_int 0) m_nil)) (ifT h327.1 h330).1)) (t_b 2 rfl) (ifT h327.1 h330).2) (fun z332 => (kle_cons le_rf (kle_cons le_rf (kle_cons le_rf (kle_cons le_rf (kle_cons le_rf (kle_cons le_no kle_nil))))))))) (fun h331 => (nb_last0 (κ0 := [.ol ((z326).map (eT eI)), .sh (eI (number273)), .sh (eI (at274)), .sh ((eT eI) (one276)), .sh (eI (way278)), .no]) sn_skip (kle_cons le_rf (kle_cons le_rf (kle_cons le_rf (kle_cons le_rf (kle_cons le_rf (kle_cons le_no kle_nil)))))))))
   (fun z334 h335 => (nb_last (κ0 := fun (z342 : ((List (List Int)))) => [.ol ((z342).map (eT eI)), .sh (eI (number273)), .sh (eI (at274)), .sh ((eT eI) (one276)), .sh (eI (way278)), .no]) (sn_if (κ1 := fun (z341 : ((List (List Int)))) => [.ol ((z341).map (eT eI)), .sh (eI (number273)), .sh (eI (at274)), .sh ((eT eI) (one276)), .sh (eI (way278)), .no]) (v1 := (lt (iset (z334) (at274) ((List.replicate (Int.toNat ((List.length (one276) : Int))) ((0 : Int))))) fun (z340 : (List (List Int))) => z340)) (v2 := z334) (c_b (t_eq q_I (e := eI) (t_b 4 rfl) (t_int 6))) (fun h338 => (nb_last (κ0 := fun (z340 : (List (List Int))) => [.ol ((z340).map (eT eI)), .sh (eI (number273)), .sh (eI (at274)), .sh ((eT eI) (one276)), .sh (eI (way278)), .no]) (sn_setIx 0 rfl (t_tupL (s_ol (v_rep1 (x := (0 : Int)) (v_lst (m_cons (e := eI) (t_int 0) m_nil)) (t_lenT (t_b 3 rfl)) (ifT h335 h338).1))) (t_b 2 rfl) (ifT h335 h338).2) (fun z340 => (kle_cons le_rf (kle_cons le_rf (kle_cons le_rf (kle_cons le_rf (kle_cons le_rf (kle_cons le_no kle_nil))))))))) (fun h339 => (nb_last0 (κ0 := [.ol ((z334).map (eT eI)), .sh (eI (number273)), .sh (eI (at274)), .sh ((eT eI) (one276)), .sh (eI (way278)), .no]) sn_skip (kle_cons le_rf (kle_cons le_rf (kle_cons le_rf (kle_cons le_rf (kle_cons le_rf (kle_cons le_no kle_nil))))))))) (fun z342 => (kle_cons le_rf (kle_cons le_no (kle_cons le_no (kle_cons le_no (kle_cons le_no (kle_cons le_no kle_nil))))))))) h327.2)) h319.2)) h311.2)) h299.2)) h287.2)) h279.2)) h277.2)) h275.2)) h.2)
      ⟨rfl, ⟨rfl, ⟨trivial, ⟨trivial, ⟨trivial, ⟨trivial, trivial⟩⟩⟩⟩⟩⟩ rfl
end PF

namespace PF
open PySem L2
/-! ### plain laws of lists, lots, sizes -/
theorem fold_snoc {α β : Type} (f : α → β) : ∀ (xs : List α) (s : List β), xs.foldl (fun s x => s ++ [f x]) s = s ++ xs.map f
  | [], s => by simp
  | x :: xs, s => by rw [List.foldl_cons, fold_snoc f xs, List.map_cons, List.append_assoc]; rfl
theorem fold_app {α β : Type} (f : α → List β) : ∀ (xs : List α) (s : List β), xs.foldl (fun s x => s ++ f x) s = s ++ xs.flatMap f
  | [], s => by simp
  | x :: xs, s => by rw [List.foldl_cons, fold_app f xs, List.flatMap_cons, List.append_assoc]
theorem mem_irange {a b x : Int} : x ∈ irange a b ↔ a ≤ x ∧ x < b := by
  unfold irange
  rw [List.mem_map]
  constructor
  · rintro ⟨i, hi, rfl⟩
    rw [List.mem_range] at hi
    omega
  · intro h
    exact ⟨(x - a).toNat, List.mem_range.mpr (by omega), by omega⟩
theorem irange_len (a b : Int) : (irange a b).length = (b - a).toNat := by unfold irange; rw [List.length_map, List.length_range]
theorem irange_get {a b : Int} {i : Nat} {x : Int} (h : (irange a b)[i]? = some x) : x = a + i ∧ (i : Int) < b - a := by
  unfold irange at h
  rw [List.getElem?_map] at h
  obtain ⟨j, hj, rfl⟩ := Option.map_eq_some_iff.mp h
  obtain ⟨hl, e⟩ := List.getElem?_eq_some_iff.mp hj
  rw [List.getElem_range] at e
  rw [List.length_range] at hl
  subst e
  exact ⟨rfl, by omega⟩
theorem irange_succ {a b : Int} (h : a < b) : irange a b = a :: irange (a + 1) b := by
  unfold irange
  have : (b - a).toNat = (b - (a + 1)).toNat + 1 := by omega
  rw [this, List.range_succ_eq_map, List.map_cons, List.map_map]
  congr 1
  · simp
  · apply List.map_congr_left
    intro i _
    show a + ((i + 1 : Nat) : Int) = a + 1 + i
    omega
theorem irange_nil {a b : Int} (h : b ≤ a) : irange a b = [] := by
  unfold irange
  have : (b - a).toNat = 0 := by omega
  rw [this]; rfl
theorem irange_snoc {a b : Int} (h : a ≤ b) : irange a (b + 1) = irange a b ++ [b] := by
  unfold irange
  have : (b + 1 - a).toNat = (b - a).toNat + 1 := by omega
  rw [this, List.range_succ, List.map_append, List.map_singleton]
  congr 2
  omega
theorem small_of {i : Int} (h : i.natAbs < 2 ^ 62) : small62 i := by unfold small62; omega
/-- a lot of n places -/
def Lot (n : Int) (l : List Int) : Prop := l.Pairwise (· < ·) ∧ ∀ x ∈ l, 0 ≤ x ∧ x < n
def nxt (l : List Int) : Int := if l = [] then 0 else l.getLastD 0 + 1
def extL (n : Int) (xs : List (List Int)) : List (List Int) := xs.flatMap fun l => (irange (nxt l) n).map fun p => l ++ [p]
def lotsK (n : Int) : Nat → List (List Int)
  | 0 => [[]]
  | k + 1 => extL n (lotsK n k)
/-- all lots, shorter ones first -/
def lots (n : Int) : List (List Int) := (List.range (n.toNat + 1)).flatMap (lotsK n)
theorem lot_snoc {n : Int} {l : List Int} {p : Int} (h : Lot n l) (h1 : nxt l ≤ p) (h2 : p < n) : Lot n (l ++ [p]) := by
  have key : ∀ x ∈ l, x < p := by
    intro x hx
    cases hl : l with
    | nil => rw [hl] at hx; cases hx
    | cons a b =>
      have hne : l ≠ [] := by rw [hl]; exact fun h => nomatch h
      have e : l.dropLast ++ [l.getLast hne] = l := List.dropLast_concat_getLast hne
      have e2 : l.getLastD 0 = l.getLast hne := by
        rw [List.getLastD_eq_getLast?, List.getLast?_eq_some_getLast hne]; rfl
      unfold nxt at h1
      rw [if_neg hne, e2] at h1
      have h3 : x ≤ l.getLast hne := by
        rw [← e] at hx
        rcases List.mem_append.mp hx with q | q
        · have := h.1
          rw [← e] at this
          have := (List.pairwise_append.mp this).2.2 x q (l.getLast hne) (List.mem_singleton.mpr rfl)
          omega
        · rw [List.mem_singleton.mp q]; omega
      omega
  refine ⟨List.pairwise_append.mpr ⟨h.1, List.pairwise_singleton _ _, fun a ha b hb => ?_⟩, fun x hx => ?_⟩
  · rw [List.mem_singleton.mp hb]; exact key a ha
  · rcases List.mem_append.mp hx with q | q
    · exact h.2 x q
    · rw [List.mem_singleton.mp q]
      refine ⟨?_, h2⟩
      cases l with
      | nil => simpa [nxt] using h1
      | cons a b => exact Int.le_of_lt (Int.lt_of_le_of_lt (h.2 a List.mem_cons_self).1 (key a List.mem_cons_self))
theorem mem_lotsK {n : Int} : ∀ {k : Nat} {l : List Int}, l ∈ lotsK n k ↔ Lot n l ∧ l.length = k
  | 0, l => by
    unfold lotsK
    rw [List.mem_singleton]
    constructor
    · rintro rfl; exact ⟨⟨List.Pairwise.nil, fun _ h => nomatch h⟩, rfl⟩
    · intro h; exact List.length_eq_zero_iff.mp h.2
  | k + 1, l => by
    unfold lotsK extL
    rw [List.mem_flatMap]
    constructor
    · rintro ⟨m, hm, hl⟩
      obtain ⟨p, hp, rfl⟩ := List.mem_map.mp hl
      obtain ⟨h1, h2⟩ := mem_lotsK.mp hm
      obtain ⟨h3, h4⟩ := mem_irange.mp hp
      exact ⟨lot_snoc h1 h3 h4, by rw [List.length_append, h2]; rfl⟩
    · rintro ⟨h, hl⟩
      have hne : l ≠ [] := fun z => by rw [z] at hl; cases hl
      have e : l.dropLast ++ [l.getLast hne] = l := List.dropLast_concat_getLast hne
      have hp := h.1
      rw [← e] at hp
      obtain ⟨q1, _, q3⟩ := List.pairwise_append.mp hp
      have hm : Lot n l.dropLast := ⟨q1, fun x hx => h.2 x ((List.dropLast_sublist _).subset hx)⟩
      have hlast := h.2 (l.getLast hne) (List.getLast_mem hne)
      refine ⟨l.dropLast, mem_lotsK.mpr ⟨hm, by rw [List.length_dropLast, hl]; rfl⟩, List.mem_map.mpr ⟨l.getLast hne, mem_irange.mpr ⟨?_, hlast.2⟩, e⟩⟩
      unfold nxt
      by_cases hd : l.dropLast = []
      · rw [if_pos hd]; exact hlast.1
      · rw [if_neg hd]
        have e2 : l.dropLast.getLastD 0 = l.dropLast.getLast hd := by
          rw [List.getLastD_eq_getLast?, List.getLast?_eq_some_getLast hd]; rfl
        rw [e2]
        have := q3 _ (List.getLast_mem hd) _ (List.mem_singleton.mpr rfl)
        omega
theorem lot_len : ∀ {l : List Int} {n : Int} {a : Int}, a ≤ n → l.Pairwise (· < ·) → (∀ x ∈ l, a ≤ x ∧ x < n) → (l.length : Int) ≤ n - a
  | [], n, a, h, _, _ => by simp; omega
  | x :: l, n, a, h, hp, hb => by
    obtain ⟨h1, h2⟩ := List.pairwise_cons.mp hp
    have hx := hb x List.mem_cons_self
    have := lot_len (l := l) (n := n) (a := x + 1) (by omega) h2 fun y hy => ⟨by have := h1 y hy; omega, (hb y (List.mem_cons_of_mem _ hy)).2⟩
    rw [List.length_cons]
    omega
theorem Lot.len {n : Int} {l : List Int} (h : Lot n l) (hn : 0 ≤ n) : l.length ≤ n.toNat := by
  have := lot_len (a := 0) hn h.1 h.2
  omega
theorem lotsK_nil {n : Int} {k : Nat} (hn : 0 ≤ n) (h : n.toNat < k) : lotsK n k = [] := by
  cases hl : lotsK n k with
  | nil => rfl
  | cons l ls =>
    have : l ∈ lotsK n k := by rw [hl]; exact List.mem_cons_self
    obtain ⟨h1, h2⟩ := mem_lotsK.mp this
    have := h1.len hn
    omega
theorem mem_lots {n : Int} (hn : 0 ≤ n) {l : List Int} : l ∈ lots n ↔ Lot n l := by
  unfold lots
  rw [List.mem_flatMap]
  constructor
  · rintro ⟨k, _, h⟩; exact (mem_lotsK.mp h).1
  · intro h
    exact ⟨l.length, List.mem_range.mpr (by have := h.len hn; omega), mem_lotsK.mpr ⟨h, rfl⟩⟩
theorem lotsK_size : ∀ n : Nat, n ≤ 9 → ∀ k : Nat, k ≤ 10 → (lotsK (n : Int) k).length ≤ 1000 := by decide +kernel
theorem lots_size : ∀ n : Nat, n ≤ 9 → (lots (n : Int)).length ≤ 1000 := by decide +kernel
theorem lotsK_ne : ∀ n : Nat, n ≤ 9 → ∀ k : Nat, k ≤ n → lotsK (n : Int) k ≠ [] := by decide +kernel
theorem fold_congr {α σ : Type} {f g : σ → α → σ} : ∀ (xs : List α) (s : σ), (∀ s, ∀ x ∈ xs, f s x = g s x) → xs.foldl f s = xs.foldl g s
  | [], _, _ => rfl
  | x :: xs, s, h => by
    rw [List.foldl_cons, List.foldl_cons, h s x List.mem_cons_self]
    exact fold_congr xs _ fun s y hy => h s y (List.mem_cons_of_mem _ hy)
theorem forDE_inl {α τ : Type} {f : Unit → α → Unit ⊕ τ} {D : Unit → α → Prop} : ∀ ks : List α, (∀ k ∈ ks, D () k ∧ f () k = .inl ()) → forDE f D ks () ∧ foldE f ks () = .inl ()
  | [], _ => ⟨trivial, rfl⟩
  | x :: ps, h => by
    obtain ⟨h1, h2⟩ := h x List.mem_cons_self
    obtain ⟨h3, h4⟩ := forDE_inl ps fun y hy => h y (List.mem_cons_of_mem _ hy)
    unfold forDE foldE
    rw [h2]
    exact ⟨⟨h1, h3⟩, h4⟩
end PF

namespace PF
open PySem L2
/-! ### determinants by their first row -/
def at0 (r : List Int) (c : Int) : Int := r.getD c.toNat 0
def lap (r : List Int) (D : List Int → Int) : List Int → List Int → Int
  | _, [] => 0
  | pre, c :: cs => at0 r c * D (pre ++ cs) - lap r D (pre ++ [c]) cs
def dc : List (List Int) → List Int → Int
  | [], _ => 1
  | r :: rs, cs => lap r (dc rs) [] cs
theorem natAbs_sub_le (a b : Int) : (a - b).natAbs ≤ a.natAbs + b.natAbs := by omega
theorem at0_bd {M : Nat} {r : List Int} (h : ∀ x ∈ r, x.natAbs ≤ M) (c : Int) : (at0 r c).natAbs ≤ M := by
  unfold at0
  rw [List.getD_eq_getElem?_getD]
  cases hg : r[c.toNat]? with
  | none => simp
  | some x => exact h x (List.mem_of_getElem? hg)
theorem lap_bd {M B : Nat} {r : List Int} {D : List Int → Int} (h : ∀ x ∈ r, x.natAbs ≤ M) (hD : ∀ cs, cs.length ≤ 8 → (D cs).natAbs ≤ B) : ∀ (cs pre : List Int), (pre.length + cs.length ≤ 8) → (lap r D pre cs).natAbs ≤ cs.length * (M * B)
  | [], _, _ => by simp [lap]
  | c :: cs, pre, hl => by
    rw [List.length_cons] at hl
    unfold lap
    have h1 := lap_bd h hD cs (pre ++ [c]) (by rw [List.length_append, List.length_singleton]; omega)
    have h2 : (at0 r c * D (pre ++ cs)).natAbs ≤ M * B := by
      rw [Int.natAbs_mul]
      exact Nat.mul_le_mul (at0_bd h c) (hD _ (by rw [List.length_append]; omega))
    have h3 := natAbs_sub_le (at0 r c * D (pre ++ cs)) (lap r D (pre ++ [c]) cs)
    rw [List.length_cons, Nat.add_mul, Nat.one_mul]
    omega
theorem dc_bd {M : Nat} : ∀ (rows : List (List Int)), (∀ r ∈ rows, ∀ x ∈ r, x.natAbs ≤ M) → ∀ cs : List Int, cs.length ≤ 8 → (dc rows cs).natAbs ≤ (8 * M) ^ rows.length
  | [], _, cs, _ => by simp [dc]
  | r :: rows, h, cs, hl => by
    have ih := dc_bd rows fun q hq => h q (List.mem_cons_of_mem _ hq)
    have := lap_bd (D := dc rows) (h r List.mem_cons_self) ih cs [] (by simpa using hl)
    unfold dc
    refine Nat.le_trans this ?_
    rw [List.length_cons, Nat.pow_succ, Nat.mul_comm ((8 * M) ^ _) (8 * M), Nat.mul_assoc]
    exact Nat.mul_le_mul_right _ hl
/-! ### the least common multiple of a list -/
def lcmS (s n : Int) : Int := if n = 0 then s else (Int.fdiv s (igcd s n)) * iabs n
theorem iabs_eq (a : Int) : iabs a = (a.natAbs : Int) := by unfold iabs; split <;> omega
theorem lcmS_eq {s n : Int} (hs : 0 < s) (hn : n ≠ 0) : lcmS s n = (Int.lcm s n : Int) := by
  unfold lcmS
  rw [if_neg hn, iabs_eq]
  have hg : (0 : Int) < igcd s n := by
    unfold igcd
    have := Int.gcd_pos_of_ne_zero_left n (show s ≠ 0 by omega)
    omega
  have hd : igcd s n ∣ s := Int.gcd_dvd_left s n
  have e1 : Int.fdiv s (igcd s n) * igcd s n = s := fdiv_mul_of_dvd hd
  have e2 : (Int.gcd s n : Int) * (Int.lcm s n : Int) = s.natAbs * n.natAbs := by
    rw [← Int.natCast_mul, Int.gcd_mul_lcm, Int.natCast_mul]
  have e3 : (s.natAbs : Int) = s := by omega
  have : igcd s n * (Int.fdiv s (igcd s n) * (n.natAbs : Int)) = igcd s n * (Int.lcm s n : Int) := by
    rw [← Int.mul_assoc, Int.mul_comm (igcd s n), e1]
    show s * _ = (Int.gcd s n : Int) * _
    rw [e2, e3]
  exact Int.eq_of_mul_eq_mul_left (by omega) this
theorem lcmS_pos {s n : Int} (hs : 0 < s) : 0 < lcmS s n := by
  by_cases hn : n = 0
  · unfold lcmS; rw [if_pos hn]; exact hs
  · rw [lcmS_eq hs hn]
    have : Int.lcm s n ≠ 0 := Int.lcm_ne_zero (by omega) hn
    omega
theorem lcmS_left {s n : Int} (hs : 0 < s) : s ∣ lcmS s n := by
  by_cases hn : n = 0
  · unfold lcmS; rw [if_pos hn]; exact Int.dvd_refl s
  · rw [lcmS_eq hs hn]; exact Int.dvd_lcm_left s n
theorem lcmS_right {s n : Int} (hs : 0 < s) (hn : n ≠ 0) : n ∣ lcmS s n := by
  rw [lcmS_eq hs hn]; exact Int.dvd_lcm_right s n
theorem lcmS_least {s n m : Int} (hs : 0 < s) (h1 : s ∣ m) (h2 : n ≠ 0 → n ∣ m) : lcmS s n ∣ m := by
  by_cases hn : n = 0
  · unfold lcmS; rw [if_pos hn]; exact h1
  · rw [lcmS_eq hs hn]; exact Int.coe_lcm_dvd h1 (h2 hn)
theorem lcmS_le {s n : Int} (hs : 0 < s) : lcmS s n ≤ s * max 1 (n.natAbs : Int) := by
  by_cases hn : n = 0
  · unfold lcmS; rw [if_pos hn, hn]; show s ≤ s * 1; omega
  · rw [lcmS_eq hs hn]
    have h1 : Int.lcm s n ∣ s.natAbs * n.natAbs := Int.lcm_dvd_natAbs_mul s n
    have h3 := Nat.le_of_dvd (Nat.mul_pos (by omega) (by omega)) h1
    have e : max 1 (n.natAbs : Int) = n.natAbs := by omega
    have e2 : ((s.natAbs * n.natAbs : Nat) : Int) = s * (n.natAbs : Int) := by
      rw [Int.natCast_mul, show (s.natAbs : Int) = s by omega]
    rw [e, ← e2]
    exact_mod_cast h3
def lcmL (ns : List Int) : Int := ns.foldl lcmS 1
theorem lcmF_pos : ∀ (ns : List Int) {s : Int}, 0 < s → 0 < ns.foldl lcmS s
  | [], _, h => h
  | n :: ns, _, h => lcmF_pos ns (lcmS_pos h)
theorem lcmF_dvd : ∀ (ns : List Int) {s : Int}, 0 < s → s ∣ ns.foldl lcmS s ∧ ∀ n ∈ ns, n ≠ 0 → n ∣ ns.foldl lcmS s
  | [], s, _ => ⟨Int.dvd_refl s, fun _ h => nomatch h⟩
  | n :: ns, s, h => by
    obtain ⟨h1, h2⟩ := lcmF_dvd ns (lcmS_pos (n := n) h)
    refine ⟨Int.dvd_trans (lcmS_left h) h1, fun m hm h0 => ?_⟩
    rcases List.mem_cons.mp hm with rfl | hm
    · exact Int.dvd_trans (lcmS_right h h0) h1
    · exact h2 m hm h0
theorem lcmF_least {m : Int} : ∀ (ns : List Int) {s : Int}, 0 < s → s ∣ m → (∀ n ∈ ns, n ≠ 0 → n ∣ m) → ns.foldl lcmS s ∣ m
  | [], _, _, h, _ => h
  | n :: ns, s, h, h1, h2 => lcmF_least ns (lcmS_pos h) (lcmS_least h h1 (h2 n List.mem_cons_self)) fun k hk => h2 k (List.mem_cons_of_mem _ hk)
theorem lcmL_pos (ns : List Int) : 0 < lcmL ns := lcmF_pos ns (by decide)
theorem lcmL_dvd {ns : List Int} {n : Int} (h : n ∈ ns) (h0 : n ≠ 0) : n ∣ lcmL ns := (lcmF_dvd ns (by decide)).2 n h h0
theorem lcmL_least {ns : List Int} {m : Int} (h : ∀ n ∈ ns, n ≠ 0 → n ∣ m) : lcmL ns ∣ m := lcmF_least ns (by decide) (Int.one_dvd m) h
theorem lcmL_eq {ns ms : List Int} (h1 : ∀ n ∈ ns, n ≠ 0 → n ∣ lcmL ms) (h2 : ∀ n ∈ ms, n ≠ 0 → n ∣ lcmL ns) : lcmL ns = lcmL ms :=
  Int.dvd_antisymm (Int.le_of_lt (lcmL_pos _)) (Int.le_of_lt (lcmL_pos _)) (lcmL_least h1) (lcmL_least h2)
theorem fold_flat {α β σ : Type} (f : σ → β → σ) (g : α → List β) : ∀ (xs : List α) (s : σ), (xs.flatMap g).foldl f s = xs.foldl (fun s x => (g x).foldl f s) s
  | [], _ => rfl
  | x :: xs, s => by rw [List.flatMap_cons, List.foldl_append, fold_flat f g xs, List.foldl_cons]
/-- growth -/
def Gr (i : Nat) (s : Int) : Prop := 0 < s ∧ s ≤ 2 ^ (400 * i)
theorem Gr.mono {i j : Nat} {s : Int} (h : Gr i s) (hl : i ≤ j) : Gr j s := ⟨h.1, Int.le_trans h.2 (pow2_le (by omega))⟩
theorem Gr.step {i : Nat} {s n : Int} (h : Gr i s) (hn : n.natAbs ≤ 2 ^ 400) : Gr (i + 1) (lcmS s n) := by
  refine ⟨lcmS_pos h.1, Int.le_trans (lcmS_le h.1) ?_⟩
  rw [show 400 * (i + 1) = 400 * i + 400 by omega, Int.pow_add]
  have h1 : max 1 (n.natAbs : Int) ≤ 2 ^ 400 := by
    have h2 : (n.natAbs : Int) ≤ 2 ^ 400 := by exact_mod_cast hn
    have : (1 : Int) ≤ 2 ^ 400 := by decide
    omega
  exact Int.mul_le_mul h.2 h1 (by omega) (by have := pow2_le (show 0 ≤ 400 * i by omega); omega)
theorem Gr.mulOk {i : Nat} {s n : Int} (h : Gr i s) (hi : i ≤ 100000) (hn : n.natAbs ≤ 2 ^ 400) : mulOk (Int.fdiv s (igcd s n)) (iabs n) := by
  have hs : (Int.fdiv s (igcd s n)).natAbs ≤ s.natAbs := by
    by_cases h0 : igcd s n = 0
    · rw [h0]; simp
    · have := natAbs_le_mul (x := s.fdiv (igcd s n)) h0
      rwa [fdiv_mul_of_dvd (show igcd s n ∣ s from Int.gcd_dvd_left s n)] at this
  have h2 := h.2
  have h3 : s.natAbs ≤ 2 ^ (400 * i) := by
    have e : (s.natAbs : Int) = s := by have := h.1; omega
    have : (s.natAbs : Int) ≤ ((2 ^ (400 * i) : Nat) : Int) := by rw [e]; exact_mod_cast h2
    exact_mod_cast this
  refine mulOk_of (m := 400 * i + 1) (n := 401) (Nat.lt_of_le_of_lt hs (Nat.lt_of_le_of_lt h3 (Nat.pow_lt_pow_right (by decide) (by omega)))) ?_ (by omega) (by omega) (by omega)
  rw [iabs_eq]
  exact Nat.lt_of_le_of_lt (by simpa using hn) (Nat.pow_lt_pow_right (by decide) (by omega))
theorem gcd_divOk {s n : Int} (hn : n ≠ 0) (hb : n.natAbs ≤ 2 ^ 400) : divOk s (igcd s n) := by
  have hg : igcd s n ≠ 0 := by
    unfold igcd
    have := Int.gcd_pos_of_ne_zero_right s hn
    omega
  refine divOk_of (n := 401) hg ?_ (by decide)
  have h1 : igcd s n ∣ n := Int.gcd_dvd_right s n
  have h2 := Nat.le_of_dvd (Int.natAbs_pos.mpr hn) (Int.natAbs_dvd_natAbs.mpr h1)
  exact Nat.lt_of_le_of_lt (Nat.le_trans h2 hb) (Nat.pow_lt_pow_right (by decide) (by decide))
theorem bd_mul4 {a b : Int} (ha : a.natAbs ≤ 2 ^ 400) (hb : b.natAbs ≤ 2 ^ 400) : mulOk a b :=
  mulOk_of (m := 401) (n := 401) (Nat.lt_of_le_of_lt ha (Nat.pow_lt_pow_right (by decide) (by decide))) (Nat.lt_of_le_of_lt hb (Nat.pow_lt_pow_right (by decide) (by decide))) (by decide) (by decide) (by decide)
theorem dc_400 {rows : List (List Int)} {cs : List Int} (hr : rows.length ≤ 5) (hM : ∀ r ∈ rows, ∀ x ∈ r, x.natAbs ≤ 2 ^ 70) (hc : cs.length ≤ 8) : (dc rows cs).natAbs ≤ 2 ^ 400 := by
  refine Nat.le_trans (dc_bd rows hM cs hc) ?_
  rw [show 8 * 2 ^ 70 = 2 ^ 73 by decide, ← Nat.pow_mul]
  exact Nat.pow_le_pow_right (by decide) (by omega)
end PF

namespace PF
open PySem L2
/-! ### determinants: rows and columns exchanged, sums of rows -/
def sgn (k : Nat) : Int := if k % 2 = 0 then 1 else -1
theorem sgn_succ (k : Nat) : sgn (k + 1) = -sgn k := by
  unfold sgn
  rcases Nat.mod_two_eq_zero_or_one k with h | h
  · rw [h, show (k + 1) % 2 = 1 by omega]; rfl
  · rw [h, show (k + 1) % 2 = 0 by omega]; rfl
theorem lap_cons (r : List Int) (D : List Int → Int) (pre : List Int) (c : Int) (cs : List Int) : lap r D pre (c :: cs) = at0 r c * D (pre ++ cs) - lap r D (pre ++ [c]) cs := rfl
theorem lap_nil (r : List Int) (D : List Int → Int) (pre : List Int) : lap r D pre [] = 0 := rfl
theorem dc_cons (r : List Int) (rows : List (List Int)) (cs : List Int) : dc (r :: rows) cs = lap r (dc rows) [] cs := rfl
theorem lap_congr {r : List Int} {D D' : List Int → Int} : ∀ (cs pre : List Int), (∀ z, z.length + 1 = pre.length + cs.length → D z = D' z) → lap r D pre cs = lap r D' pre cs
  | [], _, _ => rfl
  | c :: cs, pre, h => by
    rw [lap_cons, lap_cons, h (pre ++ cs) (by rw [List.length_append, List.length_cons]; omega), lap_congr cs (pre ++ [c]) fun z hz => h z (by simp at hz ⊢; omega)]
theorem lap_zero {r : List Int} {D : List Int → Int} : ∀ (cs pre : List Int), (∀ z, z.length + 1 = pre.length + cs.length → D z = 0) → lap r D pre cs = 0
  | [], _, _ => rfl
  | c :: cs, pre, h => by
    rw [lap_cons, h (pre ++ cs) (by rw [List.length_append, List.length_cons]; omega), lap_zero cs (pre ++ [c]) fun z hz => h z (by simp at hz ⊢; omega)]
    simp
theorem lap_neg {r : List Int} {D D' : List Int → Int} : ∀ (cs pre : List Int), (∀ z, D z = -D' z) → lap r D pre cs = -lap r D' pre cs
  | [], _, _ => rfl
  | c :: cs, pre, h => by
    rw [lap_cons, lap_cons, h, lap_neg cs (pre ++ [c]) h, Int.mul_neg]
    omega
theorem lap_lin {r : List Int} {D D1 D2 : List Int → Int} {a b : Int} (h : ∀ z, D z = a * D1 z + b * D2 z) : ∀ (cs pre : List Int), lap r D pre cs = a * lap r D1 pre cs + b * lap r D2 pre cs
  | [], _ => by simp [lap]
  | c :: cs, pre => by
    rw [lap_cons, lap_cons, lap_cons, h, lap_lin h cs (pre ++ [c])]
    generalize at0 r c = x
    generalize D1 (pre ++ cs) = y
    generalize D2 (pre ++ cs) = z
    generalize lap r D1 (pre ++ [c]) cs = u
    generalize lap r D2 (pre ++ [c]) cs = v
    grind
/-- a row that is a sum -/
theorem lap_row {r x y : List Int} {D : List Int → Int} {a b : Int} (h : ∀ c, at0 r c = a * at0 x c + b * at0 y c) : ∀ (cs pre : List Int), lap r D pre cs = a * lap x D pre cs + b * lap y D pre cs
  | [], _ => by simp [lap]
  | c :: cs, pre => by
    rw [lap_cons, lap_cons, lap_cons, h, lap_row h cs (pre ++ [c])]
    generalize at0 x c = p
    generalize at0 y c = q
    generalize D (pre ++ cs) = z
    generalize lap x D (pre ++ [c]) cs = u
    generalize lap y D (pre ++ [c]) cs = v
    grind
theorem dc_row {r x y : List Int} {a b : Int} (R2 : List (List Int)) (h : ∀ c, at0 r c = a * at0 x c + b * at0 y c) : ∀ (R1 : List (List Int)) (cs : List Int), dc (R1 ++ r :: R2) cs = a * dc (R1 ++ x :: R2) cs + b * dc (R1 ++ y :: R2) cs
  | [], cs => lap_row h cs []
  | q :: R1, cs => lap_lin (fun z => dc_row R2 h R1 z) cs []
/-! two columns exchanged -/
/-- square ones -/
theorem dc_col : ∀ (rows : List (List Int)) (a b : Int) (p q : List Int), rows.length = p.length + q.length + 2 → dc rows (p ++ a :: b :: q) = -dc rows (p ++ b :: a :: q)
  | [], a, b, p, q, h => by simp at h
  | r :: rows, a, b, p, q, h => by
    rw [dc_cons, dc_cons]
    by_cases hr : rows.length = 1
    · have hp : p = [] := List.length_eq_zero_iff.mp (by simp at h; omega)
      have hq : q = [] := List.length_eq_zero_iff.mp (by simp at h; omega)
      subst hp hq
      obtain ⟨s, rfl⟩ : ∃ s, rows = [s] := by
        match rows, hr with
        | [s], _ => exact ⟨s, rfl⟩
      simp [lap, dc]
      grind
    · have hD : ∀ z z' : List Int, (∃ p q, z = p ++ a :: b :: q ∧ z' = p ++ b :: a :: q ∧ rows.length = p.length + q.length + 2) → dc rows z = -dc rows z' := by
        rintro z z' ⟨p, q, rfl, rfl, hl⟩
        exact dc_col rows a b p q hl
      -- a variant of lap_swap with lengths
      have key : ∀ (cs p q : List Int), rows.length + 1 = p.length + q.length + 2 + cs.length → lap r (dc rows) (p ++ a :: b :: q) cs = -lap r (dc rows) (p ++ b :: a :: q) cs := by
        intro cs
        induction cs with
        | nil => intro p q _; rfl
        | cons c cs ih =>
          intro p q hl
          rw [lap_cons, lap_cons]
          have e1 : p ++ a :: b :: q ++ cs = p ++ a :: b :: (q ++ cs) := by simp
          have e2 : p ++ b :: a :: q ++ cs = p ++ b :: a :: (q ++ cs) := by simp
          have e3 : p ++ a :: b :: q ++ [c] = p ++ a :: b :: (q ++ [c]) := by simp
          have e4 : p ++ b :: a :: q ++ [c] = p ++ b :: a :: (q ++ [c]) := by simp
          rw [e1, e2, e3, e4, hD _ _ ⟨p, q ++ cs, rfl, rfl, by simp at hl ⊢; omega⟩, ih p (q ++ [c]) (by simp at hl ⊢; omega), Int.mul_neg]
          omega
      have main : ∀ (cs pre : List Int), rows.length + 1 = pre.length + cs.length + q.length + 2 → lap r (dc rows) pre (cs ++ a :: b :: q) = -lap r (dc rows) pre (cs ++ b :: a :: q) := by
        intro cs
        induction cs with
        | nil =>
          intro pre hl
          rw [List.nil_append, List.nil_append, lap_cons, lap_cons, lap_cons, lap_cons]
          have e5 : pre ++ [a] ++ q = pre ++ a :: q := by simp
          have e6 : pre ++ [b] ++ q = pre ++ b :: q := by simp
          have e7 : pre ++ [a] ++ [b] = pre ++ a :: b :: [] := by simp
          have e8 : pre ++ [b] ++ [a] = pre ++ b :: a :: [] := by simp
          rw [e5, e6, e7, e8, key q pre [] (by simp at hl ⊢; omega)]
          omega
        | cons c cs ih =>
          intro pre hl
          rw [List.cons_append, List.cons_append, lap_cons, lap_cons, ih (pre ++ [c]) (by simp at hl ⊢; omega)]
          have e1 : pre ++ (cs ++ a :: b :: q) = (pre ++ cs) ++ a :: b :: q := by simp
          have e2 : pre ++ (cs ++ b :: a :: q) = (pre ++ cs) ++ b :: a :: q := by simp
          rw [e1, e2, hD _ _ ⟨pre ++ cs, q, rfl, rfl, by simp at hl ⊢; omega⟩, Int.mul_neg]
          omega
      exact main p [] (by simp at h ⊢; omega)
/-- columns in another order -/
theorem dc_perm {rows : List (List Int)} {cs ds : List Int} (h : cs.Perm ds) : ∀ pre : List Int, rows.length = pre.length + cs.length → dc rows (pre ++ cs) = dc rows (pre ++ ds) ∨ dc rows (pre ++ cs) = -dc rows (pre ++ ds) := by
  induction h with
  | nil => intro pre _; exact .inl rfl
  | cons x h ih =>
    intro pre hl
    have := ih (pre ++ [x]) (by simp at hl ⊢; omega)
    simpa using this
  | swap x y l =>
    intro pre hl
    exact .inr (dc_col rows y x pre l (by simp at hl; omega))
  | trans h1 h2 ih1 ih2 =>
    intro pre hl
    have hl2 := h1.length_eq
    rcases ih1 pre hl with e1 | e1 <;> rcases ih2 pre (by omega) with e2 | e2 <;> rw [e1, e2] <;> simp
theorem dc_dup {rows : List (List Int)} {cs : List Int} (hl : rows.length = cs.length) (h : ¬ cs.Nodup) : dc rows cs = 0 := by
  have : ∃ a ds, cs.Perm (a :: a :: ds) := by
    clear hl
    induction cs with
    | nil => exact absurd List.nodup_nil h
    | cons c cs ih =>
      by_cases hc : c ∈ cs
      · obtain ⟨s, t, rfl⟩ := List.append_of_mem hc
        exact ⟨c, s ++ t, (List.perm_middle).cons c⟩
      · have : ¬ cs.Nodup := fun hn => h (List.nodup_cons.mpr ⟨hc, hn⟩)
        obtain ⟨a, ds, hp⟩ := ih this
        refine ⟨a, c :: ds, (hp.cons c).trans ?_⟩
        exact (List.Perm.swap a c (a :: ds)).trans ((List.Perm.swap a c ds).cons a)
  obtain ⟨a, ds, hp⟩ := this
  have e := dc_col rows a a [] ds (by have := hp.length_eq; simp at this ⊢; omega)
  have e0 : dc rows ([] ++ a :: a :: ds) = 0 := by omega
  rcases dc_perm hp [] (by simpa using hl) with q | q
  · rw [List.nil_append] at q
    rw [q]; exact e0
  · rw [List.nil_append] at q
    rw [q, e0]; rfl
/-! two rows exchanged -/
def lapP (y : List Int) (D : List Int → Int) : List Int → List Int → List Int → Int
  | _, [], _ => 0
  | Q, p :: P, cs => at0 y p * D (Q ++ P ++ cs) - lapP y D (Q ++ [p]) P cs
theorem lap_split (y : List Int) (D : List Int → Int) : ∀ (P Q cs : List Int), lap y D Q (P ++ cs) = lapP y D Q P cs + sgn P.length * lap y D (Q ++ P) cs
  | [], Q, cs => by simp [lapP, sgn]
  | p :: P, Q, cs => by
    rw [List.cons_append, lap_cons, lap_split y D P (Q ++ [p]) cs, show lapP y D Q (p :: P) cs = at0 y p * D (Q ++ P ++ cs) - lapP y D (Q ++ [p]) P cs from rfl]
    rw [List.length_cons, sgn_succ]
    have : Q ++ [p] ++ P = Q ++ p :: P := by simp
    rw [this]
    have e : Q ++ (P ++ cs) = Q ++ P ++ cs := by simp
    rw [e, Int.neg_mul]
    omega
theorem lapP_snoc (y : List Int) (D : List Int → Int) (c : Int) : ∀ (P Q cs : List Int), lapP y D Q (P ++ [c]) cs = lapP y D Q P (c :: cs) + sgn P.length * (at0 y c * D (Q ++ P ++ cs))
  | [], Q, cs => by simp [lapP, sgn]
  | p :: P, Q, cs => by
    rw [List.cons_append]
    unfold lapP
    rw [lapP_snoc y D c P (Q ++ [p]) cs, List.length_cons, sgn_succ]
    have e1 : Q ++ (P ++ [c]) ++ cs = Q ++ P ++ c :: cs := by simp
    have e2 : Q ++ [p] ++ P ++ cs = Q ++ p :: P ++ cs := by simp
    rw [e1, e2, Int.neg_mul]
    omega
def lapT (x y : List Int) (D : List Int → Int) (P : List Int) : List Int → List Int → Int
  | _, [] => 0
  | M, c :: cs => at0 x c * lapP y D [] P (M ++ cs) + at0 y c * lapP x D [] P (M ++ cs) - lapT x y D P (M ++ [c]) cs
theorem lapT_snoc (x y : List Int) (D : List Int → Int) (P : List Int) (c : Int) : ∀ (cs M : List Int), lapT x y D (P ++ [c]) M cs = lapT x y D P (c :: M) cs + sgn P.length * (at0 y c * lap x D (P ++ M) cs + at0 x c * lap y D (P ++ M) cs)
  | [], M => by simp [lapT, lap]
  | d :: cs, M => by
    unfold lapT
    rw [lapP_snoc, lapP_snoc, lapT_snoc x y D P c cs (M ++ [d]), lap_cons, lap_cons, List.nil_append]
    have e1 : c :: (M ++ cs) = c :: M ++ cs := rfl
    have e2 : c :: (M ++ [d]) = c :: M ++ [d] := rfl
    have e3 : P ++ (M ++ [d]) = P ++ M ++ [d] := by simp
    have e4 : P ++ (M ++ cs) = P ++ M ++ cs := by simp
    rw [e1, e2, e3, e4]
    generalize lapP y D [] P (c :: M ++ cs) = a1
    generalize lapP x D [] P (c :: M ++ cs) = a2
    generalize lapT x y D P (c :: M ++ [d]) cs = a3
    generalize lap x D (P ++ M ++ [d]) cs = a4
    generalize lap y D (P ++ M ++ [d]) cs = a5
    generalize D (P ++ M ++ cs) = a6
    generalize sgn P.length = s
    generalize at0 x c = xc
    generalize at0 y c = yc
    generalize at0 x d = xd
    generalize at0 y d = yd
    grind
theorem lap2_sum (x y : List Int) (D : List Int → Int) : ∀ (cs P : List Int), lap x (fun z => lap y D [] z) P cs + lap y (fun z => lap x D [] z) P cs = lapT x y D P [] cs
  | [], P => by simp [lap, lapT]
  | c :: cs, P => by
    rw [lap_cons, lap_cons]
    unfold lapT
    have ih := lap2_sum x y D cs (P ++ [c])
    rw [lapT_snoc x y D P c cs []] at ih
    rw [lap_split y D P [] cs, lap_split x D P [] cs, List.nil_append, List.nil_append]
    rw [List.append_nil] at ih
    generalize lap x (fun z => lap y D [] z) (P ++ [c]) cs = u at *
    generalize lap y (fun z => lap x D [] z) (P ++ [c]) cs = v at *
    have e : [] ++ [c] = [c] := rfl
    rw [e]
    generalize lapT x y D P [c] cs = t at *
    generalize lap x D P cs = lx at *
    generalize lap y D P cs = ly at *
    generalize lapP y D [] P cs = py at *
    generalize lapP x D [] P cs = px at *
    generalize sgn P.length = s at *
    generalize at0 x c = xc at *
    generalize at0 y c = yc at *
    grind
theorem lapT_nil (x y : List Int) (D : List Int → Int) : ∀ (cs M : List Int), lapT x y D [] M cs = 0
  | [], _ => rfl
  | c :: cs, M => by
    unfold lapT
    rw [lapT_nil x y D cs (M ++ [c])]
    simp [lapP]
theorem dc_rowswap (x y : List Int) (R : List (List Int)) : ∀ (R1 : List (List Int)) (cs : List Int), dc (R1 ++ x :: y :: R) cs = -dc (R1 ++ y :: x :: R) cs
  | [], cs => by
    have h := lap2_sum x y (dc R) cs []
    rw [lapT_nil] at h
    have e1 : dc ([] ++ x :: y :: R) cs = lap x (fun z => lap y (dc R) [] z) [] cs := rfl
    have e2 : dc ([] ++ y :: x :: R) cs = lap y (fun z => lap x (dc R) [] z) [] cs := rfl
    rw [e1, e2]
    omega
  | q :: R1, cs => lap_neg cs [] fun z => dc_rowswap x y R R1 z
/-- the same row twice -/
theorem dc_rowdup (x : List Int) (R2 : List (List Int)) : ∀ (R1 : List (List Int)) (cs : List Int), dc (x :: R1 ++ x :: R2) cs = 0
  | [], cs => by
    have := dc_rowswap x x R2 [] cs
    rw [List.nil_append] at this
    show dc (x :: x :: R2) cs = 0
    omega
  | q :: R1, cs => by
    have e := dc_rowswap x q (R1 ++ x :: R2) [] cs
    rw [List.nil_append, List.nil_append] at e
    show dc (x :: q :: (R1 ++ x :: R2)) cs = 0
    rw [e]
    have : dc (q :: x :: (R1 ++ x :: R2)) cs = 0 := lap_zero cs [] fun z _ => dc_rowdup x R2 R1 z
    omega
theorem dc_rowperm {R R' : List (List Int)} (h : R.Perm R') : ∀ (pre : List (List Int)) (cs : List Int), dc (pre ++ R) cs = dc (pre ++ R') cs ∨ dc (pre ++ R) cs = -dc (pre ++ R') cs := by
  induction h with
  | nil => intro pre cs; exact .inl rfl
  | cons x h ih => intro pre cs; have := ih (pre ++ [x]) cs; simpa using this
  | swap x y l => intro pre cs; exact .inr (dc_rowswap y x l pre cs)
  | trans h1 h2 ih1 ih2 =>
    intro pre cs
    rcases ih1 pre cs with e1 | e1 <;> rcases ih2 pre cs with e2 | e2 <;> rw [e1, e2] <;> simp
theorem dc_rowdup' {R : List (List Int)} (h : ¬ R.Nodup) (cs : List Int) : dc R cs = 0 := by
  have : ∃ a S, R.Perm (a :: a :: S) := by
    induction R with
    | nil => exact absurd List.nodup_nil h
    | cons c R ih =>
      by_cases hc : c ∈ R
      · obtain ⟨s, t, rfl⟩ := List.append_of_mem hc
        exact ⟨c, s ++ t, (List.perm_middle).cons c⟩
      · have : ¬ R.Nodup := fun hn => h (List.nodup_cons.mpr ⟨hc, hn⟩)
        obtain ⟨a, S, hp⟩ := ih this
        exact ⟨a, c :: S, (hp.cons c).trans ((List.Perm.swap a c (a :: S)).trans ((List.Perm.swap a c S).cons a))⟩
  obtain ⟨a, S, hp⟩ := this
  have e := dc_rowdup a S [] cs
  rcases dc_rowperm hp [] cs with q | q
  · rw [List.nil_append] at q
    rw [q]; exact e
  · rw [List.nil_append] at q
    rw [q]
    have : dc ([] ++ a :: a :: S) cs = 0 := e
    omega
/-- a column of noughts -/
theorem dc_zerocol (c : Int) : ∀ (rows : List (List Int)) (cs : List Int), rows ≠ [] → rows.length = cs.length → (∀ r ∈ rows, at0 r c = 0) → c ∈ cs → dc rows cs = 0
  | [], _, h, _, _, _ => absurd rfl h
  | r :: rows, cs, _, hl, h0, hc => by
    rw [dc_cons]
    have key : ∀ (cs pre : List Int), rows.length + 1 = pre.length + cs.length → (c ∈ pre ∨ c ∈ cs) → lap r (dc rows) pre cs = 0 := by
      intro cs
      induction cs with
      | nil => intro pre _ _; rfl
      | cons d cs ih =>
        intro pre hl2 hm
        rw [lap_cons, ih (pre ++ [d]) (by simp at hl2 ⊢; omega) (by
          rcases hm with q | q
          · exact .inl (List.mem_append_left _ q)
          · rcases List.mem_cons.mp q with rfl | q
            · exact .inl (by simp)
            · exact .inr q)]
        by_cases hd : d = c
        · rw [hd, h0 r List.mem_cons_self]; simp
        · by_cases hr : rows = []
          · subst hr
            have hp : pre = [] ∧ cs = [] := ⟨List.length_eq_zero_iff.mp (by simp at hl2; omega), List.length_eq_zero_iff.mp (by simp at hl2; omega)⟩
            rcases hm with q | q
            · rw [hp.1] at q; cases q
            · rw [hp.2] at q
              rcases List.mem_cons.mp q with rfl | q
              · exact absurd rfl hd
              · cases q
          · rw [dc_zerocol c rows (pre ++ cs) hr (by simp at hl2 ⊢; omega) (fun q hq => h0 q (List.mem_cons_of_mem _ hq)) (by
              rcases hm with q | q
              · exact List.mem_append_left _ q
              · rcases List.mem_cons.mp q with e | q
                · exact absurd e.symm hd
                · exact List.mem_append_right _ q)]
            simp
    exact key cs [] (by simpa using hl) (.inr hc)
/-- what one row is cleared by another: H, with h at the column o -/
theorem dc_clear (H : List Int) (o : Int) (f : List Int → List Int) (hf : ∀ O c, at0 (f O) c = at0 H o * at0 O c + (-at0 O o) * at0 H c) : ∀ (Os done : List (List Int)) (cs : List Int), dc (H :: (done ++ Os.map f)) cs = at0 H o ^ Os.length * dc (H :: (done ++ Os)) cs
  | [], done, cs => by simp
  | O :: Os, done, cs => by
    have h1 := dc_row (r := f O) (x := O) (y := H) (a := at0 H o) (b := -at0 O o) (Os.map f) (hf O) (H :: done) cs
    have h2 : dc (H :: done ++ H :: Os.map f) cs = 0 := dc_rowdup H (Os.map f) done cs
    have h3 := dc_clear H o f hf Os (done ++ [O]) cs
    rw [h2, Int.mul_zero, Int.add_zero] at h1
    have e1 : H :: (done ++ (O :: Os).map f) = H :: done ++ f O :: Os.map f := by simp
    have e2 : H :: (done ++ [O] ++ Os.map f) = H :: done ++ O :: Os.map f := by simp
    have e3 : H :: (done ++ [O] ++ Os) = H :: (done ++ O :: Os) := by simp
    rw [e1, h1, ← e2, h3, e3, List.length_cons, Int.pow_succ]
    rw [← Int.mul_assoc, Int.mul_comm (at0 H o)]
theorem dc_chio (H : List Int) (o : Int) (f : List Int → List Int) (hf : ∀ O c, at0 (f O) c = at0 H o * at0 O c + (-at0 O o) * at0 H c) (Os : List (List Int)) (cs : List Int) (hl : Os.length = cs.length) : at0 H o * dc (Os.map f) cs = at0 H o ^ Os.length * dc (H :: Os) (o :: cs) := by
  have h := dc_clear H o f hf Os [] (o :: cs)
  rw [List.nil_append, List.nil_append] at h
  rw [← h, dc_cons, lap_cons, List.nil_append]
  have : lap H (dc (Os.map f)) ([] ++ [o]) cs = 0 := by
    by_cases hO : Os = []
    · subst hO
      have : cs = [] := List.length_eq_zero_iff.mp hl.symm
      rw [this]; rfl
    · have key : ∀ (ds pre : List Int), o ∈ pre → Os.length + 1 = pre.length + ds.length → lap H (dc (Os.map f)) pre ds = 0 := by
        intro ds
        induction ds with
        | nil => intro _ _ _; rfl
        | cons d ds ih =>
          intro pre hp hl2
          rw [lap_cons, ih (pre ++ [d]) (List.mem_append_left _ hp) (by simp at hl2 ⊢; omega)]
          rw [dc_zerocol o (Os.map f) (pre ++ ds) (by simpa using hO) (by simp at hl2 ⊢; omega) (fun r hr => by
            obtain ⟨O, _, rfl⟩ := List.mem_map.mp hr
            rw [hf, Int.neg_mul, Int.mul_comm (at0 H o)]
            omega) (List.mem_append_left _ hp)]
          simp
      exact key cs ([] ++ [o]) (by simp) (by simp; omega)
  rw [this]
  omega
end PF

namespace PF
open PySem L2
/-! ### plain rows: the one of all that are alike but for a factor -/
def NZ (xs : List Int) : Prop := ∃ x ∈ xs, x ≠ 0
def scal (a : Int) (xs : List Int) : List Int := xs.map fun x => a * x
theorem scal_len (a : Int) (xs : List Int) : (scal a xs).length = xs.length := List.length_map _
theorem scal_one (xs : List Int) : scal 1 xs = xs := by unfold scal; simp
theorem scal_scal (a b : Int) (xs : List Int) : scal a (scal b xs) = scal (a * b) xs := by
  unfold scal
  rw [List.map_map]
  apply List.map_congr_left
  intro x _
  show a * (b * x) = a * b * x
  rw [Int.mul_assoc]
theorem scal_inj {a : Int} (h : a ≠ 0) : ∀ {xs ys : List Int}, scal a xs = scal a ys → xs = ys
  | [], [], _ => rfl
  | [], _ :: _, e => by simp [scal] at e
  | _ :: _, [], e => by simp [scal] at e
  | x :: xs, y :: ys, e => by
    unfold scal at e
    rw [List.map_cons, List.map_cons] at e
    obtain ⟨e1, e2⟩ := List.cons.inj e
    rw [Int.eq_of_mul_eq_mul_left h e1, scal_inj h e2]
theorem scal_dropLast (a : Int) (xs : List Int) : (scal a xs).dropLast = scal a xs.dropLast := by unfold scal; rw [List.map_dropLast]
theorem NZ_scal {a : Int} {xs : List Int} (h : a ≠ 0) : NZ (scal a xs) ↔ NZ xs := by
  constructor
  · rintro ⟨x, hx, h0⟩
    obtain ⟨y, hy, rfl⟩ := List.mem_map.mp hx
    exact ⟨y, hy, fun z => h0 (by rw [z, Int.mul_zero])⟩
  · rintro ⟨x, hx, h0⟩
    exact ⟨a * x, List.mem_map.mpr ⟨x, hx, rfl⟩, Int.mul_ne_zero h h0⟩
theorem gcdF_nn : ∀ (xs : List Int) (g : Int), xs ≠ [] → 0 ≤ xs.foldl gcdF g
  | [], _, h => absurd rfl h
  | x :: xs, g, _ => gcdF_nonneg xs (gcdF g x) (by unfold gcdF; omega)
theorem gcdL_nonneg (xs : List Int) : 0 ≤ gcdL xs := gcdF_nonneg xs 0 (by decide)
theorem dvd_gcdF {d : Int} : ∀ (xs : List Int) (g : Int), d ∣ g → (∀ x ∈ xs, d ∣ x) → d ∣ xs.foldl gcdF g
  | [], _, h, _ => h
  | x :: xs, g, h, hx => dvd_gcdF xs (gcdF g x) (Int.dvd_coe_gcd h (hx x List.mem_cons_self)) fun y hy => hx y (List.mem_cons_of_mem _ hy)
theorem dvd_gcdL {d : Int} {xs : List Int} (h : ∀ x ∈ xs, d ∣ x) : d ∣ gcdL xs := dvd_gcdF xs 0 (Int.dvd_zero d) h
theorem gcdL_scal (a : Int) (xs : List Int) : gcdL (scal a xs) = a.natAbs * gcdL xs := by
  have key : ∀ (xs : List Int) (g : Int), (scal a xs).foldl gcdF (a.natAbs * g) = a.natAbs * xs.foldl gcdF g := by
    intro xs
    induction xs with
    | nil => intro g; rfl
    | cons x xs ih =>
      intro g
      unfold scal at ih ⊢
      rw [List.map_cons, List.foldl_cons, List.foldl_cons, ← ih]
      congr 1
      unfold gcdF
      have : Int.gcd ((a.natAbs : Int) * g) (a * x) = a.natAbs * Int.gcd g x := by
        rw [Int.gcd_eq_natAbs_gcd_natAbs, Int.natAbs_mul, Int.natAbs_mul, Int.natAbs_natCast, Nat.gcd_mul_left, Int.gcd_eq_natAbs_gcd_natAbs]
      rw [this, Int.natCast_mul]
  have := key xs 0
  rw [Int.mul_zero] at this
  exact this
theorem leadL_cons (x : Int) (xs : List Int) : leadL (x :: xs) = if x = 0 then leadL xs else x := by
  unfold leadL
  have key : ∀ (xs : List Int) (l : Int), l ≠ 0 → xs.foldl leadF l = l := by
    intro xs
    induction xs with
    | nil => intro l _; rfl
    | cons y xs ih =>
      intro l hl
      rw [List.foldl_cons]
      have : leadF l y = l := by unfold leadF; rw [if_neg hl]
      rw [this]
      exact ih l hl
  rw [List.foldl_cons]
  have : leadF 0 x = x := rfl
  rw [this]
  by_cases h : x = 0
  · rw [if_pos h, h]
  · rw [if_neg h, key xs x h]
theorem leadL_scal {a : Int} (h : a ≠ 0) : ∀ xs : List Int, leadL (scal a xs) = a * leadL xs
  | [] => by unfold scal leadL; simp
  | x :: xs => by
    have e : scal a (x :: xs) = a * x :: scal a xs := rfl
    rw [e, leadL_cons, leadL_cons]
    by_cases hx : x = 0
    · rw [if_pos hx, hx, Int.mul_zero, if_pos rfl, leadL_scal h xs]
    · rw [if_neg hx, if_neg (Int.mul_ne_zero h hx)]
theorem leadL_ne : ∀ {xs : List Int}, NZ xs → leadL xs ≠ 0
  | [], h => by obtain ⟨x, hx, _⟩ := h; cases hx
  | x :: xs, h => by
    rw [leadL_cons]
    by_cases hx : x = 0
    · rw [if_pos hx]
      refine leadL_ne ?_
      obtain ⟨y, hy, h0⟩ := h
      rcases List.mem_cons.mp hy with rfl | hy
      · exact absurd hx h0
      · exact ⟨y, hy, h0⟩
    · rw [if_neg hx]; exact hx
/-- in its one form -/
def Prim (xs : List Int) : Prop := gcdL xs = 1 ∧ 0 < leadL xs
theorem scal_plain {xs : List Int} : scal (plainBy xs) (plainL xs) = xs := by
  unfold scal plainL
  rw [List.map_map]
  conv => rhs; rw [← List.map_id xs]
  apply List.map_congr_left
  intro x hx
  show plainBy xs * (x.fdiv (plainBy xs)) = x
  rw [Int.mul_comm]
  exact plain_mul hx
theorem plain_prim {xs : List Int} (h : NZ xs) : Prim (plainL xs) := by
  have hb := plainBy_ne h
  have hg := gcdL_pos h
  have e := scal_plain (xs := xs)
  have e1 := gcdL_scal (plainBy xs) (plainL xs)
  rw [e, plainBy_abs] at e1
  have e2 := leadL_scal hb (plainL xs)
  rw [e] at e2
  constructor
  · have : ((gcdL xs).natAbs : Int) = gcdL xs := by omega
    rw [this] at e1
    have h3 : gcdL xs * 1 = gcdL xs * gcdL (plainL xs) := by rw [Int.mul_one]; exact e1
    exact (Int.eq_of_mul_eq_mul_left (by omega) h3).symm
  · have hl := leadL_ne h
    unfold plainBy at e2
    by_cases hn : leadL xs < 0
    · rw [if_pos hn] at e2
      have h4 : 0 < gcdL xs * leadL (plainL xs) := by rw [Int.zero_sub, Int.neg_mul] at e2; omega
      exact Int.pos_of_mul_pos_right h4 hg |> fun q => q
    · rw [if_neg hn] at e2
      have h4 : 0 < gcdL xs * leadL (plainL xs) := by omega
      exact Int.pos_of_mul_pos_right h4 hg |> fun q => q
theorem prim_plain {xs : List Int} (h : Prim xs) : plainL xs = xs := by
  have : plainBy xs = 1 := by
    unfold plainBy
    rw [if_neg (by have := h.2; omega)]
    exact h.1
  unfold plainL
  rw [this]
  conv => rhs; rw [← List.map_id xs]
  apply List.map_congr_left
  intro x _
  exact Int.fdiv_one x
theorem prim_eq {a b : Int} {xs ys : List Int} (hx : Prim xs) (hy : Prim ys) (ha : a ≠ 0) (hb : b ≠ 0) (h : scal a xs = scal b ys) : xs = ys := by
  have e1 := gcdL_scal a xs
  have e2 := gcdL_scal b ys
  rw [h, e2, hx.1, hy.1] at e1
  have e3 := leadL_scal ha xs
  have e4 := leadL_scal hb ys
  rw [h, e4] at e3
  have hab : a = b := by
    have p1 := hx.2
    have p2 := hy.2
    rcases Int.lt_or_gt_of_ne ha with q | q <;> rcases Int.lt_or_gt_of_ne hb with r | r
    · omega
    · have h1 := Int.mul_pos r p2
      have h2 := Int.mul_neg_of_neg_of_pos q p1
      omega
    · have h1 := Int.mul_pos q p1
      have h2 := Int.mul_neg_of_neg_of_pos r p2
      omega
    · omega
  subst hab
  exact scal_inj ha h
theorem plain_eq {a b : Int} {xs ys : List Int} (hx : NZ xs) (ha : a ≠ 0) (hb : b ≠ 0) (h : scal a xs = scal b ys) : plainL xs = plainL ys := by
  have hy : NZ ys := (NZ_scal hb).mp (h ▸ (NZ_scal ha).mpr hx)
  refine prim_eq (a := a * plainBy xs) (b := b * plainBy ys) (plain_prim hx) (plain_prim hy) (Int.mul_ne_zero ha (plainBy_ne hx)) (Int.mul_ne_zero hb (plainBy_ne hy)) ?_
  rw [← scal_scal, ← scal_scal, scal_plain, scal_plain]
  exact h
theorem plain_idem {xs : List Int} (h : NZ xs) : plainL (plainL xs) = plainL xs := prim_plain (plain_prim h)
theorem plain_scal {a : Int} {xs : List Int} (h : NZ xs) (ha : a ≠ 0) : plainL (scal a xs) = plainL xs := plain_eq (a := 1) (b := a) ((NZ_scal ha).mpr h) (by decide) ha (scal_one _)
theorem plain_bd {xs : List Int} (h : NZ xs) {b : Nat} (hb : ∀ x ∈ xs, x.natAbs ≤ b) : ∀ y ∈ plainL xs, y.natAbs ≤ b := fun y hy => by
  unfold plainL at hy
  obtain ⟨x, hx, rfl⟩ := List.mem_map.mp hy
  exact Nat.le_trans (plain_le h hx) (hb x hx)
/-- a wall of w ways -/
structure Wall (w : Nat) (W : List Int) : Prop where
  len : W.length = w + 1
  nz : NZ W.dropLast
  pr : Prim W
theorem NZ.of_init {xs : List Int} (h : NZ xs.dropLast) : NZ xs := by
  obtain ⟨x, hx, h0⟩ := h
  exact ⟨x, (List.dropLast_sublist _).subset hx, h0⟩
theorem wall_of {w : Nat} {row : List Int} (hl : row.length = w + 1) (hn : NZ row.dropLast) : Wall w (plainL row) := by
  refine ⟨by rw [plainL_len]; exact hl, ?_, plain_prim hn.of_init⟩
  have e := scal_plain (xs := row)
  have : scal (plainBy row) (plainL row).dropLast = row.dropLast := by rw [← scal_dropLast, e]
  rw [← this] at hn
  exact (NZ_scal (plainBy_ne (NZ.of_init (by rw [← this]; exact hn)))).mp hn
end PF

namespace PF
open PySem L2
/-! ### counting points by rests -/
def sumR (m : Nat) (g : Nat → Nat) : Nat := ((List.range m).map g).sum
theorem sum_map_add {α : Type} (f g : α → Nat) : ∀ xs : List α, (xs.map fun a => f a + g a).sum = (xs.map f).sum + (xs.map g).sum
  | [] => rfl
  | x :: xs => by
    simp only [List.map_cons, List.sum_cons, sum_map_add f g xs]
    omega
theorem sum_map_zero {α : Type} : ∀ xs : List α, (xs.map fun _ => (0 : Nat)).sum = 0
  | [] => rfl
  | x :: xs => by simp only [List.map_cons, List.sum_cons, sum_map_zero xs]
theorem sum_map_swap {α β : Type} (f : α → β → Nat) (ys : List β) : ∀ xs : List α, (xs.map fun a => (ys.map fun b => f a b).sum).sum = (ys.map fun b => (xs.map fun a => f a b).sum).sum
  | [] => (sum_map_zero ys).symm
  | x :: xs => by
    simp only [List.map_cons, List.sum_cons]
    rw [sum_map_swap f ys xs, ← sum_map_add]
theorem sum_map_congr {α : Type} {f g : α → Nat} {xs : List α} (h : ∀ x ∈ xs, f x = g x) : (xs.map f).sum = (xs.map g).sum := by rw [List.map_congr_left h]
theorem sumR_congr {m : Nat} {f g : Nat → Nat} (h : ∀ x, x < m → f x = g x) : sumR m f = sumR m g := sum_map_congr fun x hx => h x (List.mem_range.mp hx)
theorem sumR_add (m : Nat) (f g : Nat → Nat) : sumR m (fun x => f x + g x) = sumR m f + sumR m g := sum_map_add f g _
theorem sumR_swap (m k : Nat) (f : Nat → Nat → Nat) : sumR m (fun x => sumR k (f x)) = sumR k (fun y => sumR m fun x => f x y) := sum_map_swap f _ _
theorem sumR_const (m c : Nat) : sumR m (fun _ => c) = m * c := by
  unfold sumR
  rw [List.map_const', List.sum_replicate_nat, List.length_range]
/-- weighted sums over all points by rests of m, of w ways -/
def cntS (m : Nat) : Nat → (List Int → Nat) → Nat
  | 0, g => g []
  | w + 1, g => sumR m fun x => cntS m w fun q => g ((x : Int) :: q)
def ins (o : Nat) (x : Int) (q : List Int) : List Int := q.take o ++ x :: q.drop o
theorem ins_len (o : Nat) (x : Int) (q : List Int) : (ins o x q).length = q.length + 1 := by
  unfold ins
  rw [List.length_append, List.length_cons, List.length_take, List.length_drop]
  omega
def Pt (m w : Nat) (q : List Int) : Prop := q.length = w ∧ ∀ x ∈ q, 0 ≤ x ∧ x < m
theorem cntS_congr {m : Nat} : ∀ {w : Nat} {f g : List Int → Nat}, (∀ q, Pt m w q → f q = g q) → cntS m w f = cntS m w g
  | 0, f, g, h => h [] ⟨rfl, fun _ h => nomatch h⟩
  | w + 1, f, g, h => sumR_congr fun x hx => cntS_congr fun q hq => h _ ⟨by rw [List.length_cons, hq.1], fun y hy => by
    rcases List.mem_cons.mp hy with rfl | hy
    · omega
    · exact hq.2 y hy⟩
theorem cntS_add {m : Nat} : ∀ (w : Nat) (f g : List Int → Nat), cntS m w (fun q => f q + g q) = cntS m w f + cntS m w g
  | 0, _, _ => rfl
  | w + 1, f, g => by
    unfold cntS
    rw [← sumR_add]
    exact sumR_congr fun x _ => cntS_add w _ _
theorem cntS_sum {m k : Nat} : ∀ (w : Nat) (f : Nat → List Int → Nat), sumR k (fun x => cntS m w (f x)) = cntS m w fun q => sumR k fun x => f x q
  | 0, _ => rfl
  | w + 1, f => by
    unfold cntS
    rw [sumR_swap]
    exact sumR_congr fun y _ => cntS_sum w fun x q => f x ((y : Int) :: q)
theorem cntS_const (m c : Nat) : ∀ w : Nat, cntS m w (fun _ => c) = m ^ w * c
  | 0 => by simp [cntS]
  | w + 1 => by
    unfold cntS
    rw [sumR_congr fun x _ => cntS_const m c w, sumR_const, Nat.pow_succ, ← Nat.mul_assoc, Nat.mul_comm m]
/-- one coordinate told apart -/
theorem cntS_ins {m : Nat} : ∀ (o w : Nat) (g : List Int → Nat), o ≤ w → cntS m (w + 1) g = sumR m fun x => cntS m w fun q => g (ins o (x : Int) q)
  | 0, w, g, _ => rfl
  | o + 1, 0, g, h => absurd h (by omega)
  | o + 1, w + 1, g, h => by
    have e1 : cntS m (w + 1 + 1) g = sumR m fun y => cntS m (w + 1) fun q => g ((y : Int) :: q) := rfl
    rw [e1, sumR_congr fun y _ => cntS_ins o w (fun q => g ((y : Int) :: q)) (by omega), sumR_swap]
    exact sumR_congr fun x _ => rfl
theorem cntS_split {m w : Nat} (f g : List Int → Bool) : cntS m w (fun q => if f q = true then 1 else 0) = cntS m w (fun q => if (f q && g q) = true then 1 else 0) + cntS m w (fun q => if (f q && !g q) = true then 1 else 0) := by
  rw [← cntS_add]
  refine cntS_congr fun q _ => ?_
  cases f q <;> cases g q <;> rfl
/-! ### one root -/
theorem bez (a b : Nat) : ∃ x y : Int, (Nat.gcd a b : Int) = a * x + b * y := by
  induction a, b using Nat.gcd.induction with
  | H0 n => exact ⟨0, 1, by simp⟩
  | H1 m n hm ih =>
    obtain ⟨x, y, e⟩ := ih
    rw [← Nat.gcd_rec] at e
    refine ⟨y - (n / m : Nat) * x, x, ?_⟩
    rw [e]
    have h1 : ((n % m : Nat) : Int) = n - m * (n / m : Nat) := by
      have := Nat.div_add_mod n m
      have h2 : (n : Int) = ((m * (n / m) + n % m : Nat) : Int) := by rw [this]
      rw [Int.natCast_add, Int.natCast_mul] at h2
      omega
    rw [h1]
    generalize ((n / m : Nat) : Int) = k
    grind
theorem bezI (a b : Int) : ∃ x y : Int, (Int.gcd a b : Int) = a * x + b * y := by
  obtain ⟨x, y, e⟩ := bez a.natAbs b.natAbs
  have hg : (Int.gcd a b : Int) = (Nat.gcd a.natAbs b.natAbs : Nat) := by rw [Int.gcd_eq_natAbs_gcd_natAbs]
  rcases Int.natAbs_eq a with ha | ha <;> rcases Int.natAbs_eq b with hb | hb
  · exact ⟨x, y, by rw [hg, e]; grind⟩
  · exact ⟨x, -y, by rw [hg, e]; grind⟩
  · exact ⟨-x, y, by rw [hg, e]; grind⟩
  · exact ⟨-x, -y, by rw [hg, e]; grind⟩
theorem dvd_of_coprime {h m x : Int} (g : Int.gcd h m = 1) (d : m ∣ h * x) : m ∣ x := by
  obtain ⟨u, v, e⟩ := bezI h m
  rw [g] at e
  obtain ⟨k, hk⟩ := d
  refine ⟨u * k + v * x, ?_⟩
  have : x = (h * u + m * v) * x := by rw [← e]; simp
  rw [this]
  have e2 : (h * u + m * v) * x = u * (h * x) + m * (v * x) := by grind
  rw [e2, hk]
  grind
theorem sumR_one {m k : Nat} (hk : k < m) {g : Nat → Nat} (h1 : g k = 1) (h0 : ∀ x, x < m → x ≠ k → g x = 0) : sumR m g = 1 := by
  have key : ∀ (xs : List Nat), xs.Nodup → k ∈ xs → (∀ x ∈ xs, x ≠ k → g x = 0) → (xs.map g).sum = 1 := by
    intro xs
    induction xs with
    | nil => intro _ h _; cases h
    | cons x xs ih =>
      intro hn hm hz
      obtain ⟨n1, n2⟩ := List.nodup_cons.mp hn
      rw [List.map_cons, List.sum_cons]
      by_cases hx : x = k
      · subst hx
        have : (xs.map g).sum = 0 := by
          rw [sum_map_congr (g := fun _ => 0) fun y hy => hz y (List.mem_cons_of_mem _ hy) fun e => n1 (e ▸ hy), sum_map_zero]
        rw [h1, this]
      · rcases List.mem_cons.mp hm with q | q
        · exact absurd q.symm hx
        · rw [hz x List.mem_cons_self hx, ih n2 q fun y hy => hz y (List.mem_cons_of_mem _ hy)]
  exact key _ List.nodup_range (List.mem_range.mpr hk) fun x hx => h0 x (List.mem_range.mp hx)
theorem one_root {h c : Int} {m : Nat} (hm : 0 < m) (g : Int.gcd h m = 1) : ∃ k : Nat, k < m ∧ (m : Int) ∣ h * k + c ∧ ∀ x : Nat, x < m → (m : Int) ∣ h * x + c → x = k := by
  obtain ⟨u, v, e⟩ := bezI h m
  rw [g] at e
  have hmi : (m : Int) ≠ 0 := by omega
  have hr0 := Int.emod_nonneg (-c * u) hmi
  have hr1 := Int.emod_lt_of_pos (-c * u) (show (0 : Int) < m by omega)
  have hd : (m : Int) ∣ h * ((-c * u) % m) + c := by
    have h1 : (-c * u) % (m : Int) = -c * u - m * (-c * u / m) := Int.emod_def _ _
    rw [h1]
    refine ⟨c * v - h * (-c * u / m), ?_⟩
    have : c = c * (h * u + m * v) := by rw [← e]; simp
    generalize -c * u / (m : Int) = z
    conv => lhs; rhs; rw [this]
    grind
  refine ⟨((-c * u) % m).toNat, by omega, by rw [show ((((-c * u) % m).toNat : Nat) : Int) = (-c * u) % m by omega]; exact hd, fun x hx hdx => ?_⟩
  have h2 : (m : Int) ∣ h * ((x : Int) - (-c * u) % m) := by
    have := Int.dvd_sub hdx hd
    have e3 : h * (x : Int) + c - (h * ((-c * u) % m) + c) = h * ((x : Int) - (-c * u) % m) := by grind
    rwa [e3] at this
  have h3 := dvd_of_coprime g h2
  obtain ⟨k, hk⟩ := h3
  have hk0 : k = 0 := by
    rcases Int.lt_trichotomy k 0 with q | q | q
    · have h5 : (m : Int) * k ≤ m * (-1) := Int.mul_le_mul_of_nonneg_left (by omega) (by omega)
      omega
    · exact q
    · have h5 : (m : Int) * 1 ≤ m * k := Int.mul_le_mul_of_nonneg_left (by omega) (by omega)
      omega
  rw [hk0, Int.mul_zero] at hk
  omega
theorem root_sum {h c : Int} {m : Nat} (hm : 0 < m) (g : Int.gcd h m = 1) (G : Bool) {F : Nat → Bool} (hF : ∀ x : Nat, x < m → (m : Int) ∣ h * x + c → F x = G) : sumR m (fun x => if (F x && decide ((m : Int) ∣ h * x + c)) = true then 1 else 0) = if G = true then 1 else 0 := by
  obtain ⟨k, h1, h2, h3⟩ := one_root (c := c) hm g
  cases G with
  | true =>
    refine sumR_one h1 ?_ fun x hx hne => ?_
    · rw [hF k h1 h2, decide_eq_true h2]; rfl
    · have : ¬ (m : Int) ∣ h * x + c := fun d => hne (h3 x hx d)
      rw [decide_eq_false this, Bool.and_false]; rfl
  | false =>
    rw [sumR_congr (g := fun _ => 0) fun x hx => ?_, sumR_const, Nat.mul_zero]
    · rfl
    · by_cases d : (m : Int) ∣ h * x + c
      · rw [hF x hx d]; rfl
      · rw [decide_eq_false d, Bool.and_false]; rfl
/-! ### walls at points -/
def dotL (xs q : List Int) : Int := ((xs.zip q).map fun a => a.1 * a.2).sum
def evL (W q : List Int) : Int := dotL W.dropLast q - W.getLastD 0
def offB (m : Nat) (A : List (List Int)) (q : List Int) : Bool := A.all fun W => decide (¬ (m : Int) ∣ evL W q)
def offN (m w : Nat) (A : List (List Int)) : Nat := cntS m w fun q => if offB m A q = true then 1 else 0
theorem dotL_cons (x y : Int) (xs q : List Int) : dotL (x :: xs) (y :: q) = x * y + dotL xs q := by unfold dotL; simp
theorem dotL_scal (a : Int) : ∀ (xs q : List Int), dotL (scal a xs) q = a * dotL xs q
  | [], _ => by simp [dotL, scal]
  | _ :: _, [] => by simp [dotL, scal]
  | x :: xs, y :: q => by
    have e : scal a (x :: xs) = a * x :: scal a xs := rfl
    rw [e, dotL_cons, dotL_cons, dotL_scal a xs q, Int.mul_add, Int.mul_assoc]
theorem getLastD_scal (a : Int) (xs : List Int) : (scal a xs).getLastD 0 = a * xs.getLastD 0 := by
  unfold scal
  rw [List.getLastD_eq_getLast?, List.getLastD_eq_getLast?, List.getLast?_map]
  cases xs.getLast? <;> simp
theorem evL_scal (a : Int) (W q : List Int) : evL (scal a W) q = a * evL W q := by
  unfold evL
  rw [scal_dropLast, dotL_scal, getLastD_scal, Int.mul_sub]
theorem dotL_append : ∀ (xs ys p q : List Int), xs.length = p.length → dotL (xs ++ ys) (p ++ q) = dotL xs p + dotL ys q
  | [], ys, [], q, _ => by simp [dotL]
  | [], _, _ :: _, _, h => by simp at h
  | _ :: _, _, [], _, h => by simp at h
  | x :: xs, ys, y :: p, q, h => by
    rw [List.cons_append, List.cons_append, dotL_cons, dotL_cons, dotL_append xs ys p q (by simpa using h)]
    omega
theorem dotL_ins (xs : List Int) (o : Nat) (x : Int) (q : List Int) (h : xs.length = q.length + 1) (ho : o ≤ q.length) : dotL xs (ins o x q) = xs.getD o 0 * x + dotL (xs.eraseIdx o) q := by
  have hlt : o < xs.length := by omega
  have e1 : xs = xs.take o ++ xs[o] :: xs.drop (o + 1) := by
    rw [← List.drop_eq_getElem_cons hlt, List.take_append_drop]
  have e2 : xs.eraseIdx o = xs.take o ++ xs.drop (o + 1) := List.eraseIdx_eq_take_drop_succ xs o
  have e3 : xs.getD o 0 = xs[o] := by rw [List.getD_eq_getElem?_getD, List.getElem?_eq_getElem hlt]; rfl
  have hl : (xs.take o).length = (q.take o).length := by rw [List.length_take, List.length_take]; omega
  have e4 : dotL (xs.take o ++ xs[o] :: xs.drop (o + 1)) (ins o x q) = dotL (xs.take o) (q.take o) + dotL (xs[o] :: xs.drop (o + 1)) (x :: q.drop o) := dotL_append _ _ _ _ hl
  rw [e2, e3]
  conv => lhs; rw [e1]
  rw [e4, dotL_cons]
  conv => rhs; rw [show q = q.take o ++ q.drop o from (List.take_append_drop o q).symm]
  rw [dotL_append _ _ _ _ hl]
  omega
end PF

namespace PF
open PySem L2
/-! ### walls drawn into one -/
def comb (a b : Int) (xs ys : List Int) : List Int := List.zipWith (fun x y => a * x + b * y) xs ys
theorem comb_len {a b : Int} {xs ys : List Int} (h : xs.length = ys.length) : (comb a b xs ys).length = xs.length := by unfold comb; rw [List.length_zipWith]; omega
theorem comb_dot (a b : Int) : ∀ (xs ys q : List Int), xs.length = ys.length → dotL (comb a b xs ys) q = a * dotL xs q + b * dotL ys q
  | [], [], _, _ => by simp [comb, dotL]
  | [], _ :: _, _, h => by simp at h
  | _ :: _, [], _, h => by simp at h
  | x :: xs, y :: ys, [], _ => by simp [dotL]
  | x :: xs, y :: ys, z :: q, h => by
    have e : comb a b (x :: xs) (y :: ys) = (a * x + b * y) :: comb a b xs ys := rfl
    rw [e, dotL_cons, dotL_cons, dotL_cons, comb_dot a b xs ys q (by simpa using h)]
    generalize dotL xs q = u
    generalize dotL ys q = v
    grind
theorem comb_get {a b : Int} : ∀ {xs ys : List Int} (k : Nat), xs.length = ys.length → (comb a b xs ys).getD k 0 = a * xs.getD k 0 + b * ys.getD k 0
  | [], [], _, _ => by simp [comb]
  | [], _ :: _, _, h => by simp at h
  | _ :: _, [], _, h => by simp at h
  | x :: xs, y :: ys, 0, _ => by simp [comb]
  | x :: xs, y :: ys, k + 1, h => by
    have e : comb a b (x :: xs) (y :: ys) = (a * x + b * y) :: comb a b xs ys := rfl
    rw [e, List.getD_cons_succ, List.getD_cons_succ, List.getD_cons_succ]
    exact comb_get k (by simpa using h)
theorem comb_dropLast (a b : Int) {xs ys : List Int} (h : xs.length = ys.length) : (comb a b xs ys).dropLast = comb a b xs.dropLast ys.dropLast := by
  unfold comb
  rw [List.dropLast_eq_take, List.dropLast_eq_take, List.dropLast_eq_take, List.length_zipWith, List.take_zipWith, ← h, Nat.min_self]
theorem getLastD_getD (xs : List Int) : xs.getLastD 0 = xs.getD (xs.length - 1) 0 := by
  rw [List.getLastD_eq_getLast?, List.getD_eq_getElem?_getD, List.getLast?_eq_getElem?]
theorem comb_ev (a b : Int) {xs ys : List Int} (q : List Int) (h : xs.length = ys.length) : evL (comb a b xs ys) q = a * evL xs q + b * evL ys q := by
  unfold evL
  rw [comb_dropLast a b h, comb_dot a b _ _ q (by rw [List.length_dropLast, List.length_dropLast, h]), getLastD_getD, getLastD_getD, getLastD_getD, comb_get _ h, comb_len h, h]
  generalize dotL xs.dropLast q = u
  generalize dotL ys.dropLast q = v
  grind
theorem eraseIdx_dropLast {xs : List Int} {o : Nat} (h : o + 1 < xs.length) : (xs.eraseIdx o).dropLast = xs.dropLast.eraseIdx o := by
  have hl : (xs.eraseIdx o).length = xs.length - 1 := by rw [List.length_eraseIdx, if_pos (by omega)]
  apply List.ext_getElem?
  intro i
  simp only [List.getElem?_dropLast, List.getElem?_eraseIdx, hl]
  by_cases h1 : i < o
  · simp only [h1, if_true]
    rw [if_pos (by omega), if_pos (by omega)]
  · simp only [h1, if_false]
    by_cases h2 : i < xs.length - 1 - 1
    · rw [if_pos h2, if_pos (by omega)]
    · rw [if_neg h2, if_neg (by omega)]
theorem eraseIdx_get (xs : List Int) (o k : Nat) : (xs.eraseIdx o).getD k 0 = xs.getD (if k < o then k else k + 1) 0 := by
  rw [List.getD_eq_getElem?_getD, List.getD_eq_getElem?_getD, List.getElem?_eraseIdx]
  split <;> rfl
theorem eraseIdx_last {xs : List Int} {o : Nat} (h : o + 1 < xs.length) : (xs.eraseIdx o).getLastD 0 = xs.getLastD 0 := by
  have hl : (xs.eraseIdx o).length = xs.length - 1 := by rw [List.length_eraseIdx, if_pos (by omega)]
  rw [getLastD_getD, getLastD_getD, eraseIdx_get, hl, if_neg (by omega)]
  congr 1
  omega
theorem evL_ins {W q : List Int} {o : Nat} (x : Int) (hl : W.length = q.length + 2) (ho : o ≤ q.length) : evL W (ins o x q) = W.getD o 0 * x + evL (W.eraseIdx o) q := by
  unfold evL
  rw [dotL_ins W.dropLast o x q (by rw [List.length_dropLast]; omega) ho, eraseIdx_dropLast (by omega), eraseIdx_last (by omega)]
  have : W.dropLast.getD o 0 = W.getD o 0 := by
    rw [List.getD_eq_getElem?_getD, List.getD_eq_getElem?_getD, List.getElem?_dropLast, if_pos (by omega)]
  rw [this]
  omega
/-- O cleared by H at the way o -/
def clr (H : List Int) (o : Nat) (O : List Int) : List Int := comb (H.getD o 0) (-(O.getD o 0)) O H
/-- .. told without it -/
def drw (H : List Int) (o : Nat) (O : List Int) : List Int := (clr H o O).eraseIdx o
theorem clr_o {H O : List Int} {o : Nat} (h : O.length = H.length) : (clr H o O).getD o 0 = 0 := by
  unfold clr
  rw [comb_get o h, Int.neg_mul, Int.mul_comm]
  omega
theorem drw_len {H O : List Int} {o : Nat} (h : O.length = H.length) (ho : o < H.length) : (drw H o O).length = H.length - 1 := by
  unfold drw
  rw [List.length_eraseIdx, if_pos (by unfold clr; rw [comb_len h]; omega)]
  unfold clr
  rw [comb_len h, h]
theorem drw_ev {H O q : List Int} {o : Nat} (x : Int) (hO : O.length = q.length + 2) (hH : H.length = q.length + 2) (ho : o ≤ q.length) : evL (drw H o O) q = H.getD o 0 * evL O (ins o x q) - O.getD o 0 * evL H (ins o x q) := by
  have h : O.length = H.length := by omega
  have e1 : evL (clr H o O) (ins o x q) = (clr H o O).getD o 0 * x + evL (drw H o O) q := evL_ins x (by unfold clr; rw [comb_len h]; omega) ho
  rw [clr_o h, Int.zero_mul, Int.zero_add] at e1
  rw [← e1]
  unfold clr
  rw [comb_ev _ _ _ h, Int.neg_mul]
  omega
/-- the points of the wall H that lie on no wall of A, counted in H -/
theorem restr {m w o : Nat} {A : List (List Int)} {H : List Int} (hm : 0 < m) (hH : H.length = w + 2) (ho : o ≤ w) (hA : ∀ O ∈ A, O.length = w + 2) (hg : Int.gcd (H.getD o 0) m = 1) {B : List (List Int)}
    (hB : ∀ q, Pt m w q → offB m B q = A.all fun O => decide (¬ (m : Int) ∣ evL (drw H o O) q)) : cntS m (w + 1) (fun q => if (offB m A q && decide ((m : Int) ∣ evL H q)) = true then 1 else 0) = offN m w B := by
  rw [cntS_ins o w _ ho, cntS_sum]
  unfold offN
  refine cntS_congr fun q hq => ?_
  have hql := hq.1
  rw [sumR_congr (g := fun x => if (offB m A (ins o (x : Int) q) && decide ((m : Int) ∣ H.getD o 0 * x + evL (H.eraseIdx o) q)) = true then 1 else 0) fun x _ => by rw [evL_ins (x : Int) (by omega) (by omega)]]
  refine root_sum hm hg (offB m B q) fun x hx hd => ?_
  rw [hB q hq]
  have hd2 : (m : Int) ∣ evL H (ins o (x : Int) q) := by rw [evL_ins (x : Int) (by omega) (by omega)]; exact hd
  unfold offB
  rw [Bool.eq_iff_iff, List.all_eq_true, List.all_eq_true]
  have key : ∀ O ∈ A, ((m : Int) ∣ evL O (ins o (x : Int) q) ↔ (m : Int) ∣ evL (drw H o O) q) := fun O hO => by
    rw [drw_ev (x : Int) (by rw [hA O hO]; omega) (by omega) (by omega)]
    constructor
    · intro h
      exact Int.dvd_sub (Int.dvd_mul_of_dvd_right h) (Int.dvd_mul_of_dvd_right hd2)
    · intro h
      have := Int.dvd_add h (Int.dvd_mul_of_dvd_right (b := O.getD o 0) hd2)
      rw [Int.sub_add_cancel] at this
      exact dvd_of_coprime hg this
  constructor
  · intro h O hO
    have := h O hO
    rw [decide_eq_true_eq] at this ⊢
    rwa [← key O hO]
  · intro h O hO
    have := h O hO
    rw [decide_eq_true_eq] at this ⊢
    rwa [key O hO]
/-- the walls that others have in H, told without its way o -/
def anyL (xs : List Int) : Bool := xs.any fun i => i != 0
theorem anyL_iff (xs : List Int) : anyL xs = true ↔ NZ xs := by
  unfold anyL NZ
  rw [List.any_eq_true]
  constructor <;> rintro ⟨x, hx, h⟩ <;> exact ⟨x, hx, by simpa using h⟩
def addL (s : List (List Int)) (W : List Int) : List (List Int) := if W ∈ s then s else s ++ [W]
theorem mem_addL {s : List (List Int)} {W X : List Int} : X ∈ addL s W ↔ X ∈ s ∨ X = W := by
  unfold addL
  split
  · rename_i h
    constructor
    · exact .inl
    · rintro (q | rfl)
      · exact q
      · exact h
  · rw [List.mem_append, List.mem_singleton]
theorem addL_nodup {s : List (List Int)} {W : List Int} (h : s.Nodup) : (addL s W).Nodup := by
  unfold addL
  split
  · exact h
  · rename_i hn
    exact List.nodup_append.mpr ⟨h, by simp, fun a ha b hb e => hn (by rw [List.mem_singleton.mp hb] at e; rwa [← e])⟩
theorem addL_len (s : List (List Int)) (W : List Int) : (addL s W).length ≤ s.length + 1 := by
  unfold addL
  split
  · omega
  · rw [List.length_append]; simp
def drawnF (H : List Int) (o : Nat) (s : List (List Int)) (O : List Int) : List (List Int) := if anyL (drw H o O).dropLast = true then addL s (plainL (drw H o O)) else s
def drawnL (H : List Int) (o : Nat) (A : List (List Int)) : List (List Int) := A.foldl (drawnF H o) []
theorem mem_drawnF {H : List Int} {o : Nat} {W : List Int} : ∀ (A : List (List Int)) (s : List (List Int)), W ∈ A.foldl (drawnF H o) s ↔ W ∈ s ∨ ∃ O ∈ A, NZ (drw H o O).dropLast ∧ W = plainL (drw H o O)
  | [], s => by simp
  | O :: A, s => by
    rw [List.foldl_cons, mem_drawnF A]
    unfold drawnF
    by_cases h : anyL (drw H o O).dropLast = true
    · rw [if_pos h, mem_addL]
      have h' := (anyL_iff _).mp h
      constructor
      · rintro ((q | q) | ⟨O', q1, q2⟩)
        · exact .inl q
        · exact .inr ⟨O, List.mem_cons_self, h', q⟩
        · exact .inr ⟨O', List.mem_cons_of_mem _ q1, q2⟩
      · rintro (q | ⟨O', q1, q2⟩)
        · exact .inl (.inl q)
        · rcases List.mem_cons.mp q1 with rfl | q1
          · exact .inl (.inr q2.2)
          · exact .inr ⟨O', q1, q2⟩
    · rw [if_neg h]
      have h' : ¬ NZ (drw H o O).dropLast := fun q => h ((anyL_iff _).mpr q)
      constructor
      · rintro (q | ⟨O', q1, q2⟩)
        · exact .inl q
        · exact .inr ⟨O', List.mem_cons_of_mem _ q1, q2⟩
      · rintro (q | ⟨O', q1, q2⟩)
        · exact .inl q
        · rcases List.mem_cons.mp q1 with rfl | q1
          · exact absurd q2.1 h'
          · exact .inr ⟨O', q1, q2⟩
theorem mem_drawnL {H : List Int} {o : Nat} {A : List (List Int)} {W : List Int} : W ∈ drawnL H o A ↔ ∃ O ∈ A, NZ (drw H o O).dropLast ∧ W = plainL (drw H o O) := by
  unfold drawnL
  rw [mem_drawnF]
  simp
theorem drawnL_nodup (H : List Int) (o : Nat) (A : List (List Int)) : (drawnL H o A).Nodup ∧ (drawnL H o A).length ≤ A.length := by
  have key : ∀ (A s : List (List Int)), s.Nodup → (A.foldl (drawnF H o) s).Nodup ∧ (A.foldl (drawnF H o) s).length ≤ s.length + A.length := by
    intro A
    induction A with
    | nil => intro s h; exact ⟨h, by simp⟩
    | cons O A ih =>
      intro s h
      rw [List.foldl_cons, List.length_cons]
      have h2 : (drawnF H o s O).Nodup ∧ (drawnF H o s O).length ≤ s.length + 1 := by
        unfold drawnF
        split
        · exact ⟨addL_nodup h, addL_len _ _⟩
        · exact ⟨h, by omega⟩
      have := ih _ h2.1
      exact ⟨this.1, by have := this.2; have := h2.2; omega⟩
  have := key A [] List.nodup_nil
  exact ⟨this.1, by have h2 := this.2; rw [List.length_nil, Nat.zero_add] at h2; exact h2⟩
theorem plain_dvd {m : Nat} {xs q : List Int} (g : Int.gcd (plainBy xs) m = 1) : (m : Int) ∣ evL xs q ↔ (m : Int) ∣ evL (plainL xs) q := by
  have e : evL xs q = plainBy xs * evL (plainL xs) q := by rw [← evL_scal, scal_plain]
  rw [e]
  exact ⟨dvd_of_coprime g, fun h => Int.dvd_mul_of_dvd_right h⟩
/-- what asks the rests of m of H and A -/
structure Gd (m : Nat) (H : List Int) (o : Nat) (A : List (List Int)) : Prop where
  h : Int.gcd (H.getD o 0) m = 1
  n : ∀ O ∈ A, NZ (drw H o O).dropLast → Int.gcd (plainBy (drw H o O)) m = 1
  z : ∀ O ∈ A, ¬ NZ (drw H o O).dropLast → ¬ (m : Int) ∣ (drw H o O).getLastD 0
theorem evL_nz {xs q : List Int} (h : ¬ NZ xs.dropLast) : evL xs q = -(xs.getLastD 0) := by
  unfold evL
  have : ∀ (ys q : List Int), ¬ NZ ys → dotL ys q = 0 := by
    intro ys
    induction ys with
    | nil => intro q _; simp [dotL]
    | cons y ys ih =>
      intro q hn
      cases q with
      | nil => simp [dotL]
      | cons z q =>
        have hy : y = 0 := by
          by_cases hy : y = 0
          · exact hy
          · exact absurd ⟨y, List.mem_cons_self, hy⟩ hn
        rw [dotL_cons, hy, Int.zero_mul, ih q fun ⟨x, hx, h0⟩ => hn ⟨x, List.mem_cons_of_mem _ hx, h0⟩]
        rfl
  rw [this _ q h]
  omega
theorem drawn_off {m : Nat} {H : List Int} {o : Nat} {A : List (List Int)} (G : Gd m H o A) (q : List Int) : offB m (drawnL H o A) q = A.all fun O => decide (¬ (m : Int) ∣ evL (drw H o O) q) := by
  unfold offB
  rw [Bool.eq_iff_iff, List.all_eq_true, List.all_eq_true]
  constructor
  · intro h O hO
    rw [decide_eq_true_eq]
    by_cases hn : NZ (drw H o O).dropLast
    · rw [plain_dvd (G.n O hO hn)]
      have := h _ (mem_drawnL.mpr ⟨O, hO, hn, rfl⟩)
      rwa [decide_eq_true_eq] at this
    · rw [evL_nz hn, Int.dvd_neg]
      exact G.z O hO hn
  · intro h W hW
    obtain ⟨O, hO, hn, rfl⟩ := mem_drawnL.mp hW
    have := h O hO
    rw [decide_eq_true_eq] at this ⊢
    rwa [← plain_dvd (G.n O hO hn)]
/-- by walls taken out -/
theorem off_del {m w o : Nat} {A : List (List Int)} {H : List Int} (hm : 0 < m) (hH : H.length = w + 2) (ho : o ≤ w) (hA : ∀ O ∈ A, O.length = w + 2) (G : Gd m H o A) : offN m (w + 1) A = offN m (w + 1) (A ++ [H]) + offN m w (drawnL H o A) := by
  have h1 := cntS_split (m := m) (w := w + 1) (offB m A) fun q => decide ((m : Int) ∣ evL H q)
  have h2 := restr hm hH ho hA G.h (B := drawnL H o A) fun q _ => drawn_off G q
  unfold offN at h2 ⊢
  rw [h2] at h1
  have h3 : cntS m (w + 1) (fun q => if (offB m A q && !decide ((m : Int) ∣ evL H q)) = true then 1 else 0) = cntS m (w + 1) fun q => if offB m (A ++ [H]) q = true then 1 else 0 := by
    refine cntS_congr fun q _ => ?_
    have : offB m (A ++ [H]) q = (offB m A q && !decide ((m : Int) ∣ evL H q)) := by
      unfold offB
      rw [List.all_append]
      simp
    rw [this]
  rw [h3] at h1
  omega
/-! ### a prime that divides no piece's determinant -/
def IsP (p : Nat) : Prop := 1 < p ∧ ∀ d : Nat, d ∣ p → d = 1 ∨ d = p
theorem IsP.cop {p : Nat} (h : IsP p) {a : Int} (ha : ¬ (p : Int) ∣ a) : Int.gcd a p = 1 := by
  have h1 : Int.gcd a p ∣ p := by
    have := Int.gcd_dvd_right a (p : Int)
    exact_mod_cast this
  rcases h.2 _ h1 with q | q
  · exact q
  · exact absurd (by have := Int.gcd_dvd_left a (p : Int); rwa [q] at this) ha
theorem IsP.mul {p : Nat} (h : IsP p) {a b : Int} (ha : ¬ (p : Int) ∣ a) (hb : ¬ (p : Int) ∣ b) : ¬ (p : Int) ∣ a * b := fun d => hb (dvd_of_coprime (h.cop ha) d)
theorem IsP.pow {p : Nat} (h : IsP p) {a : Int} (ha : ¬ (p : Int) ∣ a) : ∀ n : Nat, ¬ (p : Int) ∣ a ^ n
  | 0 => by
    intro d
    rw [Int.pow_zero] at d
    have := Int.le_of_dvd (by decide) d
    have := h.1
    omega
  | n + 1 => by rw [Int.pow_succ]; exact h.mul (h.pow ha n) ha
def Good (p w : Nat) (A : List (List Int)) : Prop := ∀ (rows : List (List Int)) (cs : List Int), (∀ r ∈ rows, r ∈ A) → (∀ c ∈ cs, 0 ≤ c ∧ c ≤ w) → rows.length = cs.length → dc rows cs ≠ 0 → ¬ (p : Int) ∣ dc rows cs
theorem Good.sub {p w : Nat} {A B : List (List Int)} (h : Good p w A) (hs : ∀ x ∈ B, x ∈ A) : Good p w B := fun rows cs h1 h2 h3 h4 => h rows cs (fun r hr => hs r (h1 r hr)) h2 h3 h4
/-- columns renamed -/
theorem dc_cols {g : List Int → List Int} {σ : Int → Int} : ∀ (rows : List (List Int)) (cs : List Int), (∀ r ∈ rows, ∀ c ∈ cs, at0 (g r) c = at0 r (σ c)) → dc (rows.map g) cs = dc rows (cs.map σ)
  | [], _, _ => rfl
  | r :: rows, cs, h => by
    rw [List.map_cons, dc_cons, dc_cons]
    have key : ∀ (cs pre : List Int), (∀ r' ∈ r :: rows, ∀ c ∈ pre ++ cs, at0 (g r') c = at0 r' (σ c)) → lap (g r) (dc (rows.map g)) pre cs = lap r (dc rows) (pre.map σ) (cs.map σ) := by
      intro cs
      induction cs with
      | nil => intro _ _; rfl
      | cons c cs ih =>
        intro pre hp
        rw [List.map_cons, lap_cons, lap_cons, ih (pre ++ [c]) (by simpa using hp), hp r List.mem_cons_self c (by simp), dc_cols rows (pre ++ cs) fun r' hr c' hc => hp r' (List.mem_cons_of_mem _ hr) c' (by
          rcases List.mem_append.mp hc with q | q
          · exact List.mem_append_left _ q
          · exact List.mem_append_right _ (List.mem_cons_of_mem _ q))]
        rw [List.map_append, List.map_append]
        rfl
    have := key cs [] (by simpa using h)
    simpa using this
/-- rows that are so many times as great -/
theorem dc_scal {f : List Int → Int} {g : List Int → List Int} : ∀ (Os : List (List Int)) (k : List Int → List Int) (cs : List Int), (∀ O ∈ Os, ∀ c, at0 (k O) c = f O * at0 (g O) c) → dc (Os.map k) cs = (Os.map f).foldr (· * ·) 1 * dc (Os.map g) cs
  | [], _, _, _ => by simp [dc]
  | O :: Os, k, cs, h => by
    rw [List.map_cons, List.map_cons, List.map_cons, List.foldr_cons]
    have h1 := dc_row (r := k O) (x := g O) (y := []) (a := f O) (b := 0) (Os.map k) (fun c => by rw [h O List.mem_cons_self c]; omega) [] cs
    rw [List.nil_append, List.nil_append, Int.zero_mul, Int.add_zero] at h1
    rw [h1]
    have h2 : dc (g O :: Os.map k) cs = (Os.map f).foldr (· * ·) 1 * dc (g O :: Os.map g) cs := by
      rw [dc_cons, dc_cons]
      have := lap_lin (r := g O) (D := dc (Os.map k)) (D1 := dc (Os.map g)) (D2 := fun _ => 0) (a := (Os.map f).foldr (· * ·) 1) (b := 0) (fun z => by rw [dc_scal Os k z fun O' hO' => h O' (List.mem_cons_of_mem _ hO')]; omega) cs []
      rw [this]
      omega
    rw [h2, Int.mul_assoc]
theorem exists_map {α β : Type} {P : α → Prop} {f : α → β} : ∀ (ys : List β), (∀ y ∈ ys, ∃ x, P x ∧ y = f x) → ∃ xs : List α, (∀ x ∈ xs, P x) ∧ ys = xs.map f
  | [], _ => ⟨[], (fun _ h => nomatch h), rfl⟩
  | y :: ys, h => by
    obtain ⟨xs, h1, rfl⟩ := exists_map ys fun z hz => h z (List.mem_cons_of_mem _ hz)
    obtain ⟨x, hx, rfl⟩ := h y List.mem_cons_self
    exact ⟨x :: xs, fun z hz => by
      rcases List.mem_cons.mp hz with rfl | hz
      · exact hx
      · exact h1 z hz, rfl⟩
def skipC (o : Nat) (c : Int) : Int := if c < o then c else c + 1
theorem at0_drw {H O : List Int} {o : Nat} {c : Int} (hc : 0 ≤ c) : at0 (drw H o O) c = at0 (clr H o O) (skipC o c) := by
  unfold at0 drw skipC
  rw [eraseIdx_get]
  by_cases h : c < o
  · rw [if_pos (by omega), if_pos h]
  · rw [if_neg (by omega), if_neg h, show (c + 1).toNat = c.toNat + 1 by omega]
theorem at0_clr {H O : List Int} {o : Nat} (h : O.length = H.length) (c : Int) : at0 (clr H o O) c = at0 H o * at0 O c + (-at0 O o) * at0 H c := by
  unfold at0 clr
  rw [comb_get _ h, Int.toNat_natCast]
theorem good_drawn {p w o : Nat} {A : List (List Int)} {H : List Int} (hp : IsP p) (hH : H.length = w + 2) (ho : o ≤ w) (hA : ∀ O ∈ A, O.length = w + 2) (h0 : H.getD o 0 ≠ 0) (G : Good p (w + 1) (A ++ [H])) : Good p w (drawnL H o A) := by
  intro rows cs hr hc hl hd hdv
  have hh : at0 H o = H.getD o 0 := by unfold at0; rw [Int.toNat_natCast]
  obtain ⟨Os, hO, rfl⟩ := exists_map (P := fun O => O ∈ A ∧ NZ (drw H o O).dropLast) (f := fun O => plainL (drw H o O)) rows fun y hy => by
    obtain ⟨O, h1, h2, h3⟩ := mem_drawnL.mp (hr y hy)
    exact ⟨O, ⟨h1, h2⟩, h3⟩
  rw [List.length_map] at hl
  have e1 : dc (Os.map (drw H o)) cs = (Os.map fun O => plainBy (drw H o O)).foldr (· * ·) 1 * dc (Os.map fun O => plainL (drw H o O)) cs := by
    refine dc_scal Os (drw H o) cs fun O _ c => ?_
    have := scal_plain (xs := drw H o O)
    unfold at0
    conv => lhs; rw [← this]
    unfold scal
    rw [List.getD_eq_getElem?_getD, List.getD_eq_getElem?_getD, List.getElem?_map]
    cases (plainL (drw H o O))[c.toNat]? <;> simp
  have e2 : dc (Os.map (drw H o)) cs = dc (Os.map (clr H o)) (cs.map (skipC o)) := by
    have h1 : Os.map (drw H o) = (Os.map (clr H o)).map fun r => r.eraseIdx o := by rw [List.map_map]; rfl
    rw [h1]
    refine dc_cols _ _ fun r hr c hcm => ?_
    have := (hc c hcm).1
    unfold at0 skipC
    rw [eraseIdx_get]
    by_cases h : c < o
    · rw [if_pos (by omega), if_pos h]
    · rw [if_neg (by omega), if_neg h, show (c + 1).toNat = c.toNat + 1 by omega]
  have hf : ∀ O ∈ Os, ∀ c, at0 (clr H o O) c = at0 H o * at0 O c + (-at0 O o) * at0 H c := fun O hOm c => at0_clr (by rw [hA O (hO O hOm).1, hH]) c
  -- a function that clears all rows alike
  have e3 : Os.map (clr H o) = Os.map fun O => if O.length = H.length then clr H o O else (List.range (O.length + H.length + 1)).map fun (k : Nat) => at0 H o * at0 O k + (-at0 O o) * at0 H k := by
    apply List.map_congr_left
    intro O hOm
    rw [if_pos (by rw [hA O (hO O hOm).1, hH])]
  have hfull : ∀ (O : List Int) (c : Int), at0 (if O.length = H.length then clr H o O else (List.range (O.length + H.length + 1)).map fun (k : Nat) => at0 H o * at0 O k + (-at0 O o) * at0 H k) c = at0 H o * at0 O c + (-at0 O o) * at0 H c := fun O c => by
    by_cases h : O.length = H.length
    · rw [if_pos h]; exact at0_clr h c
    · rw [if_neg h]
      have e : ∀ (xs : List Int) (k : Nat), xs.length ≤ k → xs.getD k 0 = 0 := fun xs k hk => by
        rw [List.getD_eq_getElem?_getD, List.getElem?_eq_none hk]; rfl
      have eA : at0 ((List.range (O.length + H.length + 1)).map fun (k : Nat) => at0 H o * at0 O k + (-at0 O o) * at0 H k) c = if c.toNat < O.length + H.length + 1 then at0 H o * at0 O c.toNat + (-at0 O o) * at0 H c.toNat else 0 := by
        unfold at0
        rw [List.getD_eq_getElem?_getD, List.getElem?_map]
        by_cases hc : c.toNat < O.length + H.length + 1
        · rw [if_pos hc, List.getElem?_range hc]
          rfl
        · rw [if_neg hc, List.getElem?_eq_none (by rw [List.length_range]; omega)]
          rfl
      rw [eA]
      have e0 : ∀ xs : List Int, at0 xs (c.toNat : Int) = at0 xs c := fun xs => by unfold at0; rw [Int.toNat_natCast]
      rw [e0, e0]
      by_cases hc : c.toNat < O.length + H.length + 1
      · rw [if_pos hc]
      · rw [if_neg hc]
        have e1 : at0 O c = 0 := e O _ (by omega)
        have e2 : at0 H c = 0 := e H _ (by omega)
        rw [e1, e2]
        simp
  have e4 := dc_chio H o _ hfull Os (cs.map (skipC o)) (by rw [List.length_map]; exact hl)
  rw [← e3, ← e2, e1] at e4
  have hne : at0 H o ≠ 0 := by rw [hh]; exact h0
  have gH : ¬ (p : Int) ∣ at0 H o := by
    have := G [H] [(o : Int)] (fun r hr => by rw [List.mem_singleton.mp hr]; simp) (fun c hc => by rw [List.mem_singleton.mp hc]; omega) rfl
    have e : dc [H] [(o : Int)] = at0 H o := by simp [dc, lap]
    rw [e] at this
    exact this hne
  have hfold : (Os.map fun O => plainBy (drw H o O)).foldr (· * ·) 1 ≠ 0 := by
    have : ∀ ys : List Int, (∀ y ∈ ys, y ≠ 0) → ys.foldr (· * ·) 1 ≠ 0 := by
      intro ys
      induction ys with
      | nil => intro _; decide
      | cons y ys ih => intro h; exact Int.mul_ne_zero (h y List.mem_cons_self) (ih fun z hz => h z (List.mem_cons_of_mem _ hz))
    refine this _ fun y hy => ?_
    obtain ⟨O, hOm, rfl⟩ := List.mem_map.mp hy
    exact plainBy_ne (hO O hOm).2.of_init
  have hne2 : at0 H o ^ Os.length * dc (H :: Os) (↑o :: cs.map (skipC o)) ≠ 0 := by
    rw [← e4]
    exact Int.mul_ne_zero hne (Int.mul_ne_zero hfold hd)
  have hne3 : dc (H :: Os) (↑o :: cs.map (skipC o)) ≠ 0 := fun z => hne2 (by rw [z, Int.mul_zero])
  have gD := G (H :: Os) (↑o :: cs.map (skipC o)) (fun r hr => by
    rcases List.mem_cons.mp hr with rfl | hr
    · simp
    · exact List.mem_append_left _ (hO r hr).1) (fun c hcm => by
    rcases List.mem_cons.mp hcm with rfl | hcm
    · omega
    · obtain ⟨c', hc', rfl⟩ := List.mem_map.mp hcm
      have := hc c' hc'
      unfold skipC
      split <;> omega) (by simp [hl]) hne3
  refine hp.mul (hp.pow gH Os.length) gD ?_
  rw [← e4]
  exact Int.dvd_mul_of_dvd_right (Int.dvd_mul_of_dvd_right hdv)
end PF

namespace PF
open PySem L2
/-! ### rows reduced: what they all make nought stays -/
instance (xs : List Int) : Decidable (NZ xs) := decidable_of_iff _ (anyL_iff xs)
theorem comb_zip (a b : Int) : ∀ xs ys : List Int, comb a b xs ys = (List.zip xs ys).map fun p => a * p.1 + b * p.2
  | [], _ => by simp [comb]
  | _ :: _, [] => by simp [comb]
  | x :: xs, y :: ys => by
    have := comb_zip a b xs ys
    unfold comb at this ⊢
    rw [List.zipWith_cons_cons, this, List.zip_cons_cons, List.map_cons]
theorem dotL_nil (q : List Int) : dotL [] q = 0 := by simp [dotL]
theorem dotL_range : ∀ (r x : List Int), r.length = x.length → dotL r x = ((List.range r.length).map fun c => r.getD c 0 * x.getD c 0).sum
  | [], x, _ => by simp [dotL]
  | a :: r, [], h => by simp at h
  | a :: r, b :: x, h => by
    rw [dotL_cons, dotL_range r x (by simpa using h), List.length_cons, List.range_succ_eq_map, List.map_cons, List.sum_cons, List.map_map]
    rfl
theorem sum_zero' {α : Type} {g : α → Int} : ∀ (xs : List α), (∀ x ∈ xs, g x = 0) → (xs.map g).sum = 0
  | [], _ => rfl
  | x :: xs, h => by rw [List.map_cons, List.sum_cons, h x List.mem_cons_self, sum_zero' xs fun y hy => h y (List.mem_cons_of_mem _ hy)]; rfl
theorem sum_one' {g : Nat → Int} {a : Nat} : ∀ (xs : List Nat), xs.Nodup → a ∈ xs → (∀ x ∈ xs, x ≠ a → g x = 0) → (xs.map g).sum = g a
  | [], _, h, _ => by cases h
  | x :: xs, hn, hm, hz => by
    obtain ⟨n1, n2⟩ := List.nodup_cons.mp hn
    rw [List.map_cons, List.sum_cons]
    by_cases hx : x = a
    · subst hx
      rw [sum_zero' xs fun y hy => hz y (List.mem_cons_of_mem _ hy) fun e => n1 (e ▸ hy)]
      omega
    · rcases List.mem_cons.mp hm with q | q
      · exact absurd q.symm hx
      · rw [hz x List.mem_cons_self hx, sum_one' xs n2 q fun y hy => hz y (List.mem_cons_of_mem _ hy)]
        omega
theorem sum_two' {g : Nat → Int} {a b : Nat} (hab : a ≠ b) : ∀ (xs : List Nat), xs.Nodup → a ∈ xs → b ∈ xs → (∀ x ∈ xs, x ≠ a → x ≠ b → g x = 0) → (xs.map g).sum = g a + g b
  | [], _, h, _, _ => by cases h
  | x :: xs, hn, ha, hb, hz => by
    obtain ⟨n1, n2⟩ := List.nodup_cons.mp hn
    rw [List.map_cons, List.sum_cons]
    by_cases hx : x = a
    · subst hx
      rcases List.mem_cons.mp hb with q | q
      · exact absurd q.symm hab
      · rw [sum_one' (a := b) xs n2 q fun y hy hyb => hz y (List.mem_cons_of_mem _ hy) (fun e => n1 (e ▸ hy)) hyb]
    · rcases List.mem_cons.mp ha with q | q
      · exact absurd q.symm hx
      · by_cases hxb : x = b
        · subst hxb
          rw [sum_one' (a := a) xs n2 q fun y hy hya => hz y (List.mem_cons_of_mem _ hy) hya fun e => n1 (e ▸ hy)]
          omega
        · rcases List.mem_cons.mp hb with r | r
          · exact absurd r.symm hxb
          · rw [hz x List.mem_cons_self hx hxb, sum_two' hab xs n2 q r fun y hy => hz y (List.mem_cons_of_mem _ hy)]
            omega
def Ker (w : Nat) (rows : List (List Int)) (x : List Int) : Prop := x.length = w + 1 ∧ ∀ r ∈ rows, dotL r x = 0
/-- the first place that is not nought -/
def outW (H : List Int) : Nat := (H.findIdx fun x => x != 0)
theorem outW_get {H : List Int} (h : NZ H) : outW H < H.length ∧ H.getD (outW H) 0 ≠ 0 ∧ ∀ j, j < outW H → H.getD j 0 = 0 := by
  unfold outW
  have hl : H.findIdx (fun x => x != 0) < H.length := by
    rw [List.findIdx_lt_length]
    obtain ⟨x, hx, h0⟩ := h
    exact ⟨x, hx, by simpa using h0⟩
  refine ⟨hl, ?_, fun j hj => ?_⟩
  · have := List.findIdx_getElem (p := fun x : Int => x != 0) (xs := H) (w := hl)
    rw [List.getD_eq_getElem?_getD, List.getElem?_eq_getElem hl]
    simpa using this
  · have := List.not_of_lt_findIdx hj
    rw [List.getD_eq_getElem?_getD, List.getElem?_eq_getElem (by omega)]
    simpa using this
theorem outW_of {H : List Int} {k : Nat} (h0 : H.getD k 0 ≠ 0) (hz : ∀ j, j < k → H.getD j 0 = 0) : outW H = k := by
  have hk : k < H.length := by
    by_cases hk : k < H.length
    · exact hk
    · rw [List.getD_eq_getElem?_getD, List.getElem?_eq_none (by omega)] at h0
      exact absurd rfl h0
  have hn : NZ H := ⟨H.getD k 0, by rw [List.getD_eq_getElem?_getD, List.getElem?_eq_getElem hk]; exact List.getElem_mem hk, h0⟩
  obtain ⟨_, h2, h3⟩ := outW_get hn
  rcases Nat.lt_trichotomy (outW H) k with q | q | q
  · exact absurd (hz _ q) h2
  · exact q
  · exact absurd (h3 _ q) h0
theorem nz_of_get {H : List Int} {k : Nat} (h0 : H.getD k 0 ≠ 0) : NZ H := by
  have hk : k < H.length := by
    by_cases hk : k < H.length
    · exact hk
    · rw [List.getD_eq_getElem?_getD, List.getElem?_eq_none (by omega)] at h0
      exact absurd rfl h0
  exact ⟨H.getD k 0, by rw [List.getD_eq_getElem?_getD, List.getElem?_eq_getElem hk]; exact List.getElem_mem hk, h0⟩
theorem outW_init {H : List Int} (h : NZ H.dropLast) : outW H < H.length - 1 := by
  obtain ⟨x, hx, h0⟩ := h
  obtain ⟨i, hi, e⟩ := List.getElem_of_mem hx
  obtain ⟨_, _, h3⟩ := outW_get (NZ.of_init ⟨x, hx, h0⟩)
  rw [List.length_dropLast] at hi
  rcases Nat.lt_or_ge i (outW H) with q | q
  · exfalso
    have := h3 i q
    rw [List.getD_eq_getElem?_getD, List.getElem?_eq_getElem (by omega)] at this
    rw [List.getElem_dropLast] at e
    exact h0 (by rw [← e]; exact this)
  · omega
/-- a row cleared at k by a head -/
def clrd (k : Nat) (head row : List Int) : List Int := plainL (comb (head.getD k 0) (-(row.getD k 0)) row head)
theorem plainL_zero {xs : List Int} (h : ¬ NZ xs) : plainL xs = xs := by
  unfold plainL
  conv => rhs; rw [← List.map_id xs]
  apply List.map_congr_left
  intro x hx
  have : x = 0 := by
    by_cases hx0 : x = 0
    · exact hx0
    · exact absurd ⟨x, hx, hx0⟩ h
  rw [this]
  simp
theorem plain_get (xs : List Int) (j : Nat) : (plainL xs).getD j 0 = 0 ↔ xs.getD j 0 = 0 := by
  by_cases h : NZ xs
  · have e := scal_plain (xs := xs)
    have e2 : xs.getD j 0 = plainBy xs * (plainL xs).getD j 0 := by
      conv => lhs; rw [← e]
      unfold scal
      rw [List.getD_eq_getElem?_getD, List.getD_eq_getElem?_getD, List.getElem?_map]
      cases (plainL xs)[j]? <;> simp
    rw [e2]
    constructor
    · intro h0; rw [h0, Int.mul_zero]
    · intro h0
      rcases Int.mul_eq_zero.mp h0 with q | q
      · exact absurd q (plainBy_ne h)
      · exact q
  · rw [plainL_zero h]
theorem plain_dot (xs x : List Int) : dotL (plainL xs) x = 0 ↔ dotL xs x = 0 := by
  by_cases h : NZ xs
  · have e : dotL xs x = plainBy xs * dotL (plainL xs) x := by rw [← dotL_scal, scal_plain]
    rw [e]
    constructor
    · intro h0; rw [h0, Int.mul_zero]
    · intro h0
      rcases Int.mul_eq_zero.mp h0 with q | q
      · exact absurd q (plainBy_ne h)
      · exact q
  · rw [plainL_zero h]
theorem clrd_len {k : Nat} {head row : List Int} (h : row.length = head.length) : (clrd k head row).length = row.length := by unfold clrd; rw [plainL_len, comb_len h]
theorem clrd_get {k : Nat} {head row : List Int} (h : row.length = head.length) (j : Nat) : (clrd k head row).getD j 0 = 0 ↔ head.getD k 0 * row.getD j 0 - row.getD k 0 * head.getD j 0 = 0 := by
  unfold clrd
  rw [plain_get, comb_get j h, Int.neg_mul]
  constructor <;> intro q <;> omega
theorem clrd_dot {k : Nat} {head row x : List Int} (h : row.length = head.length) : dotL (clrd k head row) x = 0 ↔ head.getD k 0 * dotL row x - row.getD k 0 * dotL head x = 0 := by
  unfold clrd
  rw [plain_dot, comb_dot _ _ _ _ _ h, Int.neg_mul]
  constructor <;> intro q <;> omega
abbrev RedS := List (List Int) × List (List Int)
def redS (s : RedS) (k : Nat) : RedS := match s.1.filter (fun r => r.getD k 0 != 0) with
  | [] => s
  | r :: _ => (s.1.map (clrd k (plainL r)), s.2.map (clrd k (plainL r)) ++ [plainL r])
theorem redS_nil {s : RedS} {k : Nat} (h : s.1.filter (fun r => r.getD k 0 != 0) = []) : redS s k = s := by unfold redS; rw [h]
theorem redS_cons {s : RedS} {k : Nat} {r : List Int} {rest : List (List Int)} (h : s.1.filter (fun r => r.getD k 0 != 0) = r :: rest) : redS s k = (s.1.map (clrd k (plainL r)), s.2.map (clrd k (plainL r)) ++ [plainL r]) := by unfold redS; rw [h]
def redW (w : Nat) (rows : List (List Int)) : RedS := (List.range w).foldl redS (rows, [])
def red (w : Nat) (rows : List (List Int)) : Option (List (List Int)) := if ((redW w rows).1.any fun r => r.getD w 0 != 0) = true then none else some (redW w rows).2
/-- rows in their one form, their leads below k -/
structure RR (w k : Nat) (F : List (List Int)) : Prop where
  len : ∀ f ∈ F, f.length = w + 1
  pr : ∀ f ∈ F, Prim f
  ld : ∀ f ∈ F, outW f < k
  pw : F.Pairwise fun f g => outW f < outW g ∧ f.getD (outW g) 0 = 0
structure RInv (w k : Nat) (rows : List (List Int)) (s : RedS) : Prop where
  ll : ∀ r ∈ s.1, r.length = w + 1
  lz : ∀ r ∈ s.1, ∀ j, j < k → r.getD j 0 = 0
  rr : RR w k s.2
  ker : ∀ x, Ker w (s.1 ++ s.2) x ↔ Ker w rows x
theorem prim_nz {xs : List Int} (h : Prim xs) : NZ xs := by
  by_cases hn : NZ xs
  · exact hn
  · exfalso
    have h2 := h.2
    have : ∀ ys : List Int, ¬ NZ ys → leadL ys = 0 := by
      intro ys
      induction ys with
      | nil => intro _; rfl
      | cons y ys ih =>
        intro hn
        have hy : y = 0 := by
          by_cases hy : y = 0
          · exact hy
          · exact absurd ⟨y, List.mem_cons_self, hy⟩ hn
        rw [leadL_cons, if_pos hy]
        exact ih fun ⟨x, hx, h0⟩ => hn ⟨x, List.mem_cons_of_mem _ hx, h0⟩
    rw [this xs hn] at h2
    omega
theorem redS_inv {w k : Nat} {rows : List (List Int)} {s : RedS} (h : RInv w k rows s) : RInv w (k + 1) rows (redS s k) := by
  unfold redS
  split
  · rename_i hf
    have hz : ∀ r ∈ s.1, r.getD k 0 = 0 := fun r hr => by
      by_cases h0 : r.getD k 0 = 0
      · exact h0
      · have : r ∈ s.1.filter (fun r => r.getD k 0 != 0) := List.mem_filter.mpr ⟨hr, by simpa using h0⟩
        rw [hf] at this
        cases this
    refine ⟨h.ll, fun r hr j hj => ?_, ⟨h.rr.len, h.rr.pr, fun f hf => by have := h.rr.ld f hf; omega, h.rr.pw⟩, h.ker⟩
    rcases Nat.lt_or_ge j k with q | q
    · exact h.lz r hr j q
    · rw [show j = k by omega]; exact hz r hr
  · rename_i r0 rest hf
    have hm : r0 ∈ s.1.filter (fun r => r.getD k 0 != 0) := by rw [hf]; exact List.mem_cons_self
    obtain ⟨hr0, hk0⟩ := List.mem_filter.mp hm
    have hk0 : r0.getD k 0 ≠ 0 := by simpa using hk0
    have hl0 := h.ll r0 hr0
    have hn0 : NZ r0 := nz_of_get hk0
    have hp0 := plain_prim hn0
    have hlp : (plainL r0).length = w + 1 := by rw [plainL_len]; exact hl0
    have hpk : (plainL r0).getD k 0 ≠ 0 := fun z => hk0 ((plain_get r0 k).mp z)
    have hpz : ∀ j, j < k → (plainL r0).getD j 0 = 0 := fun j hj => (plain_get r0 j).mpr (h.lz r0 hr0 j hj)
    have hpo : outW (plainL r0) = k := outW_of hpk hpz
    have hcz : ∀ r, r.length = w + 1 → (clrd k (plainL r0) r).getD k 0 = 0 := fun r hr => (clrd_get (by omega) k).mpr (by rw [Int.mul_comm]; omega)
    -- what a found row becomes
    have hfo : ∀ f ∈ s.2, (∀ j, j < k → ((clrd k (plainL r0) f).getD j 0 = 0 ↔ f.getD j 0 = 0)) := fun f hf' j hj => by
      rw [clrd_get (by rw [h.rr.len f hf', hlp]), hpz j hj, Int.mul_zero, Int.sub_zero]
      constructor
      · intro q
        rcases Int.mul_eq_zero.mp q with q | q
        · exact absurd q hpk
        · exact q
      · intro q; rw [q, Int.mul_zero]
    have hfout : ∀ f ∈ s.2, outW (clrd k (plainL r0) f) = outW f := fun f hf' => by
      obtain ⟨_, g2, g3⟩ := outW_get (prim_nz (h.rr.pr f hf'))
      have hlt := h.rr.ld f hf'
      refine outW_of (fun z => g2 ((hfo f hf' _ hlt).mp z)) fun j hj => (hfo f hf' j (by omega)).mpr (g3 j hj)
    refine ⟨fun r hr => ?_, fun r hr j hj => ?_, ⟨fun f hf' => ?_, fun f hf' => ?_, fun f hf' => ?_, ?_⟩, fun x => ?_⟩
    · obtain ⟨r', hr', rfl⟩ := List.mem_map.mp hr
      rw [clrd_len (by rw [h.ll r' hr', hlp])]
      exact h.ll r' hr'
    · obtain ⟨r', hr', rfl⟩ := List.mem_map.mp hr
      rcases Nat.lt_or_ge j k with q | q
      · exact (clrd_get (by rw [h.ll r' hr', hlp]) j).mpr (by rw [hpz j q, h.lz r' hr' j q]; omega)
      · rw [show j = k by omega]; exact hcz r' (h.ll r' hr')
    · rcases List.mem_append.mp hf' with q | q
      · obtain ⟨f', hf'', rfl⟩ := List.mem_map.mp q
        rw [clrd_len (by rw [h.rr.len f' hf'', hlp])]
        exact h.rr.len f' hf''
      · rw [List.mem_singleton.mp q]; exact hlp
    · rcases List.mem_append.mp hf' with q | q
      · obtain ⟨f', hf'', rfl⟩ := List.mem_map.mp q
        refine plain_prim ?_
        obtain ⟨_, g2, _⟩ := outW_get (prim_nz (h.rr.pr f' hf''))
        have hlt := h.rr.ld f' hf''
        refine nz_of_get (k := outW f') fun z => g2 ((hfo f' hf'' _ hlt).mp ?_)
        unfold clrd
        rw [plain_get]
        exact z
      · rw [List.mem_singleton.mp q]; exact hp0
    · rcases List.mem_append.mp hf' with q | q
      · obtain ⟨f', hf'', rfl⟩ := List.mem_map.mp q
        rw [hfout f' hf'']
        have := h.rr.ld f' hf''
        omega
      · rw [List.mem_singleton.mp q, hpo]; omega
    · refine List.pairwise_append.mpr ⟨?_, List.pairwise_singleton _ _, fun f hf' g hg => ?_⟩
      · rw [List.pairwise_map]
        refine List.Pairwise.imp_of_mem (fun {a b} ha hb hab => ?_) h.rr.pw
        rw [hfout a ha, hfout b hb]
        exact ⟨hab.1, (hfo a ha _ (h.rr.ld b hb)).mpr hab.2⟩
      · obtain ⟨f', hf'', rfl⟩ := List.mem_map.mp hf'
        rw [List.mem_singleton.mp hg, hpo, hfout f' hf'']
        exact ⟨h.rr.ld f' hf'', hcz f' (h.rr.len f' hf'')⟩
    · rw [← h.ker x]
      unfold Ker
      constructor
      · rintro ⟨hx, hd⟩
        refine ⟨hx, ?_⟩
        have h0 : dotL (plainL r0) x = 0 := hd _ (by simp)
        have key : ∀ r, r.length = w + 1 → dotL (clrd k (plainL r0) r) x = 0 → dotL r x = 0 := fun r hr hc => by
          have := (clrd_dot (by omega)).mp hc
          rw [h0, Int.mul_zero, Int.sub_zero] at this
          rcases Int.mul_eq_zero.mp this with q | q
          · exact absurd q hpk
          · exact q
        intro r hr
        rcases List.mem_append.mp hr with q | q
        · exact key r (h.ll r q) (hd _ (List.mem_append_left _ (List.mem_map_of_mem q)))
        · exact key r (h.rr.len r q) (hd _ (List.mem_append_right _ (List.mem_append_left _ (List.mem_map_of_mem q))))
      · rintro ⟨hx, hd⟩
        refine ⟨hx, ?_⟩
        have h0 : dotL (plainL r0) x = 0 := (plain_dot r0 x).mpr (hd r0 (List.mem_append_left _ hr0))
        have key : ∀ r, r.length = w + 1 → dotL r x = 0 → dotL (clrd k (plainL r0) r) x = 0 := fun r hr hc => by
          refine (clrd_dot (by omega)).mpr ?_
          rw [h0, hc]
          simp
        intro r hr
        rcases List.mem_append.mp hr with q | q
        · obtain ⟨r', hr', rfl⟩ := List.mem_map.mp q
          exact key r' (h.ll r' hr') (hd _ (List.mem_append_left _ hr'))
        · rcases List.mem_append.mp q with q | q
          · obtain ⟨r', hr', rfl⟩ := List.mem_map.mp q
            exact key r' (h.rr.len r' hr') (hd _ (List.mem_append_right _ hr'))
          · rw [List.mem_singleton.mp q]; exact h0
theorem redW_inv {w : Nat} {rows : List (List Int)} (h : ∀ r ∈ rows, r.length = w + 1) : ∀ k, RInv w k rows ((List.range k).foldl redS (rows, []))
  | 0 => ⟨h, fun _ _ j hj => absurd hj (by omega), ⟨(fun _ h => nomatch h), (fun _ h => nomatch h), (fun _ h => nomatch h), List.Pairwise.nil⟩, fun x => by simp⟩
  | k + 1 => by
    rw [List.range_succ, List.foldl_append]
    exact redS_inv (redW_inv h k)
/-! ### test points -/
def leadP (F : List (List Int)) : Int := (F.map fun f => f.getD (outW f) 0).foldr (· * ·) 1
theorem leadP_ne {w k : Nat} {F : List (List Int)} (h : RR w k F) : leadP F ≠ 0 := by
  unfold leadP
  have : ∀ ys : List Int, (∀ y ∈ ys, y ≠ 0) → ys.foldr (· * ·) 1 ≠ 0 := by
    intro ys
    induction ys with
    | nil => intro _; decide
    | cons y ys ih => intro h; exact Int.mul_ne_zero (h y List.mem_cons_self) (ih fun z hz => h z (List.mem_cons_of_mem _ hz))
  refine this _ fun y hy => ?_
  obtain ⟨f, hf, rfl⟩ := List.mem_map.mp hy
  exact (outW_get (prim_nz (h.pr f hf))).2.1
theorem leadP_dvd {F : List (List Int)} {f : List Int} (h : f ∈ F) : f.getD (outW f) 0 ∣ leadP F := by
  unfold leadP
  have : ∀ ys : List Int, ∀ y ∈ ys, y ∣ ys.foldr (· * ·) 1 := by
    intro ys
    induction ys with
    | nil => intro y hy; cases hy
    | cons z ys ih =>
      intro y hy
      rw [List.foldr_cons]
      rcases List.mem_cons.mp hy with rfl | hy
      · exact Int.dvd_mul_right _ _
      · exact Int.dvd_mul_of_dvd_right (ih y hy)
  exact this _ _ (List.mem_map.mpr ⟨f, h, rfl⟩)
/-- the lead of some row -/
def isLead (F : List (List Int)) (j : Nat) : Prop := ∃ f ∈ F, outW f = j
theorem RR.uniq {w k : Nat} {F : List (List Int)} (h : RR w k F) {f g : List Int} (hf : f ∈ F) (hg : g ∈ F) (e : outW f = outW g) : f = g := by
  have hp := h.pw
  clear h
  induction F with
  | nil => cases hf
  | cons a F ih =>
    obtain ⟨h1, h2⟩ := List.pairwise_cons.mp hp
    rcases List.mem_cons.mp hf with hf1 | hf1 <;> rcases List.mem_cons.mp hg with hg1 | hg1
    · rw [hf1, hg1]
    · have := (h1 g hg1).1; rw [hf1] at e; omega
    · have := (h1 f hf1).1; rw [hg1] at e; omega
    · exact ih hf1 hg1 h2
theorem RR.zero {w k : Nat} {F : List (List Int)} (h : RR w k F) {f g : List Int} (hf : f ∈ F) (hg : g ∈ F) (e : f ≠ g) : f.getD (outW g) 0 = 0 := by
  have hp := h.pw
  have hpr := h.pr
  clear h
  induction F with
  | nil => cases hf
  | cons a F ih =>
    obtain ⟨h1, h2⟩ := List.pairwise_cons.mp hp
    rcases List.mem_cons.mp hf with hf1 | hf1 <;> rcases List.mem_cons.mp hg with hg1 | hg1
    · exact absurd (hf1.trans hg1.symm) e
    · rw [hf1]; exact (h1 g hg1).2
    · rw [hg1]; exact (outW_get (prim_nz (hpr f hf))).2.2 _ (h1 f hf1).1
    · exact ih hf1 hg1 h2 fun q hq => hpr q (List.mem_cons_of_mem _ hq)
/-- a point of the part, told by a column that leads no row -/
def testV (w : Nat) (F : List (List Int)) (j : Nat) : List Int := (List.range (w + 1)).map fun c => if c = j then leadP F else match F.find? (fun f => outW f == c) with
  | some f => -(f.getD j 0) * (leadP F).fdiv (f.getD c 0)
  | none => 0
theorem testV_len (w : Nat) (F : List (List Int)) (j : Nat) : (testV w F j).length = w + 1 := by unfold testV; rw [List.length_map, List.length_range]
theorem testV_get {w : Nat} {F : List (List Int)} {j c : Nat} (hc : c < w + 1) : (testV w F j).getD c 0 = if c = j then leadP F else match F.find? (fun f => outW f == c) with
    | some f => -(f.getD j 0) * (leadP F).fdiv (f.getD c 0)
    | none => 0 := by
  unfold testV
  rw [List.getD_eq_getElem?_getD, List.getElem?_map, List.getElem?_range hc]
  rfl
theorem testV_lead {w k : Nat} {F : List (List Int)} (h : RR w k F) (hk : k ≤ w + 1) {j : Nat} {f : List Int} (hf : f ∈ F) (hj : outW f ≠ j) : (testV w F j).getD (outW f) 0 = -(f.getD j 0) * (leadP F).fdiv (f.getD (outW f) 0) := by
  have hl := h.ld f hf
  rw [testV_get (by omega), if_neg hj]
  cases hfi : F.find? (fun g => outW g == outW f) with
  | none =>
    have := List.find?_eq_none.mp hfi f hf
    simp at this
  | some g =>
    have h1 := List.find?_some hfi
    have h2 := List.mem_of_find?_eq_some hfi
    have : g = f := h.uniq h2 hf (by simpa using h1)
    rw [this]
theorem testV_other {w : Nat} {F : List (List Int)} {j c : Nat} (hc : c < w + 1) (hj : c ≠ j) (hl : ¬ isLead F c) : (testV w F j).getD c 0 = 0 := by
  rw [testV_get hc, if_neg hj]
  cases hfi : F.find? (fun g => outW g == c) with
  | none => rfl
  | some g => exact absurd ⟨g, List.mem_of_find?_eq_some hfi, by simpa using List.find?_some hfi⟩ hl
theorem fdiv_mul_lead {F : List (List Int)} {f : List Int} (hf : f ∈ F) : f.getD (outW f) 0 * (leadP F).fdiv (f.getD (outW f) 0) = leadP F := by
  rw [Int.mul_comm]
  exact fdiv_mul_of_dvd (leadP_dvd hf)
/-- a row that is nought at the leads but one, at a test point -/
theorem test_dot {w k : Nat} {F : List (List Int)} (h : RR w k F) (hk : k ≤ w + 1) {j : Nat} (hj : j < w + 1) (hjl : ¬ isLead F j) {f g : List Int} (hf : f ∈ F) (hg : g.length = w + 1) (hz : ∀ f' ∈ F, f' ≠ f → g.getD (outW f') 0 = 0) :
    dotL g (testV w F j) = g.getD (outW f) 0 * (-(f.getD j 0) * (leadP F).fdiv (f.getD (outW f) 0)) + g.getD j 0 * leadP F := by
  have hne : outW f ≠ j := fun e => hjl ⟨f, hf, e⟩
  have hlf := h.ld f hf
  rw [dotL_range g _ (by rw [hg, testV_len]), hg, sum_two' (a := outW f) (b := j) hne (List.range (w + 1)) List.nodup_range (List.mem_range.mpr (by omega)) (List.mem_range.mpr hj), testV_lead h hk hf hne]
  · have : (testV w F j).getD j 0 = leadP F := by rw [testV_get hj, if_pos rfl]
    rw [this]
  · intro c hc h1 h2
    rw [List.mem_range] at hc
    by_cases hl : isLead F c
    · obtain ⟨f', hf', e⟩ := hl
      have : g.getD c 0 = 0 := by
        rw [← e]
        refine hz f' hf' fun e2 => h1 ?_
        rw [← e, e2]
      rw [this, Int.zero_mul]
    · rw [testV_other hc h2 hl, Int.mul_zero]
theorem test_ker {w k : Nat} {F : List (List Int)} (h : RR w k F) (hk : k ≤ w + 1) {j : Nat} (hj : j < w + 1) (hjl : ¬ isLead F j) : Ker w F (testV w F j) := by
  refine ⟨testV_len w F j, fun f hf => ?_⟩
  rw [test_dot h hk hj hjl hf (h.len f hf) fun f' hf' hne => h.zero hf hf' fun e => hne e.symm]
  have := fdiv_mul_lead hf
  generalize (leadP F).fdiv (f.getD (outW f) 0) = q at *
  rw [← this]
  generalize f.getD (outW f) 0 = a
  generalize f.getD j 0 = b
  grind
/-- no test point beyond the column: leads told by the points -/
theorem test_zero {w k : Nat} {F : List (List Int)} (h : RR w k F) {j c : Nat} (hc : c < w + 1) (hjc : j < c) : (testV w F j).getD c 0 = 0 := by
  rw [testV_get hc, if_neg (by omega)]
  cases hfi : F.find? (fun g => outW g == c) with
  | none => rfl
  | some g =>
    have h1 : outW g = c := by simpa using List.find?_some hfi
    have h2 := List.mem_of_find?_eq_some hfi
    have : g.getD j 0 = 0 := (outW_get (prim_nz (h.pr g h2))).2.2 j (by omega)
    show -(g.getD j 0) * _ = 0
    rw [this]
    simp
theorem lead_iff {w k : Nat} {F : List (List Int)} (h : RR w k F) (hk : k ≤ w + 1) {j : Nat} (hj : j < w + 1) : isLead F j ↔ ∀ x, Ker w F x → (∀ c, j < c → x.getD c 0 = 0) → x.getD j 0 = 0 := by
  constructor
  · rintro ⟨f, hf, rfl⟩ x hx hz
    have hd := hx.2 f hf
    obtain ⟨_, g2, g3⟩ := outW_get (prim_nz (h.pr f hf))
    rw [dotL_range f x (by rw [h.len f hf, hx.1]), h.len f hf, sum_one' (a := outW f) _ List.nodup_range (List.mem_range.mpr hj)] at hd
    · rcases Int.mul_eq_zero.mp hd with q | q
      · exact absurd q g2
      · exact q
    · intro c _ hne
      rcases Nat.lt_or_ge c (outW f) with q | q
      · rw [g3 c q, Int.zero_mul]
      · rw [hz c (by omega), Int.mul_zero]
  · intro hx
    by_cases hl : isLead F j
    · exact hl
    · exfalso
      have h1 := hx _ (test_ker h hk hj hl) fun c hc => by
        by_cases hcw : c < w + 1
        · exact test_zero h hcw hc
        · rw [List.getD_eq_getElem?_getD, List.getElem?_eq_none (by rw [testV_len]; omega)]; rfl
      rw [testV_get hj, if_pos rfl] at h1
      exact leadP_ne h h1
/-- rows of one form are told by what they make nought -/
theorem RR.row_eq {w k : Nat} {F G : List (List Int)} (hF : RR w k F) (hG : RR w k G) (hk : k ≤ w + 1) (hl : ∀ j, isLead F j ↔ isLead G j) (hker : ∀ x, Ker w F x → Ker w G x) {f g : List Int} (hf : f ∈ F) (hg : g ∈ G) (e : outW f = outW g) : f = g := by
  have hfl := hF.len f hf
  have hgl := hG.len g hg
  obtain ⟨_, f2, f3⟩ := outW_get (prim_nz (hF.pr f hf))
  obtain ⟨_, g2, g3⟩ := outW_get (prim_nz (hG.pr g hg))
  have hgz : ∀ f' ∈ F, f' ≠ f → g.getD (outW f') 0 = 0 := fun f' hf' hne => by
    obtain ⟨g', hg', e'⟩ := (hl (outW f')).mp ⟨f', hf', rfl⟩
    have hne' : g ≠ g' := fun q => hne (hF.uniq hf' hf (by rw [← e', ← q, e]))
    have := hG.zero hg hg' hne'
    rwa [e'] at this
  have hprop : ∀ j, j < w + 1 → f.getD (outW f) 0 * g.getD j 0 = g.getD (outW f) 0 * f.getD j 0 := fun j hj => by
    by_cases hjl : isLead F j
    · obtain ⟨f', hf', rfl⟩ := hjl
      by_cases hff : f' = f
      · rw [hff, Int.mul_comm]
      · rw [hgz f' hf' hff, hF.zero hf hf' (fun q => hff q.symm)]
        simp
    · have hd := (hker _ (test_ker hF hk hj hjl)).2 g hg
      rw [test_dot hF hk hj hjl hf hgl hgz] at hd
      have hm := fdiv_mul_lead hf
      have hq : (leadP F).fdiv (f.getD (outW f) 0) ≠ 0 := fun z => leadP_ne hF (by rw [← hm, z, Int.mul_zero])
      generalize (leadP F).fdiv (f.getD (outW f) 0) = q at *
      rw [← hm] at hd
      have : q * (f.getD (outW f) 0 * g.getD j 0 - g.getD (outW f) 0 * f.getD j 0) = 0 := by
        have e1 : q * (f.getD (outW f) 0 * g.getD j 0 - g.getD (outW f) 0 * f.getD j 0) = g.getD (outW f) 0 * (-f.getD j 0 * q) + g.getD j 0 * (f.getD (outW f) 0 * q) := by
          generalize f.getD (outW f) 0 = a
          generalize g.getD j 0 = b
          generalize g.getD (outW f) 0 = c
          generalize f.getD j 0 = d
          clear hd hm hq
          grind
        rw [e1]
        exact hd
      rcases Int.mul_eq_zero.mp this with r | r
      · exact absurd r hq
      · omega
  refine prim_eq (a := g.getD (outW f) 0) (b := f.getD (outW f) 0) (hF.pr f hf) (hG.pr g hg) (by rw [e]; exact g2) f2 ?_
  apply List.ext_getElem
  · rw [scal_len, scal_len, hfl, hgl]
  · intro i h1 h2
    simp only [scal, List.getElem_map]
    rw [scal_len] at h1 h2
    have := hprop i (by omega)
    rw [List.getD_eq_getElem?_getD (l := f) (i := i), List.getElem?_eq_getElem h1, List.getD_eq_getElem?_getD (l := g) (i := i), List.getElem?_eq_getElem h2] at this
    simp only [Option.getD_some] at this
    omega
theorem RR.eq {w k : Nat} {F G : List (List Int)} (hF : RR w k F) (hG : RR w k G) (hk : k ≤ w + 1) (hker : ∀ x, Ker w F x ↔ Ker w G x) : F = G := by
  have hl : ∀ j, isLead F j ↔ isLead G j := fun j => by
    by_cases hj : j < w + 1
    · rw [lead_iff hF hk hj, lead_iff hG hk hj]
      constructor
      · intro h x hx; exact h x ((hker x).mpr hx)
      · intro h x hx; exact h x ((hker x).mp hx)
    · constructor
      · rintro ⟨f, hf, rfl⟩; exact absurd (hF.ld f hf) (by omega)
      · rintro ⟨f, hf, rfl⟩; exact absurd (hG.ld f hf) (by omega)
  have hFG : ∀ f ∈ F, f ∈ G := fun f hf => by
    obtain ⟨g, hg, e⟩ := (hl (outW f)).mp ⟨f, hf, rfl⟩
    rw [hF.row_eq hG hk hl (fun x => (hker x).mp) hf hg e.symm]
    exact hg
  have hGF : ∀ g ∈ G, g ∈ F := fun g hg => by
    obtain ⟨f, hf, e⟩ := (hl (outW g)).mpr ⟨g, hg, rfl⟩
    rw [← hF.row_eq hG hk hl (fun x => (hker x).mp) hf hg e]
    exact hf
  -- two lists with the same items, sorted alike
  have key : ∀ (F G : List (List Int)), F.Pairwise (fun f g => outW f < outW g) → G.Pairwise (fun f g => outW f < outW g) → (∀ f ∈ F, f ∈ G) → (∀ g ∈ G, g ∈ F) → F = G := by
    intro F
    induction F with
    | nil =>
      intro G _ _ _ h2
      cases G with
      | nil => rfl
      | cons g G => exact absurd (h2 g List.mem_cons_self) (by simp)
    | cons f F ih =>
      intro G p1 p2 h1 h2
      cases G with
      | nil => exact absurd (h1 f List.mem_cons_self) (by simp)
      | cons g G =>
        obtain ⟨a1, a2⟩ := List.pairwise_cons.mp p1
        obtain ⟨b1, b2⟩ := List.pairwise_cons.mp p2
        have hfg : f = g := by
          rcases List.mem_cons.mp (h1 f List.mem_cons_self) with q | q
          · exact q
          · rcases List.mem_cons.mp (h2 g List.mem_cons_self) with r | r
            · exact r.symm
            · have := b1 f q; have := a1 g r; omega
        subst hfg
        congr 1
        refine ih G a2 b2 (fun x hx => ?_) fun x hx => ?_
        · rcases List.mem_cons.mp (h1 x (List.mem_cons_of_mem _ hx)) with q | q
          · subst q; exact absurd (a1 x hx) (by omega)
          · exact q
        · rcases List.mem_cons.mp (h2 x (List.mem_cons_of_mem _ hx)) with q | q
          · subst q; exact absurd (b1 x hx) (by omega)
          · exact q
  exact key F G (hF.pw.imp fun h => h.1) (hG.pw.imp fun h => h.1) hFG hGF
/-! ### what reduced rows tell -/
/-- some point satisfies the rows -/
def Cons (w : Nat) (rows : List (List Int)) : Prop := ∃ x, Ker w rows x ∧ x.getD w 0 ≠ 0
theorem red_some {w : Nat} {rows F : List (List Int)} (hl : ∀ r ∈ rows, r.length = w + 1) (h : red w rows = some F) : RR w w F ∧ (∀ x, Ker w F x ↔ Ker w rows x) ∧ Cons w rows := by
  have I := redW_inv hl w
  unfold red at h
  split at h
  · cases h
  · rename_i hz
    cases h
    have hz' : ∀ r ∈ (redW w rows).1, ∀ c, r.getD c 0 = 0 := fun r hr c => by
      rcases Nat.lt_trichotomy c w with q | q | q
      · exact I.lz r hr c q
      · by_cases h0 : r.getD c 0 = 0
        · exact h0
        · refine absurd (List.any_eq_true.mpr ⟨r, hr, ?_⟩) hz
          rw [← q]
          simpa using h0
      · rw [List.getD_eq_getElem?_getD, List.getElem?_eq_none (by rw [I.ll r hr]; omega)]; rfl
    have hk : ∀ x, Ker w (redW w rows).2 x ↔ Ker w rows x := fun x => by
      rw [← I.ker x]
      unfold Ker
      constructor
      · rintro ⟨a, b⟩
        refine ⟨a, fun r hr => ?_⟩
        rcases List.mem_append.mp hr with q | q
        · rw [dotL_range r x (by rw [I.ll r q, a])]
          exact sum_zero' _ fun c _ => by rw [hz' r q c, Int.zero_mul]
        · exact b r q
      · rintro ⟨a, b⟩
        exact ⟨a, fun r hr => b r (List.mem_append_right _ hr)⟩
    refine ⟨I.rr, hk, testV w (redW w rows).2 w, (hk _).mp (test_ker I.rr (by omega) (by omega) fun ⟨f, hf, e⟩ => by have := I.rr.ld f hf; omega), ?_⟩
    rw [testV_get (by omega), if_pos rfl]
    exact leadP_ne I.rr
theorem red_none {w : Nat} {rows : List (List Int)} (hl : ∀ r ∈ rows, r.length = w + 1) (h : red w rows = none) : ¬ Cons w rows := by
  have I := redW_inv hl w
  unfold red at h
  split at h
  · rename_i hz
    obtain ⟨r, hr, h0⟩ := List.any_eq_true.mp hz
    rintro ⟨x, hx, hw⟩
    have hd := ((I.ker x).mpr hx).2 r (List.mem_append_left _ hr)
    rw [dotL_range r x (by rw [I.ll r hr, hx.1]), I.ll r hr, sum_one' (a := w) _ List.nodup_range (List.mem_range.mpr (by omega))] at hd
    · rcases Int.mul_eq_zero.mp hd with q | q
      · exact absurd q (by simpa using h0)
      · exact hw q
    · intro c hc hne
      rw [List.mem_range] at hc
      rw [I.lz r hr c (by omega), Int.zero_mul]
  · cases h
theorem red_congr {w : Nat} {rows rows' : List (List Int)} (hl : ∀ r ∈ rows, r.length = w + 1) (hl' : ∀ r ∈ rows', r.length = w + 1) (h : ∀ x, Ker w rows x ↔ Ker w rows' x) : red w rows = red w rows' := by
  have hc : Cons w rows ↔ Cons w rows' := by
    constructor
    · rintro ⟨x, a, b⟩; exact ⟨x, (h x).mp a, b⟩
    · rintro ⟨x, a, b⟩; exact ⟨x, (h x).mpr a, b⟩
  cases h1 : red w rows with
  | none =>
    cases h2 : red w rows' with
    | none => rfl
    | some G => exact absurd (hc.mpr (red_some hl' h2).2.2) (red_none hl h1)
  | some F =>
    cases h2 : red w rows' with
    | none => exact absurd (hc.mp (red_some hl h1).2.2) (red_none hl' h2)
    | some G =>
      obtain ⟨a1, a2, _⟩ := red_some hl h1
      obtain ⟨b1, b2, _⟩ := red_some hl' h2
      rw [a1.eq b1 (by omega) fun x => by rw [a2, b2, h]]
theorem red_rr {w : Nat} {F : List (List Int)} (h : RR w w F) : red w F = some F := by
  cases h1 : red w F with
  | none =>
    refine absurd ⟨testV w F w, test_ker h (by omega) (by omega) (fun ⟨f, hf, e⟩ => by have := h.ld f hf; omega), ?_⟩ (red_none h.len h1)
    rw [testV_get (by omega), if_pos rfl]
    exact leadP_ne h
  | some G =>
    obtain ⟨a1, a2, _⟩ := red_some h.len h1
    rw [a1.eq h (by omega) a2]
end PF

namespace PF
open PySem L2
/-! plain_wall -/
theorem pw_gcd (xs : List Int) : xs.foldl L1_plain_wall 0 = gcdL xs := rfl
theorem head_lead : ∀ (xs : List Int), NZ xs → ∃ t, xs.filter (fun n => !decide (n = (0 : Int))) = leadL xs :: t
  | [], h => by obtain ⟨x, hx, _⟩ := h; cases hx
  | x :: xs, h => by
    rw [leadL_cons]
    by_cases hx : x = 0
    · rw [if_pos hx, List.filter_cons_of_neg (by simp [hx])]
      refine head_lead xs ?_
      obtain ⟨y, hy, h0⟩ := h
      rcases List.mem_cons.mp hy with rfl | hy
      · exact absurd hx h0
      · exact ⟨y, hy, h0⟩
    · rw [if_neg hx, List.filter_cons_of_pos (by simp [hx])]
      exact ⟨_, rfl⟩
theorem pw_lead : ∀ (xs : List Int), NZ xs.dropLast → leadL xs = leadL xs.dropLast
  | [], _ => rfl
  | [x], h => by obtain ⟨y, hy, _⟩ := h; cases hy
  | x :: y :: xs, h => by
    have e : (x :: y :: xs).dropLast = x :: (y :: xs).dropLast := rfl
    rw [e] at h ⊢
    rw [leadL_cons x (y :: xs), leadL_cons x (y :: xs).dropLast]
    by_cases hx : x = 0
    · rw [if_pos hx, if_pos hx]
      refine pw_lead (y :: xs) ?_
      obtain ⟨z, hz, h0⟩ := h
      rcases List.mem_cons.mp hz with rfl | hz
      · exact absurd hx h0
      · exact ⟨z, hz, h0⟩
    · rw [if_neg hx, if_neg hx]
theorem plain_wall_eq {xs : List Int} (h : NZ xs.dropLast) : P_plain_wall xs = plainL xs := by
  obtain ⟨t, ht⟩ := head_lead _ h
  unfold P_plain_wall
  dsimp only [lt]
  rw [pw_gcd, List.map_id', ht]
  have : (List.getD (leadL xs.dropLast :: t) (Int.toNat 0) default) = leadL xs := by rw [pw_lead xs h]; rfl
  rw [this]
  unfold plainL plainBy
  by_cases hn : leadL xs < 0 <;> simp [hn]
theorem plain_wall_D {xs : List Int} (h : NZ xs.dropLast) (hb : ∀ x ∈ xs, x.natAbs < 2 ^ 8000) (hl : xs.length ≤ 1000) : D_plain_wall xs := by
  obtain ⟨t, ht⟩ := head_lead _ h
  have hlim : (lim : Nat) = 1000000 := rfl
  unfold D_plain_wall
  dsimp only [lt, dlt]
  rw [pw_gcd, List.map_id', ht]
  refine ⟨(forD_inv (fun _ => True) _ _ trivial fun _ _ _ _ => ⟨trivial, trivial⟩).1, by rw [List.length_dropLast]; omega, ⟨by decide, by rw [List.length_cons]; omega⟩, fun x hx => ?_, by omega⟩
  have : (List.getD (leadL xs.dropLast :: t) (Int.toNat 0) default) = leadL xs := by rw [pw_lead xs h]; rfl
  rw [this]
  have e : (if decide (leadL xs < 0) = true then 0 - gcdL xs else gcdL xs) = plainBy xs := by unfold plainBy; by_cases hn : leadL xs < 0 <;> simp [hn]
  rw [e]
  obtain ⟨y, hy, h0⟩ := h.of_init
  exact divOk_of (n := 8000) (plainBy_ne h.of_init) (by rw [plainBy_abs]; exact Nat.lt_of_le_of_lt (gcdL_le hy h0) (hb y hy)) (by decide)
/-! walls looked at -/
noncomputable def bad (w : Int) (A : List (List Int)) (p : Int) : Bool :=
  (!decide ((List.length (List.getD A (Int.toNat p) default) : Int) = w + 1)) || ((!((List.dropLast (List.getD A (Int.toNat p) default)).any fun i => i != 0)) || ((!decide (plainL (List.getD A (Int.toNat p) default) = List.getD A (Int.toNat p) default)) || (decide (List.getD A (Int.toNat p) default ∈ sTake A p))))
/-- rows that can be reckoned with -/
structure Rws (n b : Nat) (A : List (List Int)) : Prop where
  ln : A.length ≤ n
  ll : ∀ r ∈ A, r.length ≤ n
  lb : ∀ r ∈ A, ∀ x ∈ r, x.natAbs < 2 ^ b
theorem row_in {A : List (List Int)} {p : Int} (h : 0 ≤ p ∧ p < (A.length : Int)) : A.getD p.toNat default ∈ A := by
  rw [List.getD_eq_getElem?_getD, List.getElem?_eq_getElem (show p.toNat < A.length by omega)]
  exact List.getElem_mem _
theorem any_nz {xs : List Int} (h : (xs.any fun i => i != 0) = true) : NZ xs := by
  obtain ⟨x, hx, h0⟩ := List.any_eq_true.mp h
  exact ⟨x, hx, by simpa using h0⟩
theorem nz_drop {xs : List Int} (h : NZ xs.dropLast) : NZ xs := by
  obtain ⟨x, hx, h0⟩ := h
  exact ⟨x, (List.dropLast_sublist xs).subset hx, h0⟩
theorem due_turn (w : Int) (A : List (List Int)) (p : Int) : L1_law_due w A () p = if bad w A p = true then .inr (some p) else .inl () := rfl
theorem due_fold (w : Int) (A : List (List Int)) : ∀ L : List Int, foldE (L1_law_due w A) L () = match L.find? (bad w A) with
    | some p => .inr (some p)
    | none => .inl ()
  | [] => rfl
  | p :: L => by
    unfold foldE
    rw [due_turn, List.find?_cons]
    cases hb : bad w A p with
    | true => rfl
    | false => exact due_fold w A L
theorem due_eq (w : Int) (A : List (List Int)) : P_law_due w A = (irange 0 (A.length : Int)).find? (bad w A) := by
  unfold P_law_due
  rw [due_fold]
  cases (irange 0 (A.length : Int)).find? (bad w A) with
  | none => rfl
  | some p => rfl
theorem due_D {w : Int} {n : Nat} {A : List (List Int)} (h : Rws n 8000 A) (hn : n ≤ 1000) : D_law_due w A := by
  have hlim : (lim : Nat) = 1000000 := rfl
  have hA := h.ln
  unfold D_law_due
  refine ⟨small_of (by omega), ?_, ?_⟩
  · refine (forDE_inv (fun _ => True) _ _ trivial fun s p hp _ => ⟨?_, fun _ _ => trivial⟩).1
    have hp2 := mem_irange.mp hp
    have hin := row_in hp2
    refine ⟨hp2, fun _ hany => ?_⟩
    have hany' : ((List.getD A (Int.toNat p) default).dropLast.any fun i => i != 0) = true := by
      cases hx : ((List.getD A (Int.toNat p) default).dropLast.any fun i => i != 0) with
      | true => rfl
      | false => rw [hx] at hany; cases hany
    refine ⟨⟨nz_drop (any_nz hany'), fun x hx => Nat.lt_trans (h.lb _ hin x hx) (Nat.pow_lt_pow_right (by decide) (by decide)), Nat.le_trans (h.ll _ hin) hn⟩, fun _ => hp2.1⟩
  · rw [due_fold]
    cases (irange 0 (A.length : Int)).find? (bad w A) with
    | none => trivial
    | some p => trivial
theorem looked_turn {w p : Int} {n : Nat} {A : List (List Int)} (h : Rws n 8000 A) (hn : n ≤ 1000) (hp : 0 ≤ p ∧ p < (A.length : Int)) (x3 : Sl) :
    p1_looked [.sh (eI w), .sh (eL (eT eI) A), .sh (eI p), x3] = if bad w A p = true then .err ⟨5, some p⟩ else .ok (.nx [.sh (eI w), .sh (eL (eT eI) A), .sh (eI p), .sh (eT eI (A.getD p.toNat default))]) := by
  have hin := row_in hp
  have e1 : fOp ixD (fVarB 1) (fVarB 2) [.sh (eI w), .sh (eL (eT eI) A), .sh (eI p), x3] = .ok (eT eI (A.getD p.toNat default)) :=
    (t_ixL (κ := [.sh (eI w), .sh (eL (eT eI) A), .sh (eI p), .no]) (t_b 1 rfl) (t_b 2 rfl) hp) _ ⟨rfl, rfl, rfl, trivial, trivial⟩
  have hw : ∀ hany : ((A.getD p.toNat default).dropLast.any fun i => i != 0) = true, Cal f_plain_wall [eT eI (A.getD p.toNat default)] (.sh (eT eI (plainL (A.getD p.toNat default)))) := fun hany => by
    have := ev_P_plain_wall (A.getD p.toNat default) (plain_wall_D (any_nz hany) (h.lb _ hin) (Nat.le_trans (h.ll _ hin) hn))
    rw [plain_wall_eq (any_nz hany)] at this
    exact this
  have hq : ∀ a b : List Int, decide (a = b) = decide (b = a) := fun a b => by
    by_cases hab : a = b
    · rw [hab]
    · rw [decide_eq_false hab, decide_eq_false (Ne.symm hab)]
  generalize hone : A.getD p.toNat default = one at *
  have e2 : (fOr (fB (fOp neD (fUn lenD (fVarB 3)) (fSh (fOp addD (fVarB 0) (fC (.int 1)))))) (fOr (fNot (fB (fUn anyD (fSh (fSl (fVarB 3) fNone (fSome (fUn negD (fC (.int 1))))))))) (fOr (fB (fOp neD (fVarB 3) (fSh (fCall f_plain_wall (fCons (fVarS 3) fNil))))) (fB (fOp inD (fVarB 3) (fSh (fSl (fVarB 1) fNone (fSome (fVarB 2))))))))) [.sh (eI w), .sh (eL (eT eI) A), .sh (eI p), .sh (eT eI one)] = .ok ((!decide ((List.length one : Int) = w + 1)) || ((!((List.dropLast one).any fun i => i != 0)) || ((!decide (one = plainL one)) || (decide (one ∈ sTake A p))))) := by
    refine (c_or (κ := [.sh (eI w), .sh (eL (eT eI) A), .sh (eI p), .sh (eT eI one)]) (c_b (t_ne q_I (e := eI) (t_lenT (t_b 3 rfl)) (s_sh (v_addI (t_b 0 rfl) (t_int 1))))) (fun _ => c_or (c_not (c_b (t_anyTI (s_sh (v_slT (t_b 3 rfl) o_none (o_some (t_neg (t_int 1))) cut_init))))) (fun q => c_or (c_b (t_ne (q_T q_I) (e := eT eI) (t_b 3 rfl) (s_sh (v_call (a_cons (t_s 3 rfl) a_nil) (hw (by simpa using q)))))) (fun _ => c_b (t_in (q_T q_I) (e := eT eI) (t_b 3 rfl) (s_ol (v_slL (t_b 1 rfl) o_none (o_some (t_b 2 rfl)) (cut_take hp.1)))))))) _ ⟨rfl, rfl, rfl, rfl, trivial⟩
  have eb : ((!decide ((List.length one : Int) = w + 1)) || ((!((List.dropLast one).any fun i => i != 0)) || ((!decide (one = plainL one)) || (decide (one ∈ sTake A p))))) = bad w A p := by
    unfold bad
    rw [hone, hq]
  rw [eb] at e2
  unfold p1_looked
  rw [z_seq, z_set, z_v, e1, z_ok, z_ok, z_anx, z_fz]
  show fIf _ _ _ [.sh (eI w), .sh (eL (eT eI) A), .sh (eI p), .sh (eT eI one)] = _
  rw [z_if, e2, z_ok]
  cases bad w A p with
  | true => rfl
  | false => rfl
theorem looked_loop {w : Int} {n : Nat} {A : List (List Int)} (h : Rws n 8000 A) (hn : n ≤ 1000) : ∀ (L : List Int) (x2 x3 : Sl), (∀ p ∈ L, 0 ≤ p ∧ p < (A.length : Int)) →
    (L.find? (bad w A) = none ∧ ∃ y2 y3, forF (tgN 2) p1_looked (L.map eI) [.sh (eI w), .sh (eL (eT eI) A), x2, x3] = .ok (.nx [.sh (eI w), .sh (eL (eT eI) A), y2, y3])) ∨ ∃ p, L.find? (bad w A) = some p ∧ forF (tgN 2) p1_looked (L.map eI) [.sh (eI w), .sh (eL (eT eI) A), x2, x3] = .err ⟨5, some p⟩
  | [], x2, x3, _ => .inl ⟨rfl, x2, x3, rfl⟩
  | p :: L, x2, x3, hp => by
    have ht := looked_turn (w := w) h hn (hp p List.mem_cons_self) x3
    have e0 : forF (tgN 2) p1_looked ((p :: L).map eI) [.sh (eI w), .sh (eL (eT eI) A), x2, x3] = after (p1_looked [.sh (eI w), .sh (eL (eT eI) A), .sh (eI p), x3]) (forF (tgN 2) p1_looked (L.map eI)) := rfl
    rw [e0, ht, List.find?_cons]
    cases hb : bad w A p with
    | true => exact .inr ⟨p, rfl, rfl⟩
    | false => exact looked_loop h hn L _ _ fun q hq => hp q (List.mem_cons_of_mem _ hq)
theorem looked_eq {w : Int} {n : Nat} {A : List (List Int)} (h : Rws n 8000 A) (hn : n ≤ 1000) : f_looked [eI w, eL (eT eI) A] = match P_law_due w A with
    | none => .ok (.sh .none)
    | some p => .err ⟨5, some p⟩ := by
  have hA := h.ln
  have er : fIt rng1 (fCons (fUn lenD (fVarB 1)) fNil) [.sh (eI w), .sh (eL (eT eI) A), .no, .no] = .ok ((irange 0 (A.length : Int)).map eI) :=
    (i_range1 (κ := [.sh (eI w), .sh (eL (eT eI) A), .no, .no]) (a_cons (t_lenL (t_b 1 rfl)) a_nil) (small_of (by omega))) _ ⟨rfl, rfl, trivial, trivial, trivial⟩
  have e0 : f_looked [eI w, eL (eT eI) A] = outV (forF (tgN 2) p1_looked ((irange 0 (A.length : Int)).map eI) [.sh (eI w), .sh (eL (eT eI) A), .no, .no]) := by
    unfold f_looked
    rw [fnOf2]
    unfold b_looked
    show outV (fFor _ _ _ [.sh (eI w), .sh (eL (eT eI) A), .no, .no]) = _
    rw [z_for, er, z_ok]
  rw [e0, due_eq]
  rcases looked_loop (w := w) h hn (irange 0 (A.length : Int)) .no .no fun p hp => mem_irange.mp hp with ⟨h1, y2, y3, h2⟩ | ⟨p, h1, h2⟩
  · rw [h1, h2]; rfl
  · rw [h1, h2]; rfl
theorem caught_ok {a b : PyData} (e : f_looked [a, b] = .ok (.sh .none)) : f__law_caught [a, b] = .ok (.sh .none) := by
  simp [f__law_caught, fnOf2, b__law_caught, z_try, e]
theorem caught_err {a b : PyData} {p : Int} (e : f_looked [a, b] = .err ⟨5, some p⟩) : f__law_caught [a, b] = .ok (.exn ⟨5, some p⟩) := by
  simp [f__law_caught, fnOf2, b__law_caught, z_try, e, eOk]
theorem caught_eq {w : Int} {n : Nat} {A : List (List Int)} (h : Rws n 8000 A) (hn : n ≤ 1000) : f__law_caught [eI w, eL (eT eI) A] = .ok (match P_law_due w A with
    | none => .sh .none
    | some p => .exn ⟨5, some p⟩) := by
  have e := looked_eq (w := w) h hn
  cases hP : P_law_due w A with
  | none =>
    rw [hP] at e
    exact caught_ok e
  | some p =>
    rw [hP] at e
    exact caught_err e
/-! walls spoiled -/
theorem Rws.mono {n b n' b' : Nat} {A : List (List Int)} (h : Rws n b A) (hn : n ≤ n') (hb : b ≤ b') : Rws n' b' A :=
  ⟨Nat.le_trans h.ln hn, fun r hr => Nat.le_trans (h.ll r hr) hn, fun r hr x hx => Nat.lt_of_lt_of_le (h.lb r hr x hx) (Nat.pow_le_pow_right (by decide) hb)⟩
theorem Rws.set {n b : Nat} {A : List (List Int)} {r : List Int} {i : Int} (h : Rws n b A) (hl : r.length ≤ n) (hb : ∀ x ∈ r, x.natAbs < 2 ^ b) : Rws n b (iset A i r) := by
  unfold iset
  refine ⟨by rw [List.length_set]; exact h.ln, fun q hq => ?_, fun q hq => ?_⟩
  · rcases List.mem_or_eq_of_mem_set hq with k | k
    · exact h.ll q k
    · rw [k]; exact hl
  · rcases List.mem_or_eq_of_mem_set hq with k | k
    · exact h.lb q k
    · rw [k]; exact hb
theorem spoiled_ok {n b : Nat} {A : List (List Int)} {m : Int} (h : Rws n b A) (hA : A ≠ []) (hn : n ≤ 100) (hb : b ≤ 1000) (hm : 0 ≤ m ∧ m < 2147483587) : D_law_spoiled A m ∧ Rws (n + 1) (b + 4) (P_law_spoiled A m) := by
  have hlim : (lim : Nat) = 1000000 := rfl
  have hA0 : 0 < A.length := List.length_pos_iff.mpr hA
  have hAn := h.ln
  have hat := fmod_bd m (A.length : Int) (by omega)
  have hway := fmod_bd (m.fdiv 16) 7 (by decide)
  have hpos := fmod_bd (m.fdiv 112) ((A.length : Int) + 1) (by omega)
  have hby := fmod_bd (m.fdiv 112) 8 (by decide)
  have hin := row_in hat
  have hd16 : divOk m 16 := divOk_lit (by decide) (by decide)
  have hd112 : divOk m 112 := divOk_lit (by decide) (by decide)
  have hrl := h.ll _ hin
  have hrb := h.lb _ hin
  have h' := h.mono (n' := n + 1) (b' := b + 4) (by omega) (by omega)
  have hrb' : ∀ x ∈ A.getD (m.fmod (A.length : Int)).toNat default, x.natAbs < 2 ^ (b + 4) := fun x hx => Nat.lt_of_lt_of_le (hrb x hx) (Nat.pow_le_pow_right (by decide) (by omega))
  have hp0 : 0 < 2 ^ (b + 4) := Nat.pow_pos (by decide)
  have hp1 : 1 < 2 ^ (b + 4) := Nat.one_lt_two_pow (by omega)
  unfold D_law_spoiled P_law_spoiled
  dsimp only [lt, dlt]
  generalize A.getD (m.fmod (A.length : Int)).toNat default = one at *
  generalize m.fmod (A.length : Int) = p at *
  generalize (m.fdiv 16).fmod 7 = way at *
  generalize (m.fdiv 112).fmod ((A.length : Int) + 1) = q at *
  generalize (m.fdiv 112).fmod 8 = c at *
  have hw7 : way = 0 ∨ way = 1 ∨ way = 2 ∨ way = 3 ∨ way = 4 ∨ way = 5 ∨ way = 6 := by omega
  rcases hw7 with rfl | rfl | rfl | rfl | rfl | rfl | rfl
  · simp only [Int.reduceEq, decide_true, decide_false, Bool.false_eq_true, if_true, if_false]
    refine ⟨⟨by omega, hat, hd16, ⟨hd112, by omega, by omega, by omega, by omega⟩, trivial, trivial, trivial, trivial, trivial, trivial⟩, ?_⟩
    unfold iins
    refine ⟨?_, fun r hr => ?_, fun r hr => ?_⟩
    · rw [List.length_append, List.length_append, List.length_singleton, List.length_take, List.length_drop]; omega
    · rcases List.mem_append.mp hr with k | k
      · rcases List.mem_append.mp k with k | k
        · exact h'.ll r (List.mem_of_mem_take k)
        · rw [List.mem_singleton.mp k]; omega
      · exact h'.ll r (List.mem_of_mem_drop k)
    · rcases List.mem_append.mp hr with k | k
      · rcases List.mem_append.mp k with k | k
        · exact h'.lb r (List.mem_of_mem_take k)
        · rw [List.mem_singleton.mp k]; exact hrb'
      · exact h'.lb r (List.mem_of_mem_drop k)
  · simp only [Int.reduceEq, decide_true, decide_false, Bool.false_eq_true, if_true, if_false]
    refine ⟨⟨by omega, hat, hd16, trivial, ⟨by omega, hat⟩, trivial, trivial, trivial, trivial, trivial⟩, h'.set (by rw [List.length_map]; omega) fun x hx => ?_⟩
    obtain ⟨y, hy, rfl⟩ := List.mem_map.mp hx
    have := hrb' y hy
    omega
  · simp only [Int.reduceEq, decide_true, decide_false, Bool.false_eq_true, if_true, if_false]
    refine ⟨⟨by omega, hat, hd16, trivial, trivial, ⟨fun x hx => ⟨hd112, mulOk_of (a := x) (b := 2 + c) (m := b + 4) (n := 4) (hrb' x hx) (by omega) (by omega) (by omega) (by omega)⟩, by omega, hat⟩, trivial, trivial, trivial, trivial⟩, h'.set (by rw [List.length_map]; omega) fun x hx => ?_⟩
    obtain ⟨y, hy, rfl⟩ := List.mem_map.mp hx
    have h1 := hrb y hy
    rw [Int.natAbs_mul, Nat.pow_add]
    exact Nat.mul_lt_mul_of_lt_of_le h1 (by omega) (by decide)
  · simp only [Int.reduceEq, decide_true, decide_false, Bool.false_eq_true, if_true, if_false]
    refine ⟨⟨by omega, hat, hd16, trivial, trivial, trivial, ⟨⟨by omega, by omega⟩, by rw [List.length_replicate, List.length_singleton]; omega, hat⟩, trivial, trivial, trivial⟩, h'.set (by rw [List.length_append, List.length_replicate, List.length_singleton]; omega) fun x hx => ?_⟩
    rcases List.mem_append.mp hx with k | k
    · rw [(List.mem_replicate.mp k).2]; exact hp0
    · rw [List.mem_singleton.mp k]; exact hp1
  · simp only [Int.reduceEq, decide_true, decide_false, Bool.false_eq_true, if_true, if_false]
    exact ⟨⟨by omega, hat, hd16, trivial, trivial, trivial, trivial, hat, trivial, trivial⟩, h'.set (by rw [List.length_dropLast]; omega) fun x hx => hrb' x ((List.dropLast_sublist one).subset hx)⟩
  · simp only [Int.reduceEq, decide_true, decide_false, Bool.false_eq_true, if_true, if_false]
    refine ⟨⟨by omega, hat, hd16, trivial, trivial, trivial, trivial, trivial, ⟨by rw [List.length_singleton]; omega, hat⟩, trivial⟩, h'.set (by rw [List.length_append, List.length_singleton]; omega) fun x hx => ?_⟩
    rcases List.mem_append.mp hx with k | k
    · exact hrb' x k
    · rw [List.mem_singleton.mp k]; exact hp0
  · simp only [Int.reduceEq, decide_true, decide_false, Bool.false_eq_true, if_true, if_false]
    refine ⟨⟨by omega, hat, hd16, trivial, trivial, trivial, trivial, trivial, trivial, ⟨by omega, by omega⟩, hat⟩, h'.set (by rw [List.length_replicate]; omega) fun x hx => ?_⟩
    rw [(List.mem_replicate.mp hx).2]; exact hp0
end PF

namespace PF
open PySem L2
/-! the law's digits and fences -/
theorem digits_all (ns : List Int) (st n b : Int) (hs : 0 ≤ st ∧ st ≤ 1000) (hn : 0 ≤ n ∧ n ≤ 10000) (hb : 0 < b ∧ b ≤ 1000) : D_law_digits ns st n b ∧ ((P_law_digits ns st n b).length : Int) = n ∧ ∀ d ∈ P_law_digits ns st n b, 0 ≤ d ∧ d < b := by
  have hl : (lim : Nat) = 1000000 := rfl
  have hb0 : b ≠ 0 := by omega
  have main := forD_inv' (f := L1_law_digits ns st b) (D := LD2_law_digits ns st b) (fun i (s : List Int × Int) => s.1.length = i ∧ ∀ d ∈ s.1, 0 ≤ d ∧ d < b) (irange 0 n) 0 ([], lcell ns 1) ⟨rfl, fun _ h => nomatch h⟩ fun i s k hi hs => by
    have hk := irange_get hi
    rw [Nat.zero_add] at hs ⊢
    have grow : ∀ x : Int, (s.1 ++ [x.fmod b]).length = i + 1 ∧ ∀ d ∈ s.1 ++ [x.fmod b], 0 ≤ d ∧ d < b := fun x => ⟨by rw [List.length_append, hs.1]; rfl, fun d hd => by
      rcases List.mem_append.mp hd with q | q
      · exact hs.2 d q
      · rw [List.mem_singleton.mp q]; exact fmod_bd x b hb.1⟩
    unfold L1_law_digits LD2_law_digits
    dsimp only [lt, dlt]
    by_cases h : decide (Int.fmod (lcell ns 0) 2 = 1) = true
    · rw [if_pos h, if_pos h]
      exact ⟨⟨by decide, hb0, by omega, divOk_lit hb0 (Nat.lt_of_le_of_lt (show b.natAbs ≤ 1000 by omega) (by decide))⟩, grow _⟩
    · rw [if_neg h, if_neg h]
      exact ⟨⟨by decide, ⟨by omega, by omega⟩, hb0, by omega⟩, grow _⟩
  unfold D_law_digits P_law_digits
  dsimp only [lt, dlt]
  refine ⟨⟨by decide, small_of (by omega), main.1, trivial⟩, ?_, main.2.2⟩
  rw [main.2.1, irange_len]
  omega
/-- walls of small numbers -/
structure Fen (w : Nat) (A : List (List Int)) : Prop where
  wl : ∀ W ∈ A, Wall w W
  nd : A.Nodup
  bd : ∀ W ∈ A, ∀ x ∈ W, x.natAbs ≤ 3
theorem fences_all (ns : List Int) (st n : Int) (w : Nat) (hs : 0 ≤ st ∧ st ≤ 1000) (hw : w ≤ 4) (hn : 0 ≤ n ∧ n ≤ 12) : D_law_fences ns st w n ∧ ((P_law_fences ns st w n).length : Int) ≤ n ∧ Fen w (P_law_fences ns st w n) := by
  have hl : (lim : Nat) = 1000000 := rfl
  have mw : ∀ x : Int, mulOk ((w : Int) + 1) x := fun x => mulOk_left (Nat.lt_of_le_of_lt (show ((w : Int) + 1).natAbs ≤ 5 by omega) (by decide))
  obtain ⟨m, rfl⟩ : ∃ m : Nat, n = m := ⟨n.toNat, by omega⟩
  have hT : ((w : Int) + 1) * m = (((w + 1) * m : Nat) : Int) := by rw [Int.natCast_mul]; rfl
  have hTb : (w + 1) * m ≤ 60 := Nat.le_trans (Nat.mul_le_mul (show w + 1 ≤ 5 by omega) (show m ≤ 12 by omega)) (by decide)
  have hdig := digits_all ns st (((w : Int) + 1) * m) 7 hs (by rw [hT]; omega) (by decide)
  unfold D_law_fences P_law_fences
  dsimp only [lt, dlt]
  obtain ⟨d1, d2, d3⟩ := hdig
  generalize P_law_digits ns st (((w : Int) + 1) * m) 7 = ds at *
  rw [hT] at d2
  have main := forD_inv' (f := L1_law_fences w ds) (D := LD2_law_fences w ds) (fun i (s : List (List Int)) => s.length ≤ i ∧ Fen w s) (irange 0 m) 0 [] ⟨by simp, (fun _ h => nomatch h), List.nodup_nil, (fun _ h => nomatch h)⟩ fun i s k hi hs => by
    obtain ⟨rfl, hk⟩ := irange_get hi
    rw [Nat.zero_add] at hs ⊢
    rw [show (0 : Int) + (i : Int) = i by omega]
    have e1 : ((w : Int) + 1) * i = (((w + 1) * i : Nat) : Int) := by rw [Int.natCast_mul]; rfl
    have e2 : ((w : Int) + 1) * ((i : Int) + 1) = (((w + 1) * i + (w + 1) : Nat) : Int) := by rw [Int.mul_add, e1, Int.mul_one]; omega
    have hi2 : (w + 1) * i + (w + 1) ≤ (w + 1) * m := by
      have := Nat.mul_le_mul_left (w + 1) (show i + 1 ≤ m by omega)
      rw [Nat.mul_add, Nat.mul_one] at this
      exact this
    have hrow : (List.map (fun (d : Int) => d - 3) (sMid ds (((w : Int) + 1) * i) (((w : Int) + 1) * ((i : Int) + 1)))).length = w + 1 := by
      unfold sMid
      rw [List.length_map, List.length_take, List.length_drop, e1, e2, Int.toNat_natCast, Int.toNat_natCast]
      omega
    have hrb : ∀ x ∈ List.map (fun (d : Int) => d - 3) (sMid ds (((w : Int) + 1) * i) (((w : Int) + 1) * ((i : Int) + 1))), x.natAbs ≤ 3 := fun x hx => by
      obtain ⟨d, hd, rfl⟩ := List.mem_map.mp hx
      have := d3 d ((List.drop_sublist _ _).subset ((List.take_sublist _ _).subset hd))
      omega
    have hsl : (sMid ds (((w : Int) + 1) * i) (((w : Int) + 1) * ((i : Int) + 1))).length ≤ lim := by rw [List.length_map] at hrow; omega
    unfold L1_law_fences LD2_law_fences
    dsimp only [lt, dlt]
    generalize List.map (fun (d : Int) => d - 3) (sMid ds (((w : Int) + 1) * i) (((w : Int) + 1) * ((i : Int) + 1))) = row at *
    have h0 : mulOk ((w : Int) + 1) i ∧ mulOk ((w : Int) + 1) ((i : Int) + 1) ∧ (0 : Int) ≤ ((w : Int) + 1) * i ∧ (0 : Int) ≤ ((w : Int) + 1) * ((i : Int) + 1) := ⟨mw _, mw _, by rw [e1]; omega, by rw [e2]; omega⟩
    by_cases ha : row.dropLast.any (fun i => i != 0) = true
    · rw [if_pos ha, if_pos ha]
      have hn : NZ row.dropLast := (anyL_iff _).mp ha
      have hW := wall_of hrow hn
      have hPD : PlainD row := ⟨hn.of_init, fun x hx => Nat.lt_of_le_of_lt (hrb x hx) (Nat.lt_of_lt_of_le (show 3 < 2 ^ 2 by decide) (Nat.pow_le_pow_right (by decide) (by decide))), by omega⟩
      by_cases hm : plainL row ∈ s
      · simp only [hm, decide_true, Bool.not_true, Bool.false_eq_true, if_false]
        exact ⟨⟨h0.1, h0.2.1, h0.2.2.1, h0.2.2.2, hsl, hPD, trivial⟩, by omega, hs.2⟩
      · simp only [hm, decide_false, Bool.not_false, if_true]
        refine ⟨⟨h0.1, h0.2.1, h0.2.2.1, h0.2.2.2, hsl, hPD, by omega⟩, by rw [List.length_append, List.length_singleton]; omega, fun W hW' => ?_, List.nodup_append.mpr ⟨hs.2.nd, by simp, fun a ha b hb e => hm (by rw [List.mem_singleton.mp hb] at e; rwa [← e])⟩, fun W hW' => ?_⟩
        · rcases List.mem_append.mp hW' with q | q
          · exact hs.2.wl W q
          · rw [List.mem_singleton.mp q]; exact hW
        · rcases List.mem_append.mp hW' with q | q
          · exact hs.2.bd W q
          · rw [List.mem_singleton.mp q]; exact plain_bd hn.of_init hrb
    · rw [if_neg ha, if_neg ha]
      exact ⟨⟨h0.1, h0.2.1, h0.2.2.1, h0.2.2.2, hsl, trivial⟩, by omega, hs.2⟩
  refine ⟨⟨mw _, d1, small_of (by omega), main.1, trivial⟩, ?_, main.2.2⟩
  have := main.2.1
  rw [irange_len] at this
  omega
theorem p1_turn {S y3 a b c d e : Sl} {t : PyData} (h : f__law_caught [.int 0, .list [t]] = .ok (.exn ⟨5, some 0⟩)) : p1_law [S, y3, .sh t, a, b, c, d, e] = .ok (.nx [S, y3, .sh t, .exn ⟨5, some 0⟩, b, c, d, e]) := by
  simp [p1_law, h, eOk]
theorem tail_none {S a3 a4 : Sl} {w A : PyData} {ds : List PyData} (hA : A = .list ds) (e1 : f__law_due [w, A] = .ok (.sh .none)) (e2 : f_looked [w, A] = .ok (.sh .none)) (hq : neD A A = .ok (.bool false)) : ∀ x2 x5, q4_law [S, .sh w, x2, a3, .ol ds, x5, .no, .no] = .ok (.rt (.sh (.bool true))) := fun x2 x5 => by
  have e3 := caught_ok e2
  subst hA
  simp [q4_law, fz1_eq, e1, e2, e3, hq, show isNo PyData.none = true from rfl]
theorem tail_some {S a3 : Sl} {w A : PyData} {ds : List PyData} {p : Int} (hA : A = .list ds) (e1 : f__law_due [w, A] = .ok (.sh (.int p))) (e2 : f_looked [w, A] = .err ⟨5, some p⟩) (hq : neD A A = .ok (.bool false)) : ∀ x2 x5, q4_law [S, .sh w, x2, a3, .ol ds, x5, .no, .no] = .ok (.rt (.sh (.bool true))) := fun x2 x5 => by
  have e3 := caught_err e2
  subst hA
  simp [q4_law, fz1_eq, e1, e2, e3, hq, eOk, ev_lwhole, fNewP, show isNo (PyData.int p) = false from rfl]
theorem tail_ok {S a3 : Sl} {w : Int} {n : Nat} {A : List (List Int)} (h : Rws n 8000 A) (hn : n ≤ 1000) (x2 x5 : Sl) : q4_law [S, .sh (eI w), x2, a3, .ol (A.map (eT eI)), x5, .no, .no] = .ok (.rt (.sh (.bool true))) := by
  have e1 := (ev_P_law_due w A (due_D h hn)).sh
  have e2 := looked_eq (w := w) h hn
  have hq : neD (eL (eT eI) A) (eL (eT eI) A) = .ok (.bool false) := neD_self (((q_L (q_T q_I)).dok A).mono (by decide))
  cases hP : P_law_due w A with
  | none =>
    rw [hP] at e1 e2
    exact tail_none (a4 := .no) rfl e1 e2 hq x2 x5
  | some p =>
    rw [hP] at e1 e2
    exact tail_some rfl e1 e2 hq x2 x5
theorem p2_turn {R : PyData} {A : List (List Int)} {k : Int} {m : Int} {a b c d e : Sl} (hA : A ≠ []) (em : f__law_mixed [R, .int (80 + k)] = .ok (.sh (.int m))) (es : f__law_spoiled (A.map (eT eI)) [.int m] = .ok ((P_law_spoiled A m).map (eT eI))) :
    p2_law [.sh R, a, b, c, .ol (A.map (eT eI)), .sh (.int k), d, e] = .ok (.nx [.sh R, a, b, c, .ol ((P_law_spoiled A m).map (eT eI)), .sh (.int k), d, e]) := by
  have hq : neD (eL (eT eI) A) (eL (eT eI) []) = .ok (.bool true) := by
    have := (t_ne (κ := []) (q_L (q_T q_I)) (t_c (eL (eT eI) A)) (t_c (eL (eT eI) []))) [] trivial
    rw [decide_eq_false hA] at this
    exact this
  have hq : neD (.list (A.map (eT eI))) (.list []) = .ok (.bool true) := hq
  generalize A.map (eT eI) = ds at *
  generalize (P_law_spoiled A m).map (eT eI) = ds' at *
  simp [p2_law, hq, em, fCallM, ownL, es, noErr]
theorem p2_none {R : PyData} {k : Int} {a b c d e : Sl} : p2_law [.sh R, a, b, c, .ol [], .sh (.int k), d, e] = .ok (.nx [.sh R, a, b, c, .ol [], .sh (.int k), d, e]) := by
  have hq : neD (.list []) (.list []) = .ok (.bool false) := neD_self (((q_L q_I).dok ([] : List Int)).mono (by decide))
  simp [p2_law, hq]
theorem due_one {t : List Int} (h1 : t.length ≤ 1) : P_law_due 0 [t] = some 0 := by
  rw [due_eq]
  have hb : bad 0 [t] 0 = true := by
    have : t.dropLast = [] := by
      match t, h1 with
      | [], _ => rfl
      | [a], _ => rfl
    unfold bad
    have hg : List.getD [t] (Int.toNat 0) default = t := rfl
    rw [hg, this]
    simp
  have hi : irange 0 (([t] : List (List Int)).length : Int) = [0] := rfl
  rw [hi, List.find?_cons, hb]
theorem one_ok {t : List Int} (h1 : t.length ≤ 1) (h2 : ∀ x ∈ t, x.natAbs ≤ 1) : f__law_caught [.int 0, .list [eT eI t]] = .ok (.exn ⟨5, some 0⟩) := by
  have hX : Rws 20 8000 [t] := ⟨by simp, fun r hr => by rw [List.mem_singleton.mp hr]; omega, fun r hr x hx => by
    rw [List.mem_singleton.mp hr] at hx
    exact Nat.lt_of_le_of_lt (h2 x hx) (Nat.one_lt_two_pow (by decide))⟩
  have e := caught_eq (w := 0) hX (by decide)
  rw [due_one h1] at e
  exact e
theorem loop_one (S y : Sl) : forF (tgN 2) p1_law [.tuple [.int 1], .tuple [.int 0], .tuple [], .tuple [.int (-1)]] [S, y, .no, .no, .no, .no, .no, .no] = .ok (.nx [S, y, .sh (.tuple [.int (-1)]), .exn ⟨5, some 0⟩, .no, .no, .no, .no]) := by
  have c1 := one_ok (t := [1]) (by decide) (by decide)
  have c2 := one_ok (t := [0]) (by decide) (by decide)
  have c3 := one_ok (t := []) (by decide) (by decide)
  have c4 := one_ok (t := [-1]) (by decide) (by decide)
  have go : ∀ (d : PyData) (ds : List PyData) (x2 a : Sl), f__law_caught [.int 0, .list [d]] = .ok (.exn ⟨5, some 0⟩) → forF (tgN 2) p1_law (d :: ds) [S, y, x2, a, .no, .no, .no, .no] = forF (tgN 2) p1_law ds [S, y, .sh d, .exn ⟨5, some 0⟩, .no, .no, .no, .no] := fun d ds x2 a h => by
    have e : forF (tgN 2) p1_law (d :: ds) [S, y, x2, a, .no, .no, .no, .no] = after (p1_law [S, y, .sh d, a, .no, .no, .no, .no]) (forF (tgN 2) p1_law ds) := rfl
    rw [e, p1_turn (b := .no) (c := .no) (d := .no) (e := .no) h, z_anx]
  have c1 : f__law_caught [.int 0, .list [.tuple [.int 1]]] = .ok (.exn ⟨5, some 0⟩) := c1
  have c2 : f__law_caught [.int 0, .list [.tuple [.int 0]]] = .ok (.exn ⟨5, some 0⟩) := c2
  have c3 : f__law_caught [.int 0, .list [.tuple []]] = .ok (.exn ⟨5, some 0⟩) := c3
  have c4 : f__law_caught [.int 0, .list [.tuple [.int (-1)]]] = .ok (.exn ⟨5, some 0⟩) := c4
  rw [go _ _ _ _ c1, go _ _ _ _ c2, go _ _ _ _ c3, go _ _ _ _ c4]
  rfl
theorem law_true (ns : List Int) (hl : ns.length ≤ 63) : f_law [.list (ns.map .int)] = .ok (.sh (.bool true)) := by
  have hlim : (lim : Nat) = 1000000 := rfl
  have ec := ev_lcell ns 0
  generalize ns.getD 0 0 = c at *
  have hd2 : divOk c 2 := divOk_lit (by decide) (by decide)
  have hd10 : divOk c 10 := divOk_lit (by decide) (by decide)
  obtain ⟨w, hw, ew⟩ : ∃ w : Nat, w ≤ 4 ∧ (c.fdiv 2).fmod 5 = (w : Int) := by
    have := fmod_bd (c.fdiv 2) 5 (by decide)
    exact ⟨((c.fdiv 2).fmod 5).toNat, by omega, by omega⟩
  obtain ⟨many, hm, emany⟩ : ∃ m : Int, (0 ≤ m ∧ m ≤ 12) ∧ (c.fdiv 10).fmod 9 = m := by
    have := fmod_bd (c.fdiv 10) 9 (by decide)
    exact ⟨_, by omega, rfl⟩
  obtain ⟨f1, f2, f3⟩ := fences_all ns 3 many w (by omega) hw hm
  have ef := (ev_P_law_fences ns 3 (w : Int) many f1).ol
  have hR : Rws 20 100 (P_law_fences ns 3 (w : Int) many) := ⟨by omega, fun r hr => by have := (f3.wl r hr).len; omega, fun r hr x hx => Nat.lt_of_le_of_lt (f3.bd r hr x hx) (by decide)⟩
  have emx := (ev_lmixed ns 2 (by decide)).sh
  have htm := fmod_bd (lmixed ns 2) 3 (by decide)
  have hr3 : Int.fmod (lmixed ns 2) 3 = (((Int.fmod (lmixed ns 2) 3).toNat : Nat) : Int) := by omega
  have ht3 : (Int.fmod (lmixed ns 2) 3).toNat ≤ 2 := by omega
  have hmod : modD (.int (lmixed ns 2)) (.int 3) = .ok (.int (((Int.fmod (lmixed ns 2) 3).toNat : Nat) : Int)) := by rw [modD_ok (by decide), ← hr3]
  obtain ⟨ρ', el, A, x5, hA, rfl⟩ := for_inv (T := tgN 5) (B := p2_law) (ds := (List.range (Int.fmod (lmixed ns 2) 3).toNat).map natD) (ρ := [.sh (.list (ns.map .int)), .sh (eI (w : Int)), .sh (.tuple [.int (-1)]), .exn ⟨5, some 0⟩, .ol ((P_law_fences ns 3 (w : Int) many).map (eT eI)), .no, .no, .no])
    (fun i ρ => ∃ (A : List (List Int)) (x5 : Sl), Rws (20 + i) (100 + 4 * i) A ∧ ρ = [.sh (.list (ns.map .int)), .sh (eI (w : Int)), .sh (.tuple [.int (-1)]), .exn ⟨5, some 0⟩, .ol (A.map (eT eI)), x5, .no, .no])
    ⟨_, .no, hR, rfl⟩ (fun i d ρ hd hI => by
      obtain ⟨A, x5, hA, rfl⟩ := hI
      rw [List.getElem?_map] at hd
      obtain ⟨j, hj, rfl⟩ := Option.map_eq_some_iff.mp hd
      have hji : i < (Int.fmod (lmixed ns 2) 3).toNat := by
        have := (List.getElem?_eq_some_iff.mp hj).1
        rwa [List.length_range] at this
      have hj2 : j < 3 := by
        have := List.mem_of_getElem? hj
        rw [List.mem_range] at this
        omega
      by_cases h0 : A = []
      · subst h0
        exact ⟨_, _, rfl, p2_none, [], _, hA.mono (by omega) (by omega), rfl⟩
      · have em := (ev_lmixed ns (80 + (j : Int)) (by omega)).sh
        have hb := lmixed_bd ns (80 + (j : Int))
        obtain ⟨s1, s2⟩ := spoiled_ok (m := lmixed ns (80 + (j : Int))) hA h0 (by omega) (by omega) hb
        exact ⟨_, _, rfl, p2_turn h0 em (ev_P_law_spoiled A _ s1), _, _, s2.mono (by omega) (by omega), rfl⟩)
  rw [List.length_map, List.length_range] at hA
  have et := tail_ok (S := .sh (.list (ns.map .int))) (w := (w : Int)) (a3 := .exn ⟨5, some 0⟩) (hA.mono (n' := 100) (b' := 8000) (by omega) (by omega)) (by decide) (.sh (.tuple [.int (-1)])) x5
  have ec : f__law_cell_at [.list (ns.map .int), .int 0] = .ok (.sh (.int c)) := ec
  have ef : f__law_fences [.list (ns.map .int), .int 3, .int (w : Int), .int many] = .ok (.ol ((P_law_fences ns 3 (w : Int) many).map (eT eI))) := ef
  have emx : f__law_mixed [.list (ns.map .int), .int 2] = .ok (.sh (.int (lmixed ns 2))) := emx
  have hrg := rng1_nat (n := (Int.fmod (lmixed ns 2) 3).toNat) (by omega)
  have el : forF (tgN 5) p2_law ((List.range (Int.fmod (lmixed ns 2) 3).toNat).map natD) [.sh (.list (ns.map .int)), .sh (.int (w : Int)), .sh (.tuple [.int (-1)]), .exn ⟨5, some 0⟩, .ol ((P_law_fences ns 3 (w : Int) many).map (eT eI)), .no, .no, .no] = _ := el
  have et : q4_law [.sh (.list (ns.map .int)), .sh (.int (w : Int)), .sh (.tuple [.int (-1)]), .exn ⟨5, some 0⟩, .ol (A.map (eT eI)), x5, .no, .no] = _ := et
  have e2 : q2_law [.sh (.list (ns.map .int)), .sh (.int (w : Int)), .sh (.tuple [.int (-1)]), .exn ⟨5, some 0⟩, .no, .no, .no, .no] = .ok (.rt (.sh (.bool true))) := by
    generalize (Int.fmod (lmixed ns 2) 3).toNat = t at *
    generalize lmixed ns 2 = mx at *
    generalize (P_law_fences ns 3 (w : Int) many).map (eT eI) = FS at *
    generalize A.map (eT eI) = AS at *
    generalize ns.map PyData.int = R at *
    have el : forF (tgN 5) p2_law ((List.range t).map natD) [.sh (.list R), .sh (.int (w : Int)), .sh (.tuple [.int (-1)]), .exn ⟨5, some 0⟩, .ol FS, .no, .no, .no] = .ok (.nx [.sh (.list R), .sh (.int (w : Int)), .sh (.tuple [.int (-1)]), .exn ⟨5, some 0⟩, .ol AS, x5, .no, .no]) := el
    simp [q2_law, ec, divD_ok hd10, modD_ok, emany, ef, emx, hmod, hrg, el, et]
  generalize ns.map PyData.int = R at *
  simp [f_law, fnOf1, b_law, ec, divD_ok hd2, modD_ok, ew, loop_one, e2]
end PF

open PySem PySem.W PyProof.Rows
set_option maxRecDepth 100000 in
set_option maxHeartbeats 0 in
theorem PySem.Challenge.cw_wallspace_k07_walls_looked_at_holds : PySem.Challenge.rw_wallspace_k07_walls_looked_at.Holds := by
  w_on; o_law; k_head; (case hw => w_witness2)
  k_fill
  refine PF.walk (l := PySem.Challenge.rw_wallspace_k07_walls_looked_at) rfl rfl (fun w h Y => PySem.W.kIn_of Y) ?F
  case F =>
    intro w mg fa h KX G hmg
    refine' PF.all_mk KX G hmg ?a0 ?l0 ?c0 ?k0 ?a1 ?l1 ?c1 ?k1 ?a2 ?l2 ?c2 ?k2 ?a3 ?l3 ?c3 ?k3 ?a4 ?l4 ?c4 ?k4 ?a5 ?l5 ?c5 ?k5 ?a6 ?l6 ?c6 ?k6 ?a7 ?l7 ?c7 ?k7 ?a8 ?l8 ?c8 ?k8 ?a9 ?l9 ?c9 ?k9 ?a10 ?l10 ?c10 ?k10 ?a11 ?l11 ?c11 ?k11 ?a12 ?l12 ?c12 ?k12 ?a13 ?l13 ?c13 ?k13 ?a14 ?l14 ?c14 ?k14 ?xa0 ?xa1 ?xa2 ?xa3 ?xa4 ?xa5 ?xk0 ?xb0 ?xt0 ?xi0 ?xga0 ?xgg0 ?xha0 ?xhd0 ?xhm0 ?xsv0 ?xsn0 ?xx0 ?xk1 ?xb1 ?xt1 ?xi1 ?xga1 ?xgg1 ?xha1 ?xhd1 ?xhm1 ?xsv1 ?xsn1 ?xx1 ?xk2 ?xb2 ?xt2 ?xi2 ?xga2 ?xgg2 ?xha2 ?xhd2 ?xhm2 ?xsv2 ?xsn2 ?xx2 ?xk3 ?xb3 ?xt3 ?xi3 ?xga3 ?xgg3 ?xha3 ?xhd3 ?xhm3 ?xsv3 ?xsn3 ?xx3 ?xk4 ?xb4 ?xt4 ?xi4 ?xga4 ?xgg4 ?xha4 ?xhd4 ?xhm4 ?xsv4 ?xsn4 ?xx4 ?xk5 ?xb5 ?xt5 ?xi5 ?xga5 ?xgg5 ?xha5 ?xhd5 ?xhm5 ?xsv5 ?xsn5 ?xs00 ?xs01 ?xs02 ?xs03 ?xs04 ?xs05 ?xs10 ?xs11 ?xs12 ?xs13 ?xs14 ?xs15 ?xs20 ?xs21 ?xs22 ?xs23 ?xs24 ?xs25 ?xs30 ?xs31 ?xs32 ?xs33 ?xs34 ?xs35 ?xs40 ?xs41 ?xs42 ?xs43 ?xs44 ?xs45 ?xs50 ?xs51 ?xs52 ?xs53 ?xs54 ?xs55 ?xhn ?xht ?xL ?xsa ?xno ?xI ?xtI ?xlI ?xcI ?xkI ?z_ValueError ?z_abs ?z_any ?z_bool ?z_int ?z_isinstance ?z_len ?z_list ?z_min ?z_range ?z_tuple PF.law_true
    (case xa0 => k_is)
    (case xa1 => k_is)
    (case xa2 => k_is)
    (case xa3 => k_is)
    (case xa4 => k_is)
    (case xa5 => k_is)
    (case xk0 => k_is)
    (case xb0 => k_is)
    (case xt0 => k_is)
    (case xi0 => k_is)
    (case xga0 => k_is)
    (case xgg0 => k_is)
    (case xha0 => k_is)
    (case xhd0 => k_is)
    (case xhm0 => k_is)
    (case xsv0 => k_is)
    (case xsn0 => k_is)
    (case xx0 => k_exc)
    (case xk1 => k_is)
    (case xb1 => k_is)
    (case xt1 => k_is)
    (case xi1 => k_is)
    (case xga1 => k_is)
    (case xgg1 => k_is)
    (case xha1 => k_is)
    (case xhd1 => k_is)
    (case xhm1 => k_is)
    (case xsv1 => k_is)
    (case xsn1 => k_is)
    (case xx1 => k_exc)
    (case xk2 => k_is)
    (case xb2 => k_is)
    (case xt2 => k_is)
    (case xi2 => k_is)
    (case xga2 => k_is)
    (case xgg2 => k_is)
    (case xha2 => k_is)
    (case xhd2 => k_is)
    (case xhm2 => k_is)
    (case xsv2 => k_is)
    (case xsn2 => k_is)
    (case xx2 => k_exc)
    (case xk3 => k_is)
    (case xb3 => k_is)
    (case xt3 => k_is)
    (case xi3 => k_is)
    (case xga3 => k_is)
    (case xgg3 => k_is)
    (case xha3 => k_is)
    (case xhd3 => k_is)
    (case xhm3 => k_is)
    (case xsv3 => k_is)
    (case xsn3 => k_is)
    (case xx3 => k_exc)
    (case xk4 => k_is)
    (case xb4 => k_is)
    (case xt4 => k_is)
    (case xi4 => k_is)
    (case xga4 => k_is)
    (case xgg4 => k_is)
    (case xha4 => k_is)
    (case xhd4 => k_is)
    (case xhm4 => k_is)
    (case xsv4 => k_is)
    (case xsn4 => k_is)
    (case xx4 => k_exc)
    (case xk5 => k_is)
    (case xb5 => k_is)
    (case xt5 => k_is)
    (case xi5 => k_is)
    (case xga5 => k_is)
    (case xgg5 => k_is)
    (case xha5 => k_is)
    (case xhd5 => k_is)
    (case xhm5 => k_is)
    (case xsv5 => k_is)
    (case xsn5 => k_is)
    (case xs00 => first | rfl | k_is)
    (case xs01 => first | rfl | k_is)
    (case xs02 => first | rfl | k_is)
    (case xs03 => first | rfl | k_is)
    (case xs04 => first | rfl | k_is)
    (case xs05 => first | rfl | k_is)
    (case xs10 => first | rfl | k_is)
    (case xs11 => first | rfl | k_is)
    (case xs12 => first | rfl | k_is)
    (case xs13 => first | rfl | k_is)
    (case xs14 => first | rfl | k_is)
    (case xs15 => first | rfl | k_is)
    (case xs20 => first | rfl | k_is)
    (case xs21 => first | rfl | k_is)
    (case xs22 => first | rfl | k_is)
    (case xs23 => first | rfl | k_is)
    (case xs24 => first | rfl | k_is)
    (case xs25 => first | rfl | k_is)
    (case xs30 => first | rfl | k_is)
    (case xs31 => first | rfl | k_is)
    (case xs32 => first | rfl | k_is)
    (case xs33 => first | rfl | k_is)
    (case xs34 => first | rfl | k_is)
    (case xs35 => first | rfl | k_is)
    (case xs40 => first | rfl | k_is)
    (case xs41 => first | rfl | k_is)
    (case xs42 => first | rfl | k_is)
    (case xs43 => first | rfl | k_is)
    (case xs44 => first | rfl | k_is)
    (case xs45 => first | rfl | k_is)
    (case xs50 => first | rfl | k_is)
    (case xs51 => first | rfl | k_is)
    (case xs52 => first | rfl | k_is)
    (case xs53 => first | rfl | k_is)
    (case xs54 => first | rfl | k_is)
    (case xs55 => first | rfl | k_is)
    (case xhn => k_is)
    (case xht => k_is)
    (case xL => k_is)
    (case xsa => k_is)
    (case xno => k_is)
    (case xI => k_is)
    (case xtI => k_is)
    (case xlI => k_is)
    (case xcI => k_is)
    (case xkI => k_is)
    (case a0 => k_is); (case l0 => k_is); (case c0 => k_is); (case k0 => k_is)
    (case a1 => k_is); (case l1 => k_is); (case c1 => k_is); (case k1 => k_is)
    (case a2 => k_is); (case l2 => k_is); (case c2 => k_is); (case k2 => k_is)
    (case a3 => k_is); (case l3 => k_is); (case c3 => k_is); (case k3 => k_is)
    (case a4 => k_is); (case l4 => k_is); (case c4 => k_is); (case k4 => k_is)
    (case a5 => k_is); (case l5 => k_is); (case c5 => k_is); (case k5 => k_is)
    (case a6 => k_is); (case l6 => k_is); (case c6 => k_is); (case k6 => k_is)
    (case a7 => k_is); (case l7 => k_is); (case c7 => k_is); (case k7 => k_is)
    (case a8 => k_is); (case l8 => k_is); (case c8 => k_is); (case k8 => k_is)
    (case a9 => k_is); (case l9 => k_is); (case c9 => k_is); (case k9 => k_is)
    (case a10 => k_is); (case l10 => k_is); (case c10 => k_is); (case k10 => k_is)
    (case a11 => k_is); (case l11 => k_is); (case c11 => k_is); (case k11 => k_is)
    (case a12 => k_is); (case l12 => k_is); (case c12 => k_is); (case k12 => k_is)
    (case a13 => k_is); (case l13 => k_is); (case c13 => k_is); (case k13 => k_is)
    (case a14 => k_is); (case l14 => k_is); (case c14 => k_is); (case k14 => k_is)
    (case z_ValueError => k_is)
    (case z_abs => k_is)
    (case z_any => k_is)
    (case z_bool => k_is)
    (case z_int => k_is)
    (case z_isinstance => k_is)
    (case z_len => k_is)
    (case z_list => k_is)
    (case z_min => k_is)
    (case z_range => k_is)
    (case z_tuple => k_is)

